import Derived.Test.YtihciioopdalnaaTK7
import Derived.Test.YtihciioopdalnaaTK5
namespace Go.Proofs.Ytihciioopdalnaa
set_option maxRecDepth 20000
set_option linter.unusedVariables false
set_option linter.unusedSimpArgs false
open Go.SE Go.RowKit
attribute [local irreducible] macS sumS
theorem usL_mem {key : List (BitVec 8)} {nx : Int} {L : List Ent} {tk : List (BitVec 8)} {e : Ent} (h : e ∈ usL key nx L tk) : e ∈ L := by
 unfold usL at h
 split at h
 · exact List.mem_of_mem_eraseIdx h
 · cases h
theorem ruL_mem {key : List (BitVec 8)} {nx : Int} {L : List Ent} {tk : List (BitVec 8)} {e : Ent} (h : e ∈ ruL key nx L tk) : e ∈ L := by
 unfold ruL at h
 split at h
 · unfold flt at h; exact (List.mem_filter.1 h).1
 · cases h

attribute [local irreducible] tkT rightT risB lastId
attribute [local irreducible] nuI nuOk idxS idxI mintL miE miK miN miL miI usE usK usN usL usI knN saB fdB flt ruE ruK ruN ruL ruI
set_option maxHeartbeats 2000000 in
theorem l_TRaw {key : List (BitVec 8)} {next : Int} {L : List Ent} {A : Option Addr} {n c b q : Nat} {tk : List (BitVec 8)} {Atk : Option Addr} {ntk ctk btk qtk : Nat} {id : Int} (hkey : key.length = 32) (hL : L.length = n) (hA : 0 < n → A = some ⟨b, q, none⟩) (hc : n ≤ c) (hntk : tk.length = ntk) (hAtk : 0 < ntk → Atk = some ⟨btk, qtk, none⟩) (hctk : ntk ≤ ctk) (hn : n ≤ 3518437208780) (hie : ∀ e ∈ L, -9223372036854775808 ≤ e.id ∧ e.id ≤ 9223372036854775807) :
  Con Try.prog 6 [.agg ([(key).map u8V, [iV next, .slice A n c]].flatten).toArray, .slice Atk ntk ctk, iV id] [⟨false, b, q, 0, encs EntE L, 0⟩, pRow btk qtk tk] (fun v rs => v = .bool true ∧ rs = []) := by
 refine Con.enter Try.func6 Try.ntmps6 (Nat.le_of_ble_eq_true rfl) rfl fun w => ?_
 refine At.seq ?_
 refine At.region ?_
 refine At.s (S_box (some 3) 3 (zs := [(key).map u8V, [iV next, .slice A n c]].flatten) rfl rfl rfl (fun b3 => ?_))
 refine At.p (some 6) (P_assign rfl rfl) ?_
 refine At.nil ?_
 refine At.next ?_
 refine At.seq ?_
 refine At.region ?_
 refine At.q (some 17) (Q_loadA (k := 3) rfl rfl Try.underlying44 rfl sz44 LN rfl) ?_
 refine At.s (S_callV (some 18) [(0, _)] [18] (vs := [_]) rfl en34 rfl (VN (by simp) rfl View.all V0) (by simp) (c_to (key := key) (next := next) (L := L) (A := A) (n := n) (c := c) (b := b) (q := q) LN LN hA OG OG) (by rintro _ _ ⟨A18, b18, c18, g18a, g18b, rfl, rfl⟩; rfl) ?_)
 rintro _ _ ⟨A18, b18, c18, g18a, g18b, rfl, rfl⟩
 refine At.s (S_alloc (some 7) 7 (zs := [(List.replicate 32 0#8).map u8V, [iV 0, .slice none 0 0]].flatten) rfl ze40 rfl (fun b7 => ?_))
 refine At.s (S_storeA none (k := 7) (vs := [(key).map u8V, [iV next, .slice A18 L.length c18]].flatten) rfl rfl rfl (by rw [sz40]; exact congrArg some LN) rfl (one_flatc (one_map (fun _ => rfl)) (one_flatc (one_cons rfl (one_cons rfl one_nil)) one_flat0)) NG rfl LN ?_)
 refine At.nil ?_
 refine At.next ?_
 refine At.seq ?_
 refine At.region ?_
 refine At.q (some 20) (Q_loadA (k := 7) rfl rfl Try.underlying40 rfl sz40 LN rfl) ?_
 refine At.p (some 21) (P_build_arr (cs := ((List.replicate 32 0#8).map u8V).toArray) (parts := _) (vs := []) rfl Try.underlying23 sz5 ze23 rfl rfl) ?_
 refine At.s (S_callV (some 22) [(18, _)] [22] (vs := [_, _]) rfl en26 rfl (VN (by simp) rfl View.all V0) (by simp) (c_Mint (key := key) (next := next) (L := L) (A := A18) (n := L.length) (c := c18) (b := b18) (q := 0) (psk := (List.replicate 32 0#8)) LN LN (fun h => g18a (by omega)) OG LN) (by rintro _ _ ⟨A22, b22, c22, g22a, g22b, rfl, rfl⟩; rfl) ?_)
 rintro _ _ ⟨A22, b22, c22, g22a, g22b, rfl, rfl⟩
 have := miK_len next L (key := key) LN
 refine At.p (some 19) (P_move rfl rfl) ?_
 refine At.p (some 23) (P_extract rfl rfl rfl) ?_
 refine At.p (some 24) (P_extract rfl rfl rfl) ?_
 refine At.p (some 25) (P_extract rfl rfl rfl) ?_
 refine At.s (S_alloc (some 8) 8 (zs := [(List.replicate 32 0#8).map u8V, [iV 0, .slice none 0 0]].flatten) rfl ze40 rfl (fun b8 => ?_))
 refine At.s (S_storeA none (k := 8) (vs := [(miK key next L).map u8V, [iV (miN next L), .slice A22 ((miL next L (List.replicate 32 0#8)).length) c22]].flatten) rfl rfl rfl (by rw [sz40]; exact congrArg some LN) rfl (one_flatc (one_map (fun _ => rfl)) (one_flatc (one_cons rfl (one_cons rfl one_nil)) one_flat0)) NG rfl LN ?_)
 refine At.p (some 9) (P_assign rfl rfl) ?_
 refine At.p (some 10) (P_assign rfl rfl) ?_
 refine At.nil ?_
 refine At.next ?_
 refine At.seq ?_
 refine At.region ?_
 refine At.q (some 27) (Q_loadA (k := 7) rfl rfl Try.underlying40 rfl sz40 LN rfl) ?_
 refine At.p (some 28) (P_move rfl rfl) ?_
 refine At.s (S_callV (some 29) [(18, _), (1, _)] [29] (vs := [_, _]) rfl en29 rfl (VN (by simp) rfl View.all (VN (by simp) rfl View.all V0)) (by simp) (c_Use (key := key) (next := next) (L := L) (A := A18) (n := L.length) (c := c18) (b := b18) (q := 0) (tk := tk) (ntk := ntk) (Atk := Atk) (ctk := ctk) (btk := btk) (qtk := qtk) LN LN (fun h => g18a (by omega)) OG LN hAtk OG) (by rintro _ _ ⟨A29, b29, c29, g29a, g29b, rfl, rfl⟩; rfl) ?_)
 rintro _ _ ⟨A29, b29, c29, g29a, g29b, rfl, rfl⟩
 have := usK_len next L tk (key := key) LN
 refine At.p (some 26) (P_move rfl rfl) ?_
 refine At.p (some 30) (P_extract rfl rfl rfl) ?_
 refine At.p (some 31) (P_extract rfl rfl rfl) ?_
 refine At.p (some 32) (P_extract rfl rfl rfl) ?_
 refine At.s (S_alloc (some 11) 11 (zs := [(List.replicate 32 0#8).map u8V, [iV 0, .slice none 0 0]].flatten) rfl ze40 rfl (fun b11 => ?_))
 refine At.s (S_storeA none (k := 11) (vs := [(usK key next L tk).map u8V, [iV (usN key next L tk), .slice A29 ((usL key next L tk).length) c29]].flatten) rfl rfl rfl (by rw [sz40]; exact congrArg some LN) rfl (one_flatc (one_map (fun _ => rfl)) (one_flatc (one_cons rfl (one_cons rfl one_nil)) one_flat0)) NG rfl LN ?_)
 refine At.p (some 12) (P_assign rfl rfl) ?_
 refine At.p (some 13) (P_assign rfl rfl) ?_
 refine At.nil ?_
 refine At.next ?_
 refine At.seq ?_
 refine At.seq ?_
 refine At.draws 19 [] [.q false [0, 1, 2, 3, 4, 5, 6, 7, 8, 9, 10, 11, 14, 15, 16], .e false 12, .q false [13], .e false 17, .q false [18]] (by kernel_rfl) (by kernel_rfl) ?_
 refine At.wcV (some 33) [] (vs := []) rfl en33 rfl V0 (c_mints  ) ?_
 refine At.wp (some 34) (P_not rfl rfl) ?_
 refine At.wp (some 35) (P_move rfl rfl) ?_
 refine At.wgyq (some 36) (t := 35) rfl rfl rfl rfl (Q_loadA (k := 7) rfl rfl Try.underlying40 rfl sz40 LN rfl) ?_
 refine At.wcVg (some 37) [(18, _)] (tt := 35) rfl rfl rfl rfl (vs := [_]) rfl en32 rfl (VN (by simp) rfl View.all V0) (c_TRight (key := key) (next := next) (L := L) (A := A18) (n := L.length) (c := c18) (b := b18) (q := 0) LN LN (fun h => g18a (by omega)) OG) ?_
 refine At.wgyq (some 38) (t := 35) rfl rfl rfl rfl (Q_loadA (k := 3) rfl rfl Try.underlying44 rfl sz44 LN rfl) ?_
 refine At.wcVg (some 39) [(0, _)] (tt := 35) rfl rfl rfl rfl (vs := [_]) rfl en35 rfl (VN (by simp) rfl View.all V0) (r_TRight (key := key) (next := next) (L := L) (A := A) (n := n) (c := c) (b := b) (q := q) LN LN hA OG) ?_
 refine At.wgy (some 40) (t := 35) rfl rfl rfl rfl (P_neq_bool rfl Try.underlying4 rfl rfl) ?_
 refine At.wp (some 41) (P_pick_f rfl rfl rfl rfl) ?_
 refine At.wp (some 42) (P_move rfl rfl) ?_
 refine At.wgyq (some 43) (t := 42) rfl (by simp) rfl rfl (Q_loadA (k := 7) rfl rfl Try.underlying40 rfl sz40 LN rfl) ?_
 refine At.wgy (some 44) (t := 42) rfl (by simp) rfl rfl (P_move rfl rfl) ?_
 refine At.wgy (some 47) (t := 42) rfl (by simp) rfl rfl (P_fieldAddr0 (off := 0) rfl Try.underlying44 rfl sz23 rfl rfl) ?_
 refine At.wgyq (some 48) (t := 42) rfl (by simp) rfl rfl (Q_loadN (k := 3) (j := 0) (cs := (key).map u8V) rfl rfl Try.underlying23 rfl sz23 rfl rfl rfl (seg_at (i := 0) rfl LN LN) LN) ?_
 refine At.wgy (some 49) (t := 42) rfl (by simp) rfl rfl (P_move rfl rfl) ?_
 refine At.wqn ?_
 refine At.wey (t := 42) rfl (by simp) rfl rfl ?_
 refine SStep.up (S_callV (some 45) [(18, _)] [45] (vs := [_, _]) rfl en36 rfl (VN (by simp) rfl View.all V0) (by simp) (c_TText (key := key) (next := next) (L := L) (A := A18) (n := L.length) (c := c18) (b := b18) (q := 0) (id := id) LN LN (fun h => g18a (by omega)) OG) (by rintro _ _ ⟨A45, b45, c45, g45a, g45b, rfl, rfl⟩; rfl) ?_)
 rintro _ _ ⟨A45, b45, c45, g45a, g45b, rfl, rfl⟩
 have := tk_le key id
 refine At.wgyq (some 46) (t := 42) rfl (by simp) rfl rfl (Q_strA (l := (tkT key id)) (n := ((tkT key id).length)) (k := 45) LN rfl Try.underlying22 Try.underlying5 Try.underlying9 rfl (fun h => g45a (by omega)) (fun _ => ⟨rfl, rfl, rfl⟩)) ?_
 refine At.wqn ?_
 refine At.wey (t := 42) rfl (by simp) rfl rfl ?_
 refine SStep.up (S_callV (some 50) [] [50] (vs := [_, _]) rfl en28 rfl V0 (by simp) (r_TText (key := key) (id := id) LN) (by rintro _ _ ⟨A50, b50, c50, g50a, g50b, rfl, rfl⟩; rfl) ?_)
 rintro _ _ ⟨A50, b50, c50, g50a, g50b, rfl, rfl⟩
 have := tk_le key id
 refine At.wgyq (some 51) (t := 42) rfl (by simp) rfl rfl (Q_strA (l := (tkT key id)) (n := ((tkT key id).length)) (k := 50) LN rfl Try.underlying22 Try.underlying5 Try.underlying9 rfl (fun h => g50a (by omega)) (fun _ => ⟨rfl, rfl, rfl⟩)) ?_
 refine At.wqn ?_
 refine At.wt rfl ?_
 refine At.gy (t := 42) rfl (by simp) rfl rfl ?_
 refine At.p (some 52) (P_neq_str (a := (tkT key id)) (b := (tkT key id)) rfl rfl rfl) ?_
 refine At.p (some 53) (P_pick_f rfl rfl (by simp) rfl) ?_
 refine At.nil ?_
 refine At.next ?_
 refine At.cond rfl (fun h53 => (by simp at h53)) (fun h53 => ?_)
 have e53 : (tkT key id) = (tkT key id) := (by first | (simp; done) | simpa using h53)
 refine At.skip ?_
 refine At.next ?_
 refine At.seq ?_
 refine At.seq ?_
 refine At.region ?_
 refine At.q (some 54) (Q_loadA (k := 3) rfl rfl Try.underlying44 rfl sz44 LN rfl) ?_
 refine At.s (S_callV (some 55) [(0, _)] [] (vs := [_]) rfl en35 rfl (VN (by simp) rfl View.all V0) (by simp) (r_TRight (key := key) (next := next) (L := L) (A := A) (n := n) (c := c) (b := b) (q := q) LN LN hA OG) (by rintro _ _ ⟨rfl, rfl⟩; rfl) ?_)
 rintro _ _ ⟨rfl, rfl⟩
 refine At.p (some 56) (P_not rfl rfl) ?_
 refine At.nil ?_
 refine At.next ?_
 refine At.cond rfl (fun h56 => ?_) (fun h56 => ?_)
 · -- cond 56 t
  have e56 : rightT next L = false := (by first | (simp; done) | simpa using h56)
  refine At.seq ?_
  have hm1 := miE_1 e56
  have hu1 := usE_1 (key := key) (tk := tk) e56
  have hk1 := kn_f e56
  refine At.region ?_
  refine At.p (some 57) (P_move rfl rfl) ?_
  refine At.p (some 58) (P_cmp rfl rfl rfl rfl rfl rfl) ?_
  refine At.p (some 59) (P_move rfl rfl) ?_
  refine At.gy (t := 59) rfl (by rw [hm1]; rfl) rfl rfl ?_
  refine At.p (some 60) (P_move rfl rfl) ?_
  refine At.gy (t := 59) rfl (by rw [hm1]; rfl) rfl rfl ?_
  refine At.p (some 61) (P_cmp rfl rfl rfl rfl rfl rfl) ?_
  refine At.p (some 62) (P_pick_t rfl rfl (by rw [hm1]; rfl) rfl) ?_
  refine At.p (some 63) (P_move rfl rfl) ?_
  refine At.gy (t := 63) rfl (by rw [hu1]; rfl) rfl rfl ?_
  refine At.q (some 64) (Q_loadA (k := 7) rfl rfl Try.underlying40 rfl sz40 LN rfl) ?_
  refine At.gy (t := 63) rfl (by rw [hu1]; rfl) rfl rfl ?_
  refine At.s (S_callV (some 65) [(18, _)] [] (vs := [_]) rfl en31 rfl (VN (by simp) rfl View.all V0) (by simp) (c_KnownN (key := key) (next := next) (L := L) (A := A18) (n := L.length) (c := c18) (b := b18) (q := 0) LN LN (fun h => g18a (by omega)) OG) (by rintro _ _ ⟨A65, c65, rfl, rfl⟩; rfl) ?_)
  rintro _ _ ⟨A65, c65, rfl, rfl⟩
  refine At.gy (t := 63) rfl (by rw [hu1]; rfl) rfl rfl ?_
  refine At.p (some 66) (P_len_sl rfl rfl ⟨_, Try.underlying60⟩ rfl) ?_
  refine At.gy (t := 63) rfl (by rw [hu1]; rfl) rfl rfl ?_
  refine At.p (some 67) (P_cmp rfl rfl rfl rfl rfl rfl) ?_
  refine At.p (some 68) (P_pick_t rfl rfl (by rw [hu1]; rfl) rfl) ?_
  refine At.p (some 6) (P_assign rfl rfl) ?_
  refine At.nil ?_
  refine At.next ?_
  refine At.ret ?_
  refine At.thn_r ?_
  have hq0 : (((knN next L) : Int) == 0) = true := (by first | (rw [hk1]; rfl) | (rw [hkt, hL]; simp; done))
  refine At.give (.inl rfl) [] (rows' := []) (vs := [_]) rfl ⟨rfl, trivial⟩ rfl (by simp) (by simp) ⟨(by first | (rw [hq0]; try rfl; done) | (rw [← hq0]; try rfl; done) | (simp only [hq0]; try rfl; done) | (simp only [← hq0]; try rfl; done) | rfl), (by first | (rw [hq0]; try rfl; done) | (rw [← hq0]; try rfl; done) | (simp only [hq0]; try rfl; done) | (simp only [← hq0]; try rfl; done) | rfl)⟩
 · -- cond 56 f
  have e56 : rightT next L = true := (by first | (simp; done) | simpa using h56)
  refine At.skip ?_
  refine At.next ?_
  refine At.seq ?_
  refine At.region ?_
  refine At.q (some 70) (Q_loadA (k := 3) rfl rfl Try.underlying44 rfl sz44 LN rfl) ?_
  refine At.p (some 71) (P_move rfl rfl) ?_
  refine At.s (S_callV (some 72) [(0, _), (1, _)] [72] (vs := [_, _]) rfl en30 rfl (VN (by simp) rfl View.all (VN (by simp) rfl View.all V0)) (by simp) (r_Use (key := key) (next := next) (L := L) (A := A) (n := n) (c := c) (b := b) (q := q) (tk := tk) (ntk := ntk) (Atk := Atk) (ctk := ctk) (btk := btk) (qtk := qtk) LN LN hA OG LN hAtk OG OG) (by rintro _ _ ⟨A72, b72, c72, g72a, g72b, rfl, rfl⟩; rfl) ?_)
  rintro _ _ ⟨A72, b72, c72, g72a, g72b, rfl, rfl⟩
  have := ruK_len next L tk (key := key) LN
  refine At.p (some 69) (P_move rfl rfl) ?_
  refine At.p (some 73) (P_extract rfl rfl rfl) ?_
  refine At.p (some 74) (P_extract rfl rfl rfl) ?_
  refine At.p (some 75) (P_extract rfl rfl rfl) ?_
  refine At.s (S_alloc (some 14) 14 (zs := [(List.replicate 32 0#8).map u8V, [iV 0, .slice none 0 0]].flatten) rfl ze44 rfl (fun b14 => ?_))
  refine At.s (S_storeA none (k := 14) (vs := [(ruK key next L tk).map u8V, [iV (ruN key next L tk), .slice A72 ((ruL key next L tk).length) c72]].flatten) rfl rfl rfl (by rw [sz44]; exact congrArg some LN) rfl (one_flatc (one_map (fun _ => rfl)) (one_flatc (one_cons rfl (one_cons rfl one_nil)) one_flat0)) NG rfl LN ?_)
  refine At.p (some 15) (P_assign rfl rfl) ?_
  refine At.p (some 16) (P_assign rfl rfl) ?_
  refine At.nil ?_
  refine At.next ?_
  refine At.seq ?_
  refine At.seq ?_
  have hme := miE_r e56
  refine At.region ?_
  refine At.p (some 76) (P_move rfl rfl) ?_
  refine At.p (some 77) (P_cmp rfl rfl rfl rfl rfl rfl) ?_
  refine At.p (some 78) (P_fieldAddr0 (off := 32) rfl Try.underlying44 rfl sz3 rfl rfl) ?_
  refine At.q (some 79) (Q_loadO (k := 3) rfl rfl Try.underlying3 rfl rfl (seg_get (i := 1) (p := 0) rfl LN rfl)) ?_
  refine At.p (some 80) (P_cmp rfl rfl rfl rfl rfl rfl) ?_
  refine At.p (some 81) (P_neq_bool rfl Try.underlying4 rfl rfl) ?_
  refine At.p (some 82) (P_move rfl rfl) ?_
  refine At.gy (t := 82) rfl (by rw [hme]; split <;> simp_all) rfl rfl ?_
  refine At.p (some 83) (P_move rfl rfl) ?_
  refine At.gy (t := 82) rfl (by rw [hme]; split <;> simp_all) rfl rfl ?_
  refine At.p (some 84) (P_cmp rfl rfl rfl rfl rfl rfl) ?_
  refine At.gy (t := 82) rfl (by rw [hme]; split <;> simp_all) rfl rfl ?_
  refine At.p (some 85) (P_move rfl rfl) ?_
  refine At.gsplit (t := 85) (want := true) rfl (fun g1 => ?_) (fun g1 => ?_)
  ·
   have eg1 : (miE next L) = 0 := eq_of_beq g1
   refine At.gy (t := 85) rfl g1 rfl rfl ?_
   refine At.p (some 86) (P_move rfl rfl) ?_
   refine At.gy (t := 85) rfl g1 rfl rfl ?_
   refine At.p (some 87) (P_fieldAddr0 (off := 32) rfl Try.underlying44 rfl sz3 rfl rfl) ?_
   refine At.gy (t := 85) rfl g1 rfl rfl ?_
   refine At.q (some 88) (Q_loadO (k := 3) rfl rfl Try.underlying3 rfl rfl (seg_get (i := 1) (p := 0) rfl LN rfl)) ?_
   refine At.gy (t := 85) rfl g1 rfl rfl ?_
   refine At.p (some 89) (P_cmp rfl rfl rfl rfl rfl rfl) ?_
   refine At.gy (t := 82) rfl (by rw [hme]; split <;> simp_all) rfl rfl ?_
   refine At.p (some 90) (P_pick_t rfl rfl g1 rfl) ?_
   refine At.p (some 91) (P_pick_f rfl rfl (by rw [hme]; split <;> simp_all) rfl) ?_
   refine At.nil ?_
   refine At.next ?_
   refine At.cond rfl (fun h91 => (by exfalso; rw [miI_r e56 (by simp_all)] at h91; simp at h91)) (fun h91 => ?_)
   have e91 : (miI next L) = next := bne_eq_false_iff_eq.1 h91
   refine At.skip ?_
   refine At.next ?_
   refine At.seq ?_
   obtain ⟨hE, hS⟩ := us_ru (key := key) (tk := tk) e56
   have hul := usL_le key next L tk
   have hkt := kn_t e56
   refine At.draws 25 [] [.q false [0, 1, 2, 3, 4, 5, 6, 7, 9], .e false 8, .q false [10, 11, 12, 13, 14, 15, 16, 17, 18, 19, 22, 23, 24], .e false 20, .q false [21]] (by kernel_rfl) (by kernel_rfl) ?_
   refine At.wp (some 92) (P_move rfl rfl) ?_
   refine At.wp (some 93) (P_move rfl rfl) ?_
   refine At.wp (some 94) (P_cmp rfl rfl rfl rfl rfl rfl) ?_
   refine At.wp (some 95) (P_move rfl rfl) ?_
   refine At.wgy (some 96) (t := 95) rfl (by rw [hE]; simp) rfl rfl (P_move rfl rfl) ?_
   refine At.wgy (some 97) (t := 95) rfl (by rw [hE]; simp) rfl rfl (P_cmp rfl rfl rfl rfl rfl rfl) ?_
   refine At.wgy (some 98) (t := 95) rfl (by rw [hE]; simp) rfl rfl (P_move rfl rfl) ?_
   refine At.wsplit (t := 98) (want := false) rfl (fun g2 => ?_) (fun g2 => ?_)
   ·
    have eg2 : (usE key next L tk) = 0 := bne_eq_false_iff_eq.1 g2
    refine At.wgyq (some 99) (t := 98) rfl g2 rfl rfl (Q_loadA (k := 11) rfl rfl Try.underlying40 rfl sz40 LN rfl) ?_
    refine At.wgyq (some 101) (t := 98) rfl g2 rfl rfl (Q_loadA (k := 14) rfl rfl Try.underlying44 rfl sz44 LN rfl) ?_
    refine At.wqn ?_
    refine At.wey (t := 98) rfl g2 rfl rfl ?_
    refine SStep.up (S_callV (some 100) [(29, _)] [100] (vs := [_]) rfl en25 rfl (VN (by simp) rfl View.all V0) (by simp) (c_from (key := (usK key next L tk)) (next := (usN key next L tk)) (L := (usL key next L tk)) (A := A29) (n := ((usL key next L tk).length)) (c := c29) (b := b29) (q := 0) LN LN (fun h => g29a (by omega)) OG OG) (by rintro _ _ ⟨A100, b100, c100, g100a, g100b, rfl, rfl⟩; rfl) ?_)
    rintro _ _ ⟨A100, b100, c100, g100a, g100b, rfl, rfl⟩
    refine At.wcVg (some 102) [(100, _), (72, _)] (tt := 98) rfl g2 rfl rfl (vs := [_, _]) rfl en27 rfl (VN (by simp) rfl View.all (VN (by simp) rfl View.all V0)) (r_Same (keya := (usK key next L tk)) (nexta := (usN key next L tk)) (La := (usL key next L tk)) (Aa := A100) (na := ((usL key next L tk).length)) (ca := c100) (ba := b100) (qa := 0) (keyb := (ruK key next L tk)) (nextb := (ruN key next L tk)) (Lb := (ruL key next L tk)) (Ab := A72) (nb := ((ruL key next L tk).length)) (cb := c72) (bb := b72) (qb := 0) LN LN (fun h => g100a (by omega)) OG LN LN (fun h => g72a (by omega)) OG OG (fun e he => hie e (usL_mem he)) (fun e he => hie e (ruL_mem he))) ?_
    refine At.wgy (some 103) (t := 98) rfl g2 rfl rfl (P_move rfl rfl) ?_
    refine At.wgy (some 104) (t := 103) rfl (hS (by simp_all)).1 rfl rfl (P_move rfl rfl) ?_
    refine At.wgy (some 105) (t := 103) rfl (hS (by simp_all)).1 rfl rfl (P_move rfl rfl) ?_
    refine At.wgy (some 106) (t := 103) rfl (hS (by simp_all)).1 rfl rfl (P_cmp rfl rfl rfl rfl rfl rfl) ?_
    refine At.wgy (some 107) (t := 98) rfl g2 rfl rfl (P_pick_t rfl rfl (hS (by simp_all)).1 rfl) ?_
    refine At.wgy (some 108) (t := 95) rfl (by rw [hE]; simp) rfl rfl (P_pick_f rfl rfl g2 rfl) ?_
    refine At.wp (some 109) (P_pick_t rfl rfl (by rw [hE]; simp) rfl) ?_
    refine At.wp (some 110) (P_move rfl rfl) ?_
    refine At.wgyq (some 111) (t := 110) rfl (by first | rfl | (rw [(hS (by simp_all)).2]; simp; done) | simp_all) rfl rfl (Q_loadA (k := 7) rfl rfl Try.underlying40 rfl sz40 LN rfl) ?_
    refine At.wgy (some 114) (t := 110) rfl (by first | rfl | (rw [(hS (by simp_all)).2]; simp; done) | simp_all) rfl rfl (P_fieldAddr0 (off := 33) rfl Try.underlying44 rfl sz42 rfl rfl) ?_
    refine At.wgyq (some 115) (t := 110) rfl (by first | rfl | (rw [(hS (by simp_all)).2]; simp; done) | simp_all) rfl rfl (Q_loadO (k := 3) rfl rfl Try.underlying42 rfl rfl (seg_get (i := 1) (p := 1) rfl LN rfl)) ?_
    refine At.wgy (some 116) (t := 110) rfl (by first | rfl | (rw [(hS (by simp_all)).2]; simp; done) | simp_all) rfl rfl (P_len_sl rfl rfl ⟨_, Try.underlying42⟩ rfl) ?_
    refine At.wqn ?_
    refine At.wey (t := 110) rfl (by first | rfl | (rw [(hS (by simp_all)).2]; simp; done) | simp_all) rfl rfl ?_
    refine SStep.up (S_callV (some 112) [(18, _)] [] (vs := [_]) rfl en31 rfl (VN (by simp) rfl View.all V0) (by simp) (c_KnownN (key := key) (next := next) (L := L) (A := A18) (n := L.length) (c := c18) (b := b18) (q := 0) LN LN (fun h => g18a (by omega)) OG) (by rintro _ _ ⟨A112, c112, rfl, rfl⟩; rfl) ?_)
    rintro _ _ ⟨A112, c112, rfl, rfl⟩
    refine At.wgy (some 113) (t := 110) rfl (by first | rfl | (rw [(hS (by simp_all)).2]; simp; done) | simp_all) rfl rfl (P_len_sl rfl rfl ⟨_, Try.underlying60⟩ rfl) ?_
    refine At.wqn ?_
    refine At.wt rfl ?_
    refine At.gy (t := 110) rfl (by first | rfl | (rw [(hS (by simp_all)).2]; simp; done) | simp_all) rfl rfl ?_
    refine At.p (some 117) (P_cmp rfl rfl rfl rfl rfl rfl) ?_
    refine At.p (some 118) (P_pick_t rfl rfl (by first | rfl | (rw [(hS (by simp_all)).2]; simp; done) | simp_all) rfl) ?_
    refine At.p (some 6) (P_assign rfl rfl) ?_
    refine At.nil ?_
    refine At.next ?_
    refine At.ret ?_
    have hq0 : (((knN next L) : Int) == (n : Int)) = true := (by first | (rw [hk1]; rfl) | (rw [hkt, hL]; simp; done))
    refine At.give (.inl rfl) [] (rows' := []) (vs := [_]) rfl ⟨rfl, trivial⟩ rfl (by simp) (by simp) ⟨(by first | (rw [hq0]; try rfl; done) | (rw [← hq0]; try rfl; done) | (simp only [hq0]; try rfl; done) | (simp only [← hq0]; try rfl; done) | rfl), (by first | (rw [hq0]; try rfl; done) | (rw [← hq0]; try rfl; done) | (simp only [hq0]; try rfl; done) | (simp only [← hq0]; try rfl; done) | rfl)⟩
   ·
    have eg2 : (usE key next L tk) ≠ 0 := bne_iff_ne.1 g2
    refine At.wgn (some 99) (t := 98) rfl g2 rfl rfl ?_
    refine At.wgn (some 101) (t := 98) rfl g2 rfl rfl ?_
    refine At.wqn ?_
    refine At.wen (some 100) (t := 98) rfl g2 rfl rfl ?_
    refine At.wgn (some 102) (t := 98) rfl g2 rfl rfl ?_
    refine At.wgn (some 103) (t := 98) rfl g2 rfl rfl ?_
    refine At.wgu (some 104) (t := 103) rfl rfl rfl ?_
    refine At.wgu (some 105) (t := 103) rfl rfl rfl ?_
    refine At.wgu (some 106) (t := 103) rfl rfl rfl ?_
    refine At.wgn (some 107) (t := 98) rfl g2 rfl rfl ?_
    refine At.wgy (some 108) (t := 95) rfl (by rw [hE]; simp) rfl rfl (P_pick_t rfl rfl g2 rfl) ?_
    refine At.wp (some 109) (P_pick_t rfl rfl (by rw [hE]; simp) rfl) ?_
    refine At.wp (some 110) (P_move rfl rfl) ?_
    refine At.wgyq (some 111) (t := 110) rfl rfl rfl rfl (Q_loadA (k := 7) rfl rfl Try.underlying40 rfl sz40 LN rfl) ?_
    refine At.wgy (some 114) (t := 110) rfl rfl rfl rfl (P_fieldAddr0 (off := 33) rfl Try.underlying44 rfl sz42 rfl rfl) ?_
    refine At.wgyq (some 115) (t := 110) rfl rfl rfl rfl (Q_loadO (k := 3) rfl rfl Try.underlying42 rfl rfl (seg_get (i := 1) (p := 1) rfl LN rfl)) ?_
    refine At.wgy (some 116) (t := 110) rfl rfl rfl rfl (P_len_sl rfl rfl ⟨_, Try.underlying42⟩ rfl) ?_
    refine At.wqn ?_
    refine At.wey (t := 110) rfl rfl rfl rfl ?_
    refine SStep.up (S_callV (some 112) [(18, _)] [] (vs := [_]) rfl en31 rfl (VN (by simp) rfl View.all V0) (by simp) (c_KnownN (key := key) (next := next) (L := L) (A := A18) (n := L.length) (c := c18) (b := b18) (q := 0) LN LN (fun h => g18a (by omega)) OG) (by rintro _ _ ⟨A112, c112, rfl, rfl⟩; rfl) ?_)
    rintro _ _ ⟨A112, c112, rfl, rfl⟩
    refine At.wgy (some 113) (t := 110) rfl rfl rfl rfl (P_len_sl rfl rfl ⟨_, Try.underlying60⟩ rfl) ?_
    refine At.wqn ?_
    refine At.wt rfl ?_
    refine At.gy (t := 110) rfl rfl rfl rfl ?_
    refine At.p (some 117) (P_cmp rfl rfl rfl rfl rfl rfl) ?_
    refine At.p (some 118) (P_pick_t rfl rfl rfl rfl) ?_
    refine At.p (some 6) (P_assign rfl rfl) ?_
    refine At.nil ?_
    refine At.next ?_
    refine At.ret ?_
    have hq0 : (((knN next L) : Int) == (n : Int)) = true := (by first | (rw [hk1]; rfl) | (rw [hkt, hL]; simp; done))
    refine At.give (.inl rfl) [] (rows' := []) (vs := [_]) rfl ⟨rfl, trivial⟩ rfl (by simp) (by simp) ⟨(by first | (rw [hq0]; try rfl; done) | (rw [← hq0]; try rfl; done) | (simp only [hq0]; try rfl; done) | (simp only [← hq0]; try rfl; done) | rfl), (by first | (rw [hq0]; try rfl; done) | (rw [← hq0]; try rfl; done) | (simp only [hq0]; try rfl; done) | (simp only [← hq0]; try rfl; done) | rfl)⟩
  ·
   have eg1 : (miE next L) ≠ 0 := beq_eq_false_iff_ne.1 g1
   refine At.gn (some 86) (t := 85) rfl g1 rfl rfl ?_
   refine At.gn (some 87) (t := 85) rfl g1 rfl rfl ?_
   refine At.gn (some 88) (t := 85) rfl g1 rfl rfl ?_
   refine At.gn (some 89) (t := 85) rfl g1 rfl rfl ?_
   refine At.gy (t := 82) rfl (by rw [hme]; split <;> simp_all) rfl rfl ?_
   refine At.p (some 90) (P_pick_f rfl rfl g1 rfl) ?_
   refine At.p (some 91) (P_pick_f rfl rfl (by rw [hme]; split <;> simp_all) rfl) ?_
   refine At.nil ?_
   refine At.next ?_
   refine At.cond rfl (fun h => absurd (h.symm.trans rfl) (by decide)) (fun _ => ?_)
   refine At.skip ?_
   refine At.next ?_
   refine At.seq ?_
   obtain ⟨hE, hS⟩ := us_ru (key := key) (tk := tk) e56
   have hul := usL_le key next L tk
   have hkt := kn_t e56
   refine At.draws 25 [] [.q false [0, 1, 2, 3, 4, 5, 6, 7, 9], .e false 8, .q false [10, 11, 12, 13, 14, 15, 16, 17, 18, 19, 22, 23, 24], .e false 20, .q false [21]] (by kernel_rfl) (by kernel_rfl) ?_
   refine At.wp (some 92) (P_move rfl rfl) ?_
   refine At.wp (some 93) (P_move rfl rfl) ?_
   refine At.wp (some 94) (P_cmp rfl rfl rfl rfl rfl rfl) ?_
   refine At.wp (some 95) (P_move rfl rfl) ?_
   refine At.wgy (some 96) (t := 95) rfl (by rw [hE]; simp) rfl rfl (P_move rfl rfl) ?_
   refine At.wgy (some 97) (t := 95) rfl (by rw [hE]; simp) rfl rfl (P_cmp rfl rfl rfl rfl rfl rfl) ?_
   refine At.wgy (some 98) (t := 95) rfl (by rw [hE]; simp) rfl rfl (P_move rfl rfl) ?_
   refine At.wsplit (t := 98) (want := false) rfl (fun g3 => ?_) (fun g3 => ?_)
   ·
    have eg3 : (usE key next L tk) = 0 := bne_eq_false_iff_eq.1 g3
    refine At.wgyq (some 99) (t := 98) rfl g3 rfl rfl (Q_loadA (k := 11) rfl rfl Try.underlying40 rfl sz40 LN rfl) ?_
    refine At.wgyq (some 101) (t := 98) rfl g3 rfl rfl (Q_loadA (k := 14) rfl rfl Try.underlying44 rfl sz44 LN rfl) ?_
    refine At.wqn ?_
    refine At.wey (t := 98) rfl g3 rfl rfl ?_
    refine SStep.up (S_callV (some 100) [(29, _)] [100] (vs := [_]) rfl en25 rfl (VN (by simp) rfl View.all V0) (by simp) (c_from (key := (usK key next L tk)) (next := (usN key next L tk)) (L := (usL key next L tk)) (A := A29) (n := ((usL key next L tk).length)) (c := c29) (b := b29) (q := 0) LN LN (fun h => g29a (by omega)) OG OG) (by rintro _ _ ⟨A100, b100, c100, g100a, g100b, rfl, rfl⟩; rfl) ?_)
    rintro _ _ ⟨A100, b100, c100, g100a, g100b, rfl, rfl⟩
    refine At.wcVg (some 102) [(100, _), (72, _)] (tt := 98) rfl g3 rfl rfl (vs := [_, _]) rfl en27 rfl (VN (by simp) rfl View.all (VN (by simp) rfl View.all V0)) (r_Same (keya := (usK key next L tk)) (nexta := (usN key next L tk)) (La := (usL key next L tk)) (Aa := A100) (na := ((usL key next L tk).length)) (ca := c100) (ba := b100) (qa := 0) (keyb := (ruK key next L tk)) (nextb := (ruN key next L tk)) (Lb := (ruL key next L tk)) (Ab := A72) (nb := ((ruL key next L tk).length)) (cb := c72) (bb := b72) (qb := 0) LN LN (fun h => g100a (by omega)) OG LN LN (fun h => g72a (by omega)) OG OG (fun e he => hie e (usL_mem he)) (fun e he => hie e (ruL_mem he))) ?_
    refine At.wgy (some 103) (t := 98) rfl g3 rfl rfl (P_move rfl rfl) ?_
    refine At.wgy (some 104) (t := 103) rfl (hS (by simp_all)).1 rfl rfl (P_move rfl rfl) ?_
    refine At.wgy (some 105) (t := 103) rfl (hS (by simp_all)).1 rfl rfl (P_move rfl rfl) ?_
    refine At.wgy (some 106) (t := 103) rfl (hS (by simp_all)).1 rfl rfl (P_cmp rfl rfl rfl rfl rfl rfl) ?_
    refine At.wgy (some 107) (t := 98) rfl g3 rfl rfl (P_pick_t rfl rfl (hS (by simp_all)).1 rfl) ?_
    refine At.wgy (some 108) (t := 95) rfl (by rw [hE]; simp) rfl rfl (P_pick_f rfl rfl g3 rfl) ?_
    refine At.wp (some 109) (P_pick_t rfl rfl (by rw [hE]; simp) rfl) ?_
    refine At.wp (some 110) (P_move rfl rfl) ?_
    refine At.wgyq (some 111) (t := 110) rfl (by first | rfl | (rw [(hS (by simp_all)).2]; simp; done) | simp_all) rfl rfl (Q_loadA (k := 7) rfl rfl Try.underlying40 rfl sz40 LN rfl) ?_
    refine At.wgy (some 114) (t := 110) rfl (by first | rfl | (rw [(hS (by simp_all)).2]; simp; done) | simp_all) rfl rfl (P_fieldAddr0 (off := 33) rfl Try.underlying44 rfl sz42 rfl rfl) ?_
    refine At.wgyq (some 115) (t := 110) rfl (by first | rfl | (rw [(hS (by simp_all)).2]; simp; done) | simp_all) rfl rfl (Q_loadO (k := 3) rfl rfl Try.underlying42 rfl rfl (seg_get (i := 1) (p := 1) rfl LN rfl)) ?_
    refine At.wgy (some 116) (t := 110) rfl (by first | rfl | (rw [(hS (by simp_all)).2]; simp; done) | simp_all) rfl rfl (P_len_sl rfl rfl ⟨_, Try.underlying42⟩ rfl) ?_
    refine At.wqn ?_
    refine At.wey (t := 110) rfl (by first | rfl | (rw [(hS (by simp_all)).2]; simp; done) | simp_all) rfl rfl ?_
    refine SStep.up (S_callV (some 112) [(18, _)] [] (vs := [_]) rfl en31 rfl (VN (by simp) rfl View.all V0) (by simp) (c_KnownN (key := key) (next := next) (L := L) (A := A18) (n := L.length) (c := c18) (b := b18) (q := 0) LN LN (fun h => g18a (by omega)) OG) (by rintro _ _ ⟨A112, c112, rfl, rfl⟩; rfl) ?_)
    rintro _ _ ⟨A112, c112, rfl, rfl⟩
    refine At.wgy (some 113) (t := 110) rfl (by first | rfl | (rw [(hS (by simp_all)).2]; simp; done) | simp_all) rfl rfl (P_len_sl rfl rfl ⟨_, Try.underlying60⟩ rfl) ?_
    refine At.wqn ?_
    refine At.wt rfl ?_
    refine At.gy (t := 110) rfl (by first | rfl | (rw [(hS (by simp_all)).2]; simp; done) | simp_all) rfl rfl ?_
    refine At.p (some 117) (P_cmp rfl rfl rfl rfl rfl rfl) ?_
    refine At.p (some 118) (P_pick_t rfl rfl (by first | rfl | (rw [(hS (by simp_all)).2]; simp; done) | simp_all) rfl) ?_
    refine At.p (some 6) (P_assign rfl rfl) ?_
    refine At.nil ?_
    refine At.next ?_
    refine At.ret ?_
    have hq0 : (((knN next L) : Int) == (n : Int)) = true := (by first | (rw [hk1]; rfl) | (rw [hkt, hL]; simp; done))
    refine At.give (.inl rfl) [] (rows' := []) (vs := [_]) rfl ⟨rfl, trivial⟩ rfl (by simp) (by simp) ⟨(by first | (rw [hq0]; try rfl; done) | (rw [← hq0]; try rfl; done) | (simp only [hq0]; try rfl; done) | (simp only [← hq0]; try rfl; done) | rfl), (by first | (rw [hq0]; try rfl; done) | (rw [← hq0]; try rfl; done) | (simp only [hq0]; try rfl; done) | (simp only [← hq0]; try rfl; done) | rfl)⟩
   ·
    have eg3 : (usE key next L tk) ≠ 0 := bne_iff_ne.1 g3
    refine At.wgn (some 99) (t := 98) rfl g3 rfl rfl ?_
    refine At.wgn (some 101) (t := 98) rfl g3 rfl rfl ?_
    refine At.wqn ?_
    refine At.wen (some 100) (t := 98) rfl g3 rfl rfl ?_
    refine At.wgn (some 102) (t := 98) rfl g3 rfl rfl ?_
    refine At.wgn (some 103) (t := 98) rfl g3 rfl rfl ?_
    refine At.wgu (some 104) (t := 103) rfl rfl rfl ?_
    refine At.wgu (some 105) (t := 103) rfl rfl rfl ?_
    refine At.wgu (some 106) (t := 103) rfl rfl rfl ?_
    refine At.wgn (some 107) (t := 98) rfl g3 rfl rfl ?_
    refine At.wgy (some 108) (t := 95) rfl (by rw [hE]; simp) rfl rfl (P_pick_t rfl rfl g3 rfl) ?_
    refine At.wp (some 109) (P_pick_t rfl rfl (by rw [hE]; simp) rfl) ?_
    refine At.wp (some 110) (P_move rfl rfl) ?_
    refine At.wgyq (some 111) (t := 110) rfl rfl rfl rfl (Q_loadA (k := 7) rfl rfl Try.underlying40 rfl sz40 LN rfl) ?_
    refine At.wgy (some 114) (t := 110) rfl rfl rfl rfl (P_fieldAddr0 (off := 33) rfl Try.underlying44 rfl sz42 rfl rfl) ?_
    refine At.wgyq (some 115) (t := 110) rfl rfl rfl rfl (Q_loadO (k := 3) rfl rfl Try.underlying42 rfl rfl (seg_get (i := 1) (p := 1) rfl LN rfl)) ?_
    refine At.wgy (some 116) (t := 110) rfl rfl rfl rfl (P_len_sl rfl rfl ⟨_, Try.underlying42⟩ rfl) ?_
    refine At.wqn ?_
    refine At.wey (t := 110) rfl rfl rfl rfl ?_
    refine SStep.up (S_callV (some 112) [(18, _)] [] (vs := [_]) rfl en31 rfl (VN (by simp) rfl View.all V0) (by simp) (c_KnownN (key := key) (next := next) (L := L) (A := A18) (n := L.length) (c := c18) (b := b18) (q := 0) LN LN (fun h => g18a (by omega)) OG) (by rintro _ _ ⟨A112, c112, rfl, rfl⟩; rfl) ?_)
    rintro _ _ ⟨A112, c112, rfl, rfl⟩
    refine At.wgy (some 113) (t := 110) rfl rfl rfl rfl (P_len_sl rfl rfl ⟨_, Try.underlying60⟩ rfl) ?_
    refine At.wqn ?_
    refine At.wt rfl ?_
    refine At.gy (t := 110) rfl rfl rfl rfl ?_
    refine At.p (some 117) (P_cmp rfl rfl rfl rfl rfl rfl) ?_
    refine At.p (some 118) (P_pick_t rfl rfl rfl rfl) ?_
    refine At.p (some 6) (P_assign rfl rfl) ?_
    refine At.nil ?_
    refine At.next ?_
    refine At.ret ?_
    have hq0 : (((knN next L) : Int) == (n : Int)) = true := (by first | (rw [hk1]; rfl) | (rw [hkt, hL]; simp; done))
    refine At.give (.inl rfl) [] (rows' := []) (vs := [_]) rfl ⟨rfl, trivial⟩ rfl (by simp) (by simp) ⟨(by first | (rw [hq0]; try rfl; done) | (rw [← hq0]; try rfl; done) | (simp only [hq0]; try rfl; done) | (simp only [← hq0]; try rfl; done) | rfl), (by first | (rw [hq0]; try rfl; done) | (rw [← hq0]; try rfl; done) | (simp only [hq0]; try rfl; done) | (simp only [← hq0]; try rfl; done) | rfl)⟩


end Go.Proofs.Ytihciioopdalnaa
