import Derived.Test.YtkdkpjnlknofeaaB
namespace Go.Proofs.Ytkdkpjnlknofeaa
set_option maxRecDepth 20000
set_option linter.unusedVariables false
set_option linter.unusedSimpArgs false
open Go.SE Go.RowKit
def kkey : List (BitVec 8) := (List.range 32).map fun (i : Nat) => BitVec.ofInt 8 (i : Int)
def knonce : List (BitVec 8) := [0#8, 0#8, 0#8, 9#8, 0#8, 0#8, 0#8, 74#8, 0#8, 0#8, 0#8, 0#8]
def kst0 : List (BitVec 32) := [1634760805#32, 857760878#32, 2036477234#32, 1797285236#32, 50462976#32, 117835012#32, 185207048#32, 252579084#32, 319951120#32, 387323156#32, 454695192#32, 522067228#32, 1#32, 150994944#32, 1241513984#32, 0#32]
def kst1 : List (BitVec 32) := [3444762903#32, 2242577332#32, 3007673237#32, 4184729565#32, 3300379938#32, 1546524794#32, 3378426977#32, 829194266#32, 2079840064#32, 2128467524#32, 4053908981#32, 1980909258#32, 1796036771#32, 1738032922#32, 3610767719#32, 4050880653#32]
def kst2 : List (BitVec 32) := [3474617732#32, 76097516#32, 1409621978#32, 3259301672#32, 2417831744#32, 2037692444#32, 932040628#32, 3444047118#32, 766489110#32, 667458774#32, 3443301024#32, 2046593479#32, 279900557#32, 371296101#32, 1761044229#32, 81194530#32]
def kst3 : List (BitVec 32) := [60899378#32, 1722898727#32, 2641062722#32, 3092005129#32, 2803120864#32, 2694525917#32, 2782572424#32, 802757235#32, 3373034264#32, 1512055827#32, 3255697846#32, 1926065012#32, 3124090743#32, 3009475007#32, 2172137819#32, 751901466#32]
def kst4 : List (BitVec 32) := [2586654089#32, 186907726#32, 1085225835#32, 3471475012#32, 169607110#32, 1582928887#32, 2567226087#32, 221464344#32, 3832308564#32, 3377476137#32, 83817898#32, 4170399602#32, 646435958#32, 1424380465#32, 898957253#32, 725332682#32]
def kst5 : List (BitVec 32) := [3308460229#32, 3392298390#32, 2122125771#32, 872735434#32, 651677555#32, 1619579769#32, 3237013949#32, 3809529273#32, 2922162395#32, 1123449970#32, 1902549706#32, 2539394845#32, 2657010216#32, 2105911795#32, 538773334#32, 1677355347#32]
def kst6 : List (BitVec 32) := [77796122#32, 1712808713#32, 68532913#32, 1639481506#32, 919373511#32, 3213509733#32, 4152219424#32, 4228635792#32, 131152586#32, 3943426479#32, 1633260689#32, 2441417436#32, 867592301#32, 2036123249#32, 3221526898#32, 2695371742#32]
def kst7 : List (BitVec 32) := [2607871263#32, 2124983313#32, 568675753#32, 3392748335#32, 2477819526#32, 1783386286#32, 421603930#32, 2600675672#32, 3627619934#32, 1275519626#32, 3556632990#32, 648855869#32, 2785670485#32, 740582729#32, 2501187667#32, 746879501#32]
def kst8 : List (BitVec 32) := [3395061213#32, 2477062414#32, 3656441688#32, 652051165#32, 2552587256#32, 1898621439#32, 664429032#32, 2534372029#32, 472224538#32, 1367390992#32, 2006722535#32, 1409777160#32, 2847363579#32, 942619874#32, 2377217405#32, 3426224139#32]
def kst9 : List (BitVec 32) := [3065544166#32, 2583781704#32, 2475005973#32, 1226172108#32, 3694379298#32, 2564919203#32, 1610344700#32, 4145367947#32, 683801779#32, 3300102045#32, 2212689367#32, 2099558795#32, 554142498#32, 2979260323#32, 3002373001#32, 1826512934#32]
def kst10 : List (BitVec 32) := [2205644971#32, 3795375971#32, 2793071134#32, 1498463023#32, 3304247495#32, 4234328879#32, 2409634044#32, 1063176119#32, 861041090#32, 4069820915#32, 3938298108#32, 2196008637#32, 3516666548#32, 2957907678#32, 2659438795#32, 1312575650#32]
theorem kst_0 : mixS kst0 = kst1 := by kernel_rfl
theorem kst_1 : mixS kst1 = kst2 := by kernel_rfl
theorem kst_2 : mixS kst2 = kst3 := by kernel_rfl
theorem kst_3 : mixS kst3 = kst4 := by kernel_rfl
theorem kst_4 : mixS kst4 = kst5 := by kernel_rfl
theorem kst_5 : mixS kst5 = kst6 := by kernel_rfl
theorem kst_6 : mixS kst6 = kst7 := by kernel_rfl
theorem kst_7 : mixS kst7 = kst8 := by kernel_rfl
theorem kst_8 : mixS kst8 = kst9 := by kernel_rfl
theorem kst_9 : mixS kst9 = kst10 := by kernel_rfl
theorem kst_i : initS kkey 1#32 knonce = kst0 := by kernel_rfl
theorem kst_all : mixN 10 (initS kkey 1#32 knonce) = kst10 := by
  show mixS (mixS (mixS (mixS (mixS (mixS (mixS (mixS (mixS (mixS (initS kkey 1#32 knonce)))))))))) = kst10
  rw [kst_i, kst_0, kst_1, kst_2, kst_3, kst_4, kst_5, kst_6, kst_7, kst_8, kst_9]
theorem kblock : ∀ i, i < 4 → (blockS kkey 1#32 knonce).getD i 0#8 = [0x10#8, 0xF1#8, 0xE7#8, 0xE4#8].getD i 0#8 := by
  unfold blockS
  rw [kst_all, kst_i]
  decide
theorem kb0 : (blockS kkey 1#32 knonce).getD 0 0#8 = 0x10#8 := kblock 0 (by decide)
theorem kb1 : (blockS kkey 1#32 knonce).getD 1 0#8 = 0xF1#8 := kblock 1 (by decide)
theorem kb2 : (blockS kkey 1#32 knonce).getD 2 0#8 = 0xE7#8 := kblock 2 (by decide)
theorem kb3 : (blockS kkey 1#32 knonce).getD 3 0#8 = 0xE4#8 := kblock 3 (by decide)
def fillK (k : Nat) : List (BitVec 8) := (List.range k).map (fun (i : Nat) => BitVec.ofInt 8 (i : Int)) ++ List.replicate (32 - k) 0#8
theorem fillK_set {k : Nat} (h : k < 32) : (fillK k).set k (BitVec.ofInt 8 (k : Int)) = fillK (k + 1) := fill_set (fun (i : Nat) => BitVec.ofInt 8 (i : Int)) 0#8 h
theorem fillK_len {k : Nat} (h : k ≤ 32) : (fillK k).length = 32 := by simp [fillK]; omega
theorem fillK_all : fillK 32 = kkey := by simp [fillK, kkey]

theorem c_streams  :
    Con Try.prog 15 [] [] (fun v rs => v = .bool true ∧ rs = []) := by
  refine Con.enter Try.func15 Try.ntmps15 (Nat.le_of_ble_eq_true rfl) rfl fun w => ?_
  refine At.seq ?_
  refine At.region ?_
  refine At.p (some 0) (P_assign rfl rfl) ?_
  refine At.nil ?_
  refine At.next ?_
  refine At.seq ?_
  refine At.region ?_
  refine At.s (S_alloc (some 1) 1 (zs := (fillK 0).map u8V) rfl ze22 rfl (fun b1 => ?_))
  refine At.nil ?_
  refine At.next ?_
  refine At.seq ?_
  refine At.seq ?_
  refine At.region ?_
  refine At.p (some 2) (P_assign rfl rfl) ?_
  refine At.nil ?_
  refine At.next ?_
  refine At.block ?_
  refine At.loopx (I := fun m fr H => ∃ k, m = 32 - k ∧ fr = frOf [(1, ptr b1 0), (2, iV (k : Int))] ∧ H = hOf [(1, ⟨true, b1, 0, 22, (fillK k).map u8V, 0⟩)] ∧ k ≤ 32) ?_ ?_
  · intro Kc0 hKc0
    refine At.to [(1, _), (2, _)] [(1, ⟨true, b1, 0, 22, (fillK 0).map u8V, 0⟩)] (AllL.cons_ (rfl) (AllL.cons_ (rfl) trivial)) (AllL.cons_ (rfl) trivial) ?_
    exact hKc0 _ _ _ ⟨0, rfl, rfl, rfl, by omega⟩
  · rintro m fr H ⟨k, rfl, rfl, rfl, hk⟩ Kc0 hKc0
    refine At.seq ?_
    refine At.seq ?_
    refine At.region ?_
    refine At.p (some 4) (P_move rfl rfl) ?_
    refine At.p (some 5) (P_cmp rfl rfl rfl rfl rfl rfl) ?_
    refine At.nil ?_
    refine At.next ?_
    refine At.cond rfl (fun h5 => ?_) (fun h5 => ?_)
    · -- cond 5 t
      have hlt : k < 32 := by simp at h5; omega
      have hl := fillK_len hk
      refine At.skip ?_
      refine At.next ?_
      refine At.seq ?_
      refine At.block ?_
      refine At.region ?_
      refine At.p (some 8) (P_move rfl rfl) ?_
      refine At.p (some 9) (P_move rfl rfl) ?_
      refine At.p (some 10) (P_conv_iw UK.u8 rfl Try.underlying3 Try.underlying5 rfl) ?_
      refine At.p (some 11) (P_indexAddr_arr1 rfl Try.underlying22 sz5 rfl rfl rfl (by omega)) ?_
      refine At.s (S_storeM none (f := u8V) (k := 1) rfl rfl rfl sz5 rfl rfl rfl (by first | omega | (simp <;> omega)) ?_)
      refine At.nil ?_
      refine At.inb_n ?_
      refine At.next ?_
      refine At.region ?_
      refine At.p (some 6) (P_move rfl rfl) ?_
      refine At.p (some 7) (P_add_i rfl rfl rfl (by omega)) ?_
      refine At.p (some 2) (P_assign rfl rfl) ?_
      refine At.nil ?_
      refine At.next ?_
      refine At.to [(1, _), (2, _)] [(1, ⟨true, b1, 0, 22, (fillK (k + 1)).map u8V, 0⟩)] (AllL.cons_ (rfl) (AllL.cons_ (rfl) trivial)) (AllL.cons_ (congrArg (fun l => some (⟨true, b1, 0, 22, List.map u8V l, 0⟩ : Row)) (fillK_set hlt)) trivial) ?_
      exact hKc0 _ _ _ (by omega) ⟨k + 1, rfl, rfl, rfl, by omega⟩
    · -- cond 5 f
      obtain rfl : k = 32 := by simp at h5; omega
      rw [fillK_all]
      have hkk : kkey.length = 32 := rfl
      have hl := blockS_len kkey 1#32 knonce
      refine At.exit ?_
      refine At.thn_e ?_
      refine At.thn_e ?_
      refine At.inb_hit ?_
      refine At.next ?_
      refine At.seq ?_
      refine At.region ?_
      refine At.q (some 12) (Q_loadA (k := 1) rfl rfl Try.underlying22 rfl sz22 (by first | omega | (simp <;> omega)) rfl) ?_
      refine At.p (some 13) (P_build_arr (cs := (knonce.map u8V).toArray) (parts := _) (vs := [(3, _), (7, _)]) rfl Try.underlying24 sz5 ze24 rfl rfl) ?_
      refine At.s (S_callV (some 14) [] [] (vs := [_, _, _]) rfl en16 rfl V0 (by simp) (c_Block kkey knonce 1#32 rfl rfl) (by rintro _ _ ⟨rfl, rfl⟩; rfl) ?_)
      rintro _ _ ⟨rfl, rfl⟩
      refine At.s (S_alloc (some 3) 3 (zs := (List.replicate 64 0#8).map u8V) rfl ze26 rfl (fun b3 => ?_))
      refine At.s (S_storeA none (k := 3) (vs := _) rfl rfl rfl (by first | (rw [sz26]; simp <;> omega) | exact sz26) rfl (by first | (intro u hu; obtain ⟨z, _, rfl⟩ := List.mem_map.1 hu; rfl) | simp [Value.oneCell']) (by first | (simp; done) | (intro h; have h2 := congrArg List.length h; simp only [List.length_map, List.length_nil] at h2; omega) | (intro h; cases h)) rfl (by first | omega | (simp <;> omega) | rfl | (simp [*]; done)) ?_)
      refine At.nil ?_
      refine At.next ?_
      refine At.seq ?_
      refine At.region ?_
      refine At.p (some 15) (P_indexAddr_arr1 (j := 0) rfl Try.underlying26 sz5 rfl rfl rfl (by decide)) ?_
      refine At.q (some 16) (Q_loadM (k := 3) (0#8) rfl rfl Try.underlying5 rfl rfl (by first | omega | (simp <;> omega))) ?_
      refine At.p (some 17) (P_eql_w (n := 8) (b := 16#8) rfl rfl rfl) ?_
      refine At.p (some 18) (P_move rfl rfl) ?_
      refine At.gy (t := 18) rfl (by rw [kb0]; rfl) rfl rfl ?_
      refine At.p (some 19) (P_indexAddr_arr1 (j := 1) rfl Try.underlying26 sz5 rfl rfl rfl (by decide)) ?_
      refine At.gy (t := 18) rfl (by rw [kb0]; rfl) rfl rfl ?_
      refine At.q (some 20) (Q_loadM (k := 3) (0#8) rfl rfl Try.underlying5 rfl rfl (by first | omega | (simp <;> omega))) ?_
      refine At.gy (t := 18) rfl (by rw [kb0]; rfl) rfl rfl ?_
      refine At.p (some 21) (P_eql_w (n := 8) (b := 241#8) rfl rfl rfl) ?_
      refine At.p (some 22) (P_pick_t rfl rfl (by rw [kb0]; rfl) rfl) ?_
      refine At.p (some 23) (P_move rfl rfl) ?_
      refine At.gy (t := 23) rfl (by rw [kb1]; rfl) rfl rfl ?_
      refine At.p (some 24) (P_indexAddr_arr1 (j := 2) rfl Try.underlying26 sz5 rfl rfl rfl (by decide)) ?_
      refine At.gy (t := 23) rfl (by rw [kb1]; rfl) rfl rfl ?_
      refine At.q (some 25) (Q_loadM (k := 3) (0#8) rfl rfl Try.underlying5 rfl rfl (by first | omega | (simp <;> omega))) ?_
      refine At.gy (t := 23) rfl (by rw [kb1]; rfl) rfl rfl ?_
      refine At.p (some 26) (P_eql_w (n := 8) (b := 231#8) rfl rfl rfl) ?_
      refine At.p (some 27) (P_pick_t rfl rfl (by rw [kb1]; rfl) rfl) ?_
      refine At.p (some 28) (P_move rfl rfl) ?_
      refine At.gy (t := 28) rfl (by rw [kb2]; rfl) rfl rfl ?_
      refine At.p (some 29) (P_indexAddr_arr1 (j := 3) rfl Try.underlying26 sz5 rfl rfl rfl (by decide)) ?_
      refine At.gy (t := 28) rfl (by rw [kb2]; rfl) rfl rfl ?_
      refine At.q (some 30) (Q_loadM (k := 3) (0#8) rfl rfl Try.underlying5 rfl rfl (by first | omega | (simp <;> omega))) ?_
      refine At.gy (t := 28) rfl (by rw [kb2]; rfl) rfl rfl ?_
      refine At.p (some 31) (P_eql_w (n := 8) (b := 228#8) rfl rfl rfl) ?_
      refine At.p (some 32) (P_pick_t rfl rfl (by rw [kb2]; rfl) rfl) ?_
      refine At.p (some 0) (P_assign rfl rfl) ?_
      refine At.nil ?_
      refine At.next ?_
      refine At.ret ?_
      refine At.give (.inl rfl) [] (rows' := []) (vs := [_]) rfl ⟨rfl, trivial⟩ rfl (by simp) (by simp) ⟨congrArg Value.bool (by rw [kb3]; rfl), rfl⟩

theorem l_Blocks (key nonce : List (BitVec 8)) (count : BitVec 32) (hkey : key.length = 32) (hnonce : nonce.length = 12) :
    Con Try.prog 3 [aggB key, u32V count, aggB nonce] [] (fun v rs => v = .bool true ∧ rs = []) := by
  refine Con.enter Try.func3 Try.ntmps3 (Nat.le_of_ble_eq_true rfl) rfl fun w => ?_
  refine At.seq ?_
  have hk32 : key.length = 32 := hkey
  refine At.region ?_
  refine At.s (S_box (some 3) 3 (zs := key.map u8V) rfl rfl rfl (fun b3 => ?_))
  refine At.s (S_box (some 5) 5 (zs := nonce.map u8V) rfl rfl rfl (fun b5 => ?_))
  refine At.p (some 6) (P_assign rfl rfl) ?_
  refine At.nil ?_
  refine At.next ?_
  refine At.seq ?_
  refine At.draws 9 [] [.q false [0, 1, 2, 3, 4, 5, 6, 7, 8]] (by kernel_rfl) (by kernel_rfl) ?_
  refine At.wcV (some 7) [] (vs := []) rfl en15 rfl V0 (c_streams) ?_
  refine At.wp (some 8) (P_move rfl rfl) ?_
  refine At.wgyq (some 9) (t := 8) rfl rfl rfl rfl (Q_loadA (k := 3) rfl rfl Try.underlying22 rfl sz22 (by first | omega | (simp <;> omega)) rfl) ?_
  refine At.wgy (some 10) (t := 8) rfl rfl rfl rfl (P_move rfl rfl) ?_
  refine At.wgyq (some 11) (t := 8) rfl rfl rfl rfl (Q_loadA (k := 5) rfl rfl Try.underlying24 rfl sz24 (by first | omega | (simp <;> omega)) rfl) ?_
  refine At.wcVg (some 12) [] (tt := 8) rfl rfl rfl rfl (vs := [_, _, _]) rfl en16 rfl V0 (c_Block key nonce count hkey hnonce) ?_
  refine At.wgyq (some 13) (t := 8) rfl rfl rfl rfl (Q_loadA (k := 3) rfl rfl Try.underlying22 rfl sz22 (by first | omega | (simp <;> omega)) rfl) ?_
  refine At.wgy (some 14) (t := 8) rfl rfl rfl rfl (P_move rfl rfl) ?_
  refine At.wgyq (some 15) (t := 8) rfl rfl rfl rfl (Q_loadA (k := 5) rfl rfl Try.underlying24 rfl sz24 (by first | omega | (simp <;> omega)) rfl) ?_
  refine At.wqn ?_
  refine At.wt rfl ?_
  refine At.gy (t := 8) rfl rfl rfl rfl ?_
  refine At.s (S_callV (some 16) [] [] (vs := [_, _, _]) rfl en17 rfl V0 (by simp) (r_Block key nonce count hkey hnonce) (by rintro _ _ ⟨rfl, rfl⟩; rfl) ?_)
  rintro _ _ ⟨rfl, rfl⟩
  refine At.gy (t := 8) rfl rfl rfl rfl ?_
  refine At.p (some 17) (P_eql_arr rfl Try.underlying26 Try.underlying5 sz5 Try.eqGuardType26 rfl rfl (blockS_len _ _ _) (blockS_len _ _ _)) ?_
  refine At.p (some 18) (P_pick_t rfl rfl rfl rfl) ?_
  refine At.p (some 6) (P_assign rfl rfl) ?_
  refine At.nil ?_
  refine At.next ?_
  refine At.ret ?_
  refine At.give (.inl rfl) [] (rows' := []) (vs := [_]) rfl ⟨rfl, trivial⟩ rfl (by simp) (by simp) ⟨congrArg Value.bool (by simp), rfl⟩
end Go.Proofs.Ytkdkpjnlknofeaa
