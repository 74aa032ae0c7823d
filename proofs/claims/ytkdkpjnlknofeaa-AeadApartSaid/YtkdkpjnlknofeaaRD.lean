import Derived.Test.YtkdkpjnlknofeaaRC
namespace Go.Proofs.Ytkdkpjnlknofeaa
set_option maxRecDepth 20000
set_option linter.unusedVariables false
set_option linter.unusedSimpArgs false
open Go.SE Go.RowKit
def skK : List (BitVec 8) := [1#8, 0#8, 0#8, 0#8, 0#8, 0#8, 0#8, 0#8, 0#8, 0#8, 0#8, 0#8, 0#8, 0#8, 0#8, 0#8, 0#8, 0#8, 0#8, 0#8, 0#8, 0#8, 0#8, 0#8, 0#8, 0#8, 0#8, 0#8, 0#8, 0#8, 0#8, 0#8]
def skN : List (BitVec 8) := [2#8, 0#8, 0#8, 0#8, 0#8, 0#8, 0#8, 0#8, 0#8, 0#8, 0#8, 0#8]
def skz0 : List (BitVec 32) := [1634760805#32, 857760878#32, 2036477234#32, 1797285236#32, 1#32, 0#32, 0#32, 0#32, 0#32, 0#32, 0#32, 0#32, 0#32, 2#32, 0#32, 0#32]
def skz1 : List (BitVec 32) := [254739528#32, 3725532571#32, 4079585389#32, 2803576606#32, 1503545997#32, 2710467717#32, 2967957926#32, 2765461112#32, 2680245742#32, 3386954272#32, 1082484421#32, 3451542172#32, 2896250571#32, 271750342#32, 4281790592#32, 3881902190#32]
def skz2 : List (BitVec 32) := [1595034430#32, 4159875101#32, 670109845#32, 2539690657#32, 1230081562#32, 3090216538#32, 3822665302#32, 128421856#32, 183500745#32, 2585346834#32, 1586094379#32, 948731176#32, 2106503679#32, 1515836387#32, 1727330265#32, 902208776#32]
def skz3 : List (BitVec 32) := [432477677#32, 4111956168#32, 2747691906#32, 4286464394#32, 3800503356#32, 580602814#32, 4145614932#32, 625560415#32, 1654126538#32, 3782426946#32, 2260504710#32, 1091289366#32, 3821908377#32, 817923495#32, 2245750274#32, 353047364#32]
def skz4 : List (BitVec 32) := [847279753#32, 2732476968#32, 74063845#32, 1110928321#32, 3910974946#32, 3770917606#32, 595673214#32, 2348990818#32, 1294918143#32, 2446837603#32, 482163660#32, 1704375344#32, 3514171463#32, 1252103627#32, 1166836517#32, 1608110604#32]
def skz5 : List (BitVec 32) := [2892988072#32, 311634766#32, 1041210934#32, 1488399366#32, 727614649#32, 979591311#32, 2099954014#32, 25753001#32, 2927239837#32, 641527831#32, 2244474876#32, 1868440380#32, 3147092130#32, 3520078567#32, 3921549946#32, 3991981741#32]
def skz6 : List (BitVec 32) := [4222802565#32, 705852828#32, 1634878418#32, 1042746140#32, 3182402844#32, 501033622#32, 2998501541#32, 1908057006#32, 2948627853#32, 3934006868#32, 3822679873#32, 2680967643#32, 194082005#32, 1220983634#32, 1333140446#32, 4056389099#32]
def skz7 : List (BitVec 32) := [3726405780#32, 3523702928#32, 348517730#32, 1561507124#32, 3647615883#32, 1471154545#32, 2479142934#32, 3241820114#32, 4278114011#32, 2675134698#32, 889518234#32, 363741728#32, 547448590#32, 960656861#32, 2743551418#32, 172692319#32]
def skz8 : List (BitVec 32) := [480736677#32, 2418930583#32, 614132921#32, 3134375001#32, 1193943257#32, 602419749#32, 2113055148#32, 2769558071#32, 770382106#32, 3178314727#32, 1416900246#32, 11568491#32, 3968522226#32, 1049836026#32, 1844004795#32, 104762036#32]
def skz9 : List (BitVec 32) := [2683706876#32, 3826465416#32, 1751271452#32, 1140858911#32, 3435912497#32, 2951567364#32, 1907338846#32, 1466107788#32, 691002947#32, 385425693#32, 3365977925#32, 4090056528#32, 310294422#32, 493007523#32, 249738070#32, 3386539603#32]
def skz10 : List (BitVec 32) := [2859280095#32, 3527260109#32, 1012663003#32, 2174441513#32, 1662742919#32, 1864711597#32, 3326369754#32, 1974813024#32, 593458748#32, 2909453493#32, 168282763#32, 1435097290#32, 1564196277#32, 2455615904#32, 4027665919#32, 507275235#32]
theorem skz_0 : mixS skz0 = skz1 := by kernel_rfl
theorem skz_1 : mixS skz1 = skz2 := by kernel_rfl
theorem skz_2 : mixS skz2 = skz3 := by kernel_rfl
theorem skz_3 : mixS skz3 = skz4 := by kernel_rfl
theorem skz_4 : mixS skz4 = skz5 := by kernel_rfl
theorem skz_5 : mixS skz5 = skz6 := by kernel_rfl
theorem skz_6 : mixS skz6 = skz7 := by kernel_rfl
theorem skz_7 : mixS skz7 = skz8 := by kernel_rfl
theorem skz_8 : mixS skz8 = skz9 := by kernel_rfl
theorem skz_9 : mixS skz9 = skz10 := by kernel_rfl
theorem skz_i : initS skK 0#32 skN = skz0 := by kernel_rfl
theorem skz_all : mixN 10 (initS skK 0#32 skN) = skz10 := by
  show mixS (mixS (mixS (mixS (mixS (mixS (mixS (mixS (mixS (mixS (initS skK 0#32 skN)))))))))) = skz10
  rw [skz_i, skz_0, skz_1, skz_2, skz_3, skz_4, skz_5, skz_6, skz_7, skz_8, skz_9]
theorem skz_b : blockS skK 0#32 skN = [68#8, 159#8, 221#8, 11#8, 59#8, 28#8, 94#8, 5#8, 13#8, 48#8, 190#8, 181#8, 157#8, 189#8, 187#8, 236#8, 136#8, 113#8, 27#8, 99#8, 173#8, 61#8, 37#8, 111#8, 218#8, 95#8, 68#8, 198#8, 96#8, 65#8, 181#8, 117#8, 60#8, 118#8, 95#8, 35#8, 181#8, 188#8, 106#8, 173#8, 139#8, 202#8, 7#8, 10#8, 202#8, 216#8, 137#8, 85#8, 181#8, 189#8, 59#8, 93#8, 162#8, 185#8, 93#8, 146#8, 255#8, 77#8, 17#8, 240#8, 227#8, 103#8, 60#8, 30#8] := by
  have h : blockS skK 0#32 skN = (List.range 64).map (outAt (mixN 10 (initS skK 0#32 skN)) (initS skK 0#32 skN)) := rfl
  rw [skz_all, skz_i] at h
  exact h.trans (by kernel_rfl)

def sko0 : List (BitVec 32) := [1634760805#32, 857760878#32, 2036477234#32, 1797285236#32, 1#32, 0#32, 0#32, 0#32, 0#32, 0#32, 0#32, 0#32, 1#32, 2#32, 0#32, 0#32]
def sko1 : List (BitVec 32) := [506397768#32, 3722386840#32, 53250173#32, 1847767710#32, 2635445994#32, 696679685#32, 2976346758#32, 2767048302#32, 2747415886#32, 3487650129#32, 1083537110#32, 2378783385#32, 1822442952#32, 355632182#32, 3442208817#32, 3882950783#32]
def sko2 : List (BitVec 32) := [2512573593#32, 2115712545#32, 4119165952#32, 1510341620#32, 2275732447#32, 1322630044#32, 3117537038#32, 3583572707#32, 3109707134#32, 3451023284#32, 2048054974#32, 2591450249#32, 1522130136#32, 1207038368#32, 597315482#32, 2834143083#32]
def sko3 : List (BitVec 32) := [4087805347#32, 3984583184#32, 2954204326#32, 3220984556#32, 1824706874#32, 4283800564#32, 1254606795#32, 2487665926#32, 2983157575#32, 939867209#32, 4175650664#32, 3114935090#32, 851174035#32, 3178858910#32, 4213889518#32, 1394296048#32]
def sko4 : List (BitVec 32) := [3035672371#32, 273055265#32, 3279781080#32, 2740675760#32, 1299114512#32, 2594254137#32, 72200467#32, 528701926#32, 4100863004#32, 1385967061#32, 2506026276#32, 2065022066#32, 622811167#32, 3579315381#32, 613186197#32, 358109587#32]
def sko5 : List (BitVec 32) := [908538041#32, 2008892762#32, 1414810068#32, 1958590324#32, 1199401885#32, 2693478925#32, 2748136291#32, 2805291276#32, 3911861789#32, 2754058988#32, 3129976924#32, 1220730945#32, 310714929#32, 2352471850#32, 519913232#32, 371299117#32]
def sko6 : List (BitVec 32) := [1797767778#32, 1675496988#32, 3379819697#32, 3662692731#32, 1190843923#32, 876668733#32, 4132047178#32, 1223917929#32, 1928013798#32, 2584047156#32, 3106218957#32, 3364723013#32, 4007777318#32, 3876532531#32, 2853967885#32, 1018016428#32]
def sko7 : List (BitVec 32) := [1045720234#32, 933607360#32, 3648932151#32, 2790554626#32, 3338363688#32, 3623760600#32, 1202126875#32, 3047226402#32, 1524641603#32, 847471382#32, 1827829497#32, 1095134562#32, 1075120241#32, 1314701801#32, 1359550065#32, 2894932692#32]
def sko8 : List (BitVec 32) := [1826300310#32, 4034526986#32, 1463339866#32, 1965046941#32, 3945551790#32, 3160967085#32, 2166060307#32, 1051184899#32, 611717771#32, 2305830260#32, 3142401781#32, 107659924#32, 3025694905#32, 4021286398#32, 4062619282#32, 3235462680#32]
def sko9 : List (BitVec 32) := [2199848067#32, 632561336#32, 813910112#32, 791250764#32, 940913606#32, 3353130648#32, 1374394071#32, 3928293327#32, 2229536229#32, 2860693802#32, 1743536396#32, 1857886036#32, 3491562685#32, 2051881797#32, 2053886476#32, 199368790#32]
def sko10 : List (BitVec 32) := [877523483#32, 3471454105#32, 1736318225#32, 420622749#32, 1752621005#32, 523287918#32, 4163758138#32, 228394128#32, 3908800527#32, 660444736#32, 40104512#32, 1979762310#32, 443665552#32, 2812072077#32, 1010475050#32, 222396187#32]
theorem sko_0 : mixS sko0 = sko1 := by kernel_rfl
theorem sko_1 : mixS sko1 = sko2 := by kernel_rfl
theorem sko_2 : mixS sko2 = sko3 := by kernel_rfl
theorem sko_3 : mixS sko3 = sko4 := by kernel_rfl
theorem sko_4 : mixS sko4 = sko5 := by kernel_rfl
theorem sko_5 : mixS sko5 = sko6 := by kernel_rfl
theorem sko_6 : mixS sko6 = sko7 := by kernel_rfl
theorem sko_7 : mixS sko7 = sko8 := by kernel_rfl
theorem sko_8 : mixS sko8 = sko9 := by kernel_rfl
theorem sko_9 : mixS sko9 = sko10 := by kernel_rfl
theorem sko_i : initS skK 1#32 skN = sko0 := by kernel_rfl
theorem sko_all : mixN 10 (initS skK 1#32 skN) = sko10 := by
  show mixS (mixS (mixS (mixS (mixS (mixS (mixS (mixS (mixS (mixS (initS skK 1#32 skN)))))))))) = sko10
  rw [sko_i, sko_0, sko_1, sko_2, sko_3, sko_4, sko_5, sko_6, sko_7, sko_8, sko_9]
theorem sko_b : blockS skK 1#32 skN = [128#8, 106#8, 190#8, 149#8, 7#8, 148#8, 10#8, 2#8, 67#8, 74#8, 224#8, 224#8, 17#8, 151#8, 50#8, 132#8, 206#8, 223#8, 118#8, 104#8, 110#8, 189#8, 48#8, 31#8, 58#8, 232#8, 45#8, 248#8, 144#8, 4#8, 157#8, 13#8, 15#8, 144#8, 251#8, 232#8, 64#8, 150#8, 93#8, 39#8, 64#8, 242#8, 99#8, 2#8, 134#8, 198#8, 0#8, 118#8, 145#8, 204#8, 113#8, 26#8, 143#8, 208#8, 156#8, 167#8, 42#8, 160#8, 58#8, 60#8, 27#8, 127#8, 65#8, 13#8] := by
  have h : blockS skK 1#32 skN = (List.range 64).map (outAt (mixN 10 (initS skK 1#32 skN)) (initS skK 1#32 skN)) := rfl
  rw [sko_all, sko_i] at h
  exact h.trans (by kernel_rfl)

abbrev txL : List (BitVec 8) := [116#8, 101#8, 120#8, 116#8]
abbrev moL : List (BitVec 8) := [109#8, 111#8, 114#8, 101#8]
abbrev leL : List (BitVec 8) := [108#8, 101#8, 115#8, 115#8]
abbrev stL : List (BitVec 8) := [244#8, 15#8, 198#8, 225#8]
theorem aTag_val (key nonce b more : List (BitVec 8)) {bl : List (BitVec 8)} (hb : blockS key 0#32 nonce = bl) : aTag key nonce b more = by16 (polyN (rNum (bl.take 32)) (macIn b more) (nBlk (macIn b more)) + sNum (bl.take 32)) := by
  have h := tagS_val (ownK key nonce) (macIn b more) (ownK_len _ _)
  rw [aTag, h, ownK, hb]
theorem sk_str : streamS skK 1#32 skN txL = stL := by
  have h : ∀ m, m < 64 → keyAt skK 1#32 skN m = (blockS skK 1#32 skN).getD m 0#8 := fun m hm => by
    rw [keyAt, Nat.div_eq_of_lt hm, Nat.mod_eq_of_lt hm]
    rfl
  have e : streamS skK 1#32 skN txL = (List.range 4).map fun j => txL.getD j 0#8 ^^^ keyAt skK 1#32 skN j := rfl
  have e2 : ((List.range 4).map fun j => txL.getD j 0#8 ^^^ keyAt skK 1#32 skN j) = (List.range 4).map fun j => txL.getD j 0#8 ^^^ (blockS skK 1#32 skN).getD j 0#8 := List.map_congr_left fun j hj => by
    rw [h j (by have := List.mem_range.1 hj; omega)]
  have h9 := e.trans e2
  rw [sko_b] at h9
  exact h9.trans (by kernel_rfl)
theorem sk_less : aTag skK skN stL leL = [244#8, 99#8, 108#8, 110#8, 172#8, 186#8, 148#8, 37#8, 96#8, 112#8, 104#8, 82#8, 122#8, 53#8, 97#8, 229#8] := by
  have h9 := aTag_val skK skN stL leL skz_b
  exact h9.trans (by kernel_rfl)
theorem sk_more : aTag skK skN stL moL = [49#8, 206#8, 141#8, 247#8, 230#8, 130#8, 194#8, 34#8, 116#8, 87#8, 242#8, 88#8, 173#8, 86#8, 190#8, 149#8] := by
  have h9 := aTag_val skK skN stL moL skz_b
  exact h9.trans (by kernel_rfl)
theorem seal_take (key nonce text more : List (BitVec 8)) {n : Nat} (hn : n = text.length + 16) : (sealS key nonce text more).take (n - 16) = streamS key 1#32 nonce text := by
  subst hn
  rw [sealS, List.take_append_of_le_length (by rw [streamS_len]; omega), List.take_of_length_le (by rw [streamS_len]; omega)]
theorem seal_drop (key nonce text more : List (BitVec 8)) {n : Nat} (hn : n = text.length + 16) : (sealS key nonce text more).drop (n - 16) = aTag key nonce (streamS key 1#32 nonce text) more := by
  subst hn
  rw [sealS, List.drop_left' (by rw [streamS_len]; omega)]
theorem sk_unlike : aTag skK skN ((sealS skK skN txL moL).take (20 - 16)) leL ≠ (sealS skK skN txL moL).drop (20 - 16) := by
  rw [seal_take skK skN txL moL (n := 20) rfl, seal_drop skK skN txL moL (n := 20) rfl, sk_str, sk_less, sk_more]
  decide
theorem stream_seal (key nonce text more : List (BitVec 8)) {n : Nat} (hn : n = text.length + 16) : streamS key 1#32 nonce ((sealS key nonce text more).take (n - 16)) = text := by
  rw [seal_take _ _ _ _ hn, stream_twice]

theorem c_seals  :
    Con Try.prog 25 [] [] (fun v rs => v = .bool true ∧ rs = []) := by
  refine Con.enter Try.func25 Try.ntmps25 (Nat.le_of_ble_eq_true rfl) rfl fun w => ?_
  refine At.seq ?_
  have hsl : (sealS skK skN txL moL).length = 20 := sealS_len _ _ _ _
  refine At.region ?_
  refine At.p (some 0) (P_assign rfl rfl) ?_
  refine At.nil ?_
  refine At.next ?_
  refine At.seq ?_
  refine At.region ?_
  refine At.p (some 6) (P_build_arr (cs := (skK.map u8V).toArray) (parts := _) (vs := [(0, _)]) rfl Try.underlying22 sz5 ze22 rfl rfl) ?_
  refine At.p (some 7) (P_build_arr (cs := (skN.map u8V).toArray) (parts := _) (vs := [(0, _)]) rfl Try.underlying24 sz5 ze24 rfl rfl) ?_
  refine At.s (S_buildSliceV (some 8) 8 (txL.map u8V) rfl Try.underlying31 sz5 ze5 rfl rfl (by decide) (by decide) rfl ⟨rfl, rfl, rfl, rfl⟩ (fun b8 => ?_))
  refine At.s (S_convB (some 9) (k := 8) rfl Try.underlying31 Try.underlying5 rfl rfl (by simp) ?_)
  refine At.s (S_buildSliceV (some 10) 10 (moL.map u8V) rfl Try.underlying31 sz5 ze5 rfl rfl (by decide) (by decide) rfl ⟨rfl, rfl, rfl, rfl⟩ (fun b10 => ?_))
  refine At.s (S_convB (some 11) (k := 10) rfl Try.underlying31 Try.underlying5 rfl rfl (by simp) ?_)
  refine At.s (S_callV (some 12) [(8, _), (10, _)] [12] (vs := [_, _, _, _]) rfl en23 rfl (VN (by simp) rfl View.all (VN (by simp) rfl View.all V0)) (by simp) (c_SealN (b := txL) (more := moL) (nb := 4) (nm := 4) rfl rfl rfl rfl (fun _ => rfl) (fun _ => rfl) (by decide) (by decide)) (by rintro _ _ ⟨A12, b12, c12, g12a, g12b, rfl, rfl⟩; rfl) ?_)
  rintro _ _ ⟨A12, b12, c12, g12a, g12b, rfl, rfl⟩
  refine At.p (some 1) (P_assign rfl rfl) ?_
  refine At.nil ?_
  refine At.next ?_
  refine At.seq ?_
  refine At.region ?_
  refine At.p (some 14) (P_build_arr (cs := (skK.map u8V).toArray) (parts := _) (vs := [(0, _)]) rfl Try.underlying22 sz5 ze22 rfl rfl) ?_
  refine At.p (some 15) (P_build_arr (cs := (skN.map u8V).toArray) (parts := _) (vs := [(0, _)]) rfl Try.underlying24 sz5 ze24 rfl rfl) ?_
  refine At.p (some 16) (P_move rfl rfl) ?_
  refine At.s (S_buildSliceV (some 17) 17 (moL.map u8V) rfl Try.underlying31 sz5 ze5 rfl rfl (by decide) (by decide) rfl ⟨rfl, rfl, rfl, rfl⟩ (fun b17 => ?_))
  refine At.s (S_convB (some 18) (k := 17) rfl Try.underlying31 Try.underlying5 rfl rfl (by simp) ?_)
  refine At.s (S_callV (some 19) [(12, _), (17, _)] [19] (vs := [_, _, _, _]) rfl en24 rfl (VN (by simp) rfl View.all (VN (by simp) rfl View.all V0)) (by simp) (c_OpenGN (b := (sealS skK skN txL moL)) (more := moL) (nb := 20) (nm := 4) hsl rfl rfl rfl (fun h => g12a (by omega)) (fun _ => rfl) (by decide) (by decide) (by omega) (by decide) (by rw [seal_take skK skN txL moL (n := 20) rfl, seal_drop skK skN txL moL (n := 20) rfl])) (by rintro _ _ ⟨A19, b19, c19, g19a, g19b, rfl, rfl⟩; rfl) ?_)
  rintro _ _ ⟨A19, b19, c19, g19a, g19b, rfl, rfl⟩
  refine At.p (some 13) (P_move rfl rfl) ?_
  refine At.p (some 20) (P_extract rfl rfl rfl) ?_
  refine At.p (some 21) (P_extract rfl rfl rfl) ?_
  refine At.p (some 2) (P_assign rfl rfl) ?_
  refine At.p (some 3) (P_assign rfl rfl) ?_
  refine At.nil ?_
  refine At.next ?_
  refine At.seq ?_
  refine At.region ?_
  refine At.p (some 23) (P_build_arr (cs := (skK.map u8V).toArray) (parts := _) (vs := [(0, _)]) rfl Try.underlying22 sz5 ze22 rfl rfl) ?_
  refine At.p (some 24) (P_build_arr (cs := (skN.map u8V).toArray) (parts := _) (vs := [(0, _)]) rfl Try.underlying24 sz5 ze24 rfl rfl) ?_
  refine At.p (some 25) (P_move rfl rfl) ?_
  refine At.s (S_buildSliceV (some 26) 26 (leL.map u8V) rfl Try.underlying31 sz5 ze5 rfl rfl (by decide) (by decide) rfl ⟨rfl, rfl, rfl, rfl⟩ (fun b26 => ?_))
  refine At.s (S_convB (some 27) (k := 26) rfl Try.underlying31 Try.underlying5 rfl rfl (by simp) ?_)
  refine At.s (S_callV (some 28) [(12, _), (26, _)] [] (vs := [_, _, _, _]) rfl en24 rfl (VN (by simp) rfl View.all (VN (by simp) rfl View.all V0)) (by simp) (c_OpenBN (b := (sealS skK skN txL moL)) (more := leL) (nb := 20) (nm := 4) hsl rfl rfl rfl (fun h => g12a (by omega)) (fun _ => rfl) (by decide) (by decide) (by omega) (by decide) sk_unlike) (by rintro _ _ ⟨rfl, rfl⟩; rfl) ?_)
  rintro _ _ ⟨rfl, rfl⟩
  refine At.p (some 22) (P_move rfl rfl) ?_
  refine At.p (some 29) (P_extract rfl rfl rfl) ?_
  refine At.p (some 30) (P_extract rfl rfl rfl) ?_
  refine At.p (some 4) (P_assign rfl rfl) ?_
  refine At.p (some 5) (P_assign rfl rfl) ?_
  refine At.nil ?_
  refine At.next ?_
  refine At.seq ?_
  refine At.region ?_
  refine At.p (some 31) (P_move rfl rfl) ?_
  refine At.p (some 32) (P_len_sl rfl rfl ⟨_, Try.underlying31⟩ rfl) ?_
  refine At.p (some 33) (P_cmp rfl rfl rfl rfl rfl rfl) ?_
  refine At.p (some 34) (P_move rfl rfl) ?_
  refine At.gy (t := 34) rfl (by rw [hsl]; rfl) rfl rfl ?_
  refine At.p (some 35) (P_move rfl rfl) ?_
  refine At.gy (t := 34) rfl (by rw [hsl]; rfl) rfl rfl ?_
  refine At.p (some 36) (P_cmp rfl rfl rfl rfl rfl rfl) ?_
  refine At.p (some 37) (P_pick_t rfl rfl (by rw [hsl]; rfl) rfl) ?_
  refine At.p (some 38) (P_move rfl rfl) ?_
  refine At.gy (t := 38) rfl (by simp) rfl rfl ?_
  refine At.p (some 39) (P_move rfl rfl) ?_
  refine At.gy (t := 38) rfl (by simp) rfl rfl ?_
  refine At.q (some 40) (Q_strN (l := txL) (n := 4) (k := 19) (j := 0) rfl rfl Try.underlying31 Try.underlying5 Try.underlying9 rfl (fun h => g19a (by omega)) (fun _ => ⟨rfl, rfl, rfl⟩) (by show List.take 4 (List.drop 0 (List.map u8V (streamS skK 1#32 skN ((sealS skK skN txL moL).take (20 - 16))))) = _; rw [stream_seal skK skN txL moL (n := 20) rfl]; rfl)) ?_
  refine At.gy (t := 38) rfl (by simp) rfl rfl ?_
  refine At.p (some 41) (P_eql_str (b := txL) rfl rfl rfl) ?_
  refine At.p (some 42) (P_pick_t rfl rfl (by simp) rfl) ?_
  refine At.p (some 43) (P_move rfl rfl) ?_
  refine At.gy (t := 43) rfl (by simp) rfl rfl ?_
  refine At.p (some 44) (P_move rfl rfl) ?_
  refine At.gy (t := 43) rfl (by simp) rfl rfl ?_
  refine At.p (some 45) (P_cmp rfl rfl rfl rfl rfl rfl) ?_
  refine At.p (some 46) (P_pick_t rfl rfl (by simp) rfl) ?_
  refine At.p (some 0) (P_assign rfl rfl) ?_
  refine At.nil ?_
  refine At.next ?_
  refine At.ret ?_
  refine At.give (.inl rfl) [] (rows' := []) (vs := [_]) rfl ⟨rfl, trivial⟩ rfl (by simp) (by simp) ⟨congrArg Value.bool (by simp), rfl⟩

set_option maxHeartbeats 1000000 in
theorem l_Seals (key nonce text more : List (BitVec 8)) (A A2 : Option Addr) (ca cb bq q br r : Nat) (hkey : key.length = 32) (hnonce : nonce.length = 12) (hA : 0 < text.length → A = some ⟨bq, q, none⟩) (hca : text.length ≤ ca) (hB : 0 < more.length → A2 = some ⟨br, r, none⟩) (hcb : more.length ≤ cb) :
    Con Try.prog 12 [.agg (key.map u8V ++ nonce.map u8V).toArray, .slice A text.length ca, .slice A2 more.length cb] [pRow bq q text, pRow br r more] (fun v rs => v = .bool true ∧ rs = []) := by
  refine Con.enter Try.func12 Try.ntmps12 (Nat.le_of_ble_eq_true rfl) rfl fun w => ?_
  refine At.seq ?_
  have hk32 : key.length = 32 := hkey
  have hn12 : nonce.length = 12 := hnonce
  obtain ⟨n, hn⟩ : ∃ n, n = min text.length 200 := ⟨_, rfl⟩
  have hn2 : (text.take n).length = n := by simp; omega
  obtain ⟨nm, hm⟩ : ∃ n, n = min more.length 60 := ⟨_, rfl⟩
  have hm2 : (more.take nm).length = nm := by simp; omega
  have hsl : (sealS key nonce (text.take n) (more.take nm)).length = (text.take n).length + 16 := sealS_len _ _ _ _
  refine At.region ?_
  refine At.s (S_box (some 3) 3 (zs := key.map u8V ++ nonce.map u8V) rfl rfl rfl (fun b3 => ?_))
  refine At.p (some 6) (P_assign rfl rfl) ?_
  refine At.nil ?_
  refine At.next ?_
  refine At.seq ?_
  refine At.draws 11 [] [.q false [0, 1, 2, 3, 4, 5, 6, 7, 8, 9, 10]] (by kernel_rfl) (by kernel_rfl) ?_
  refine At.wp (some 11) (P_move rfl rfl) ?_
  refine At.wp (some 12) (P_move rfl rfl) ?_
  refine At.wp (some 13) (P_len_sl rfl rfl ⟨_, Try.underlying31⟩ rfl) ?_
  refine At.wp (some 14) (P_min2 rfl rfl rfl rfl) ?_
  refine At.wp (some 15) (P_slice_sl (h := n) rfl Try.underlying31 sz5 rfl rfl ⟨_, _, rfl, by omega⟩ rfl (by omega) (by omega) (by omega)) ?_
  refine At.wp (some 16) (P_move rfl rfl) ?_
  refine At.wp (some 17) (P_move rfl rfl) ?_
  refine At.wp (some 18) (P_len_sl rfl rfl ⟨_, Try.underlying31⟩ rfl) ?_
  refine At.wp (some 19) (P_min2 rfl rfl rfl rfl) ?_
  refine At.wp (some 20) (P_slice_sl (h := nm) rfl Try.underlying31 sz5 rfl rfl ⟨_, _, rfl, by omega⟩ rfl (by omega) (by omega) (by omega)) ?_
  refine At.wp (some 1) (P_assign rfl rfl) ?_
  refine At.wqn ?_
  refine At.wt rfl ?_
  refine At.p (some 2) (P_assign rfl rfl) ?_
  refine At.nil ?_
  refine At.next ?_
  refine At.seq ?_
  refine At.region ?_
  refine At.p (some 21) (P_move rfl rfl) ?_
  refine At.q (some 22) (Q_strN (l := (text.take n)) (n := n) (k := 0) (j := 0) hn2 rfl Try.underlying31 Try.underlying5 Try.underlying9 rfl (fun h => cut_zero (hA (by omega))) (fun _ => ⟨rfl, rfl, rfl⟩) (by simp [pRow, List.map_take])) ?_
  refine At.p (some 23) (P_move rfl rfl) ?_
  refine At.q (some 24) (Q_strN (l := (more.take nm)) (n := nm) (k := 1) (j := 0) hm2 rfl Try.underlying31 Try.underlying5 Try.underlying9 rfl (fun h => cut_zero (hB (by omega))) (fun _ => ⟨rfl, rfl, rfl⟩) (by simp [pRow, List.map_take])) ?_
  refine At.p (some 25) (P_add_str rfl rfl rfl (by first | omega | (simp <;> omega))) ?_
  refine At.p (some 7) (P_assign rfl rfl) ?_
  refine At.nil ?_
  refine At.next ?_
  refine At.seq ?_
  refine At.region ?_
  refine At.p (some 26) (P_fieldAddr0 (off := 0) rfl Try.underlying44 rfl sz22 rfl rfl) ?_
  refine At.q (some 27) (Q_loadN (k := 3) (j := 0) (cs := key.map u8V) rfl rfl Try.underlying22 rfl sz22 rfl rfl rfl (by rw [List.drop_zero, List.take_append_of_le_length (by rw [List.length_map, hkey]; decide), List.take_of_length_le (by rw [List.length_map, hkey]; decide)]) (by rw [List.length_map, hkey])) ?_
  refine At.p (some 28) (P_fieldAddr0 (off := 32) rfl Try.underlying44 rfl sz24 rfl rfl) ?_
  refine At.q (some 29) (Q_loadN (k := 3) (j := 32) (cs := nonce.map u8V) rfl rfl Try.underlying24 rfl sz24 rfl rfl rfl (by rw [List.drop_left' (by rw [List.length_map, hkey]), List.take_of_length_le (by rw [List.length_map, hnonce]; decide)]) (by rw [List.length_map, hnonce])) ?_
  refine At.p (some 30) (P_move rfl rfl) ?_
  refine At.p (some 31) (P_move rfl rfl) ?_
  refine At.s (S_callV (some 32) [(0, _), (1, _)] [8] (vs := [_, _, _, _]) rfl en23 rfl (VN (by simp) rfl (View.sub (j := 0) (m := n) rfl rfl) (VN (by simp) rfl (View.sub (j := 0) (m := nm) rfl rfl) V0)) (by simp) (c_SealN (b := (text.take n)) (more := (more.take nm)) (nb := n) (nm := nm) hn2 hm2 hkey hnonce (fun h => cut_zero (hA (by omega))) (fun h => cut_zero (hB (by omega))) (by omega) (by omega)) (by rintro _ _ ⟨A8, b8, c8, g8a, g8b, rfl, rfl⟩; rfl) ?_)
  rintro _ _ ⟨A8, b8, c8, g8a, g8b, rfl, rfl⟩
  refine At.p (some 8) (P_assign rfl rfl) ?_
  refine At.nil ?_
  refine At.next ?_
  refine At.seq ?_
  refine At.region ?_
  refine At.p (some 34) (P_fieldAddr0 (off := 0) rfl Try.underlying44 rfl sz22 rfl rfl) ?_
  refine At.q (some 35) (Q_loadN (k := 3) (j := 0) (cs := key.map u8V) rfl rfl Try.underlying22 rfl sz22 rfl rfl rfl (by rw [List.drop_zero, List.take_append_of_le_length (by rw [List.length_map, hkey]; decide), List.take_of_length_le (by rw [List.length_map, hkey]; decide)]) (by rw [List.length_map, hkey])) ?_
  refine At.p (some 36) (P_fieldAddr0 (off := 32) rfl Try.underlying44 rfl sz24 rfl rfl) ?_
  refine At.q (some 37) (Q_loadN (k := 3) (j := 32) (cs := nonce.map u8V) rfl rfl Try.underlying24 rfl sz24 rfl rfl rfl (by rw [List.drop_left' (by rw [List.length_map, hkey]), List.take_of_length_le (by rw [List.length_map, hnonce]; decide)]) (by rw [List.length_map, hnonce])) ?_
  refine At.p (some 38) (P_move rfl rfl) ?_
  refine At.p (some 39) (P_move rfl rfl) ?_
  refine At.s (S_callV (some 40) [(8, _), (1, _)] [40] (vs := [_, _, _, _]) rfl en24 rfl (VN (by simp) rfl View.all (VN (by simp) rfl (View.sub (j := 0) (m := nm) rfl rfl) V0)) (by simp) (c_OpenGN (b := (sealS key nonce (text.take n) (more.take nm))) (more := (more.take nm)) (nb := (sealS key nonce (text.take n) (more.take nm)).length) (nm := nm) rfl hm2 hkey hnonce (fun h => g8a (by omega)) (fun h => cut_zero (hB (by omega))) (by omega) (by omega) g8b (by omega) (by rw [seal_take _ _ _ _ (by rw [hsl, hn2]), seal_drop _ _ _ _ (by rw [hsl, hn2])])) (by rintro _ _ ⟨A40, b40, c40, g40a, g40b, rfl, rfl⟩; rfl) ?_)
  rintro _ _ ⟨A40, b40, c40, g40a, g40b, rfl, rfl⟩
  refine At.p (some 33) (P_move rfl rfl) ?_
  refine At.p (some 41) (P_extract rfl rfl rfl) ?_
  refine At.p (some 42) (P_extract rfl rfl rfl) ?_
  refine At.p (some 9) (P_assign rfl rfl) ?_
  refine At.p (some 10) (P_assign rfl rfl) ?_
  refine At.nil ?_
  refine At.next ?_
  refine At.seq ?_
  refine At.draws 32 [] [.q false [0, 1, 2, 3, 4, 5, 6, 7, 8, 9], .e false 10, .q false [11, 12, 13, 14, 15, 16, 17, 18, 19, 20, 21, 22, 23, 24, 25, 26, 27, 28, 29, 30, 31]] (by kernel_rfl) (by kernel_rfl) ?_
  refine At.wcV (some 43) [] (vs := []) rfl en25 rfl V0 (c_seals) ?_
  refine At.wp (some 44) (P_move rfl rfl) ?_
  refine At.wgy (some 45) (t := 44) rfl rfl rfl rfl (P_move rfl rfl) ?_
  refine At.wgyq (some 46) (t := 44) rfl rfl rfl rfl (Q_strN (l := (sealS key nonce (text.take n) (more.take nm))) (n := (sealS key nonce (text.take n) (more.take nm)).length) (k := 8) (j := 0) rfl rfl Try.underlying31 Try.underlying5 Try.underlying9 rfl (fun h => g8a (by omega)) (fun _ => ⟨rfl, rfl, rfl⟩) (by rw [List.drop_zero, List.take_of_length_le (by rw [List.length_map]; omega)])) ?_
  refine At.wgy (some 47) (t := 44) rfl rfl rfl rfl (P_fieldAddr0 (off := 0) rfl Try.underlying44 rfl sz22 rfl rfl) ?_
  refine At.wgyq (some 48) (t := 44) rfl rfl rfl rfl (Q_loadN (k := 3) (j := 0) (cs := key.map u8V) rfl rfl Try.underlying22 rfl sz22 rfl rfl rfl (by rw [List.drop_zero, List.take_append_of_le_length (by rw [List.length_map, hkey]; decide), List.take_of_length_le (by rw [List.length_map, hkey]; decide)]) (by rw [List.length_map, hkey])) ?_
  refine At.wgy (some 49) (t := 44) rfl rfl rfl rfl (P_fieldAddr0 (off := 32) rfl Try.underlying44 rfl sz24 rfl rfl) ?_
  refine At.wgyq (some 50) (t := 44) rfl rfl rfl rfl (Q_loadN (k := 3) (j := 32) (cs := nonce.map u8V) rfl rfl Try.underlying24 rfl sz24 rfl rfl rfl (by rw [List.drop_left' (by rw [List.length_map, hkey]), List.take_of_length_le (by rw [List.length_map, hnonce]; decide)]) (by rw [List.length_map, hnonce])) ?_
  refine At.wgy (some 51) (t := 44) rfl rfl rfl rfl (P_move rfl rfl) ?_
  refine At.wgy (some 52) (t := 44) rfl rfl rfl rfl (P_move rfl rfl) ?_
  refine At.wqn ?_
  refine At.wey (t := 44) rfl rfl rfl rfl ?_
  refine SStep.up (S_callV (some 53) [(0, _), (1, _)] [53] (vs := [_, _, _, _]) rfl en26 rfl (VN (by simp) rfl (View.sub (j := 0) (m := n) rfl rfl) (VN (by simp) rfl (View.sub (j := 0) (m := nm) rfl rfl) V0)) (by simp) (r_SealN (b := (text.take n)) (more := (more.take nm)) (nb := n) (nm := nm) hn2 hm2 hkey hnonce (fun h => cut_zero (hA (by omega))) (fun h => cut_zero (hB (by omega))) (by omega) (by omega)) (by rintro _ _ ⟨A53, b53, c53, g53a, g53b, rfl, rfl⟩; rfl) ?_)
  rintro _ _ ⟨A53, b53, c53, g53a, g53b, rfl, rfl⟩
  refine At.wgyq (some 54) (t := 44) rfl rfl rfl rfl (Q_strN (l := (sealS key nonce (text.take n) (more.take nm))) (n := (sealS key nonce (text.take n) (more.take nm)).length) (k := 53) (j := 0) rfl rfl Try.underlying31 Try.underlying5 Try.underlying9 rfl (fun h => g53a (by omega)) (fun _ => ⟨rfl, rfl, rfl⟩) (by rw [List.drop_zero, List.take_of_length_le (by rw [List.length_map]; omega)])) ?_
  refine At.wgy (some 55) (t := 44) rfl rfl rfl rfl (P_eql_str rfl rfl rfl) ?_
  refine At.wp (some 56) (P_pick_t rfl rfl rfl rfl) ?_
  refine At.wp (some 57) (P_move rfl rfl) ?_
  refine At.wgy (some 58) (t := 57) rfl (by simp) rfl rfl (P_move rfl rfl) ?_
  refine At.wgy (some 59) (t := 57) rfl (by simp) rfl rfl (P_cmp rfl rfl rfl rfl rfl rfl) ?_
  refine At.wp (some 60) (P_pick_t rfl rfl (by simp) rfl) ?_
  refine At.wp (some 61) (P_move rfl rfl) ?_
  refine At.wgy (some 62) (t := 61) rfl (by simp) rfl rfl (P_move rfl rfl) ?_
  refine At.wgyq (some 63) (t := 61) rfl (by simp) rfl rfl (Q_strN (l := (text.take n)) (n := (sealS key nonce (text.take n) (more.take nm)).length - 16) (k := 40) (j := 0) (by rw [hsl, hn2]; omega) rfl Try.underlying31 Try.underlying5 Try.underlying9 rfl (fun h => g40a (by omega)) (fun _ => ⟨rfl, rfl, rfl⟩) (by rw [List.drop_zero, stream_seal _ _ _ _ (by rw [hsl, hn2]), List.take_of_length_le (by rw [List.length_map, hn2, hsl]; omega)])) ?_
  refine At.wgy (some 64) (t := 61) rfl (by simp) rfl rfl (P_move rfl rfl) ?_
  refine At.wgyq (some 65) (t := 61) rfl (by simp) rfl rfl (Q_strN (l := (text.take n)) (n := n) (k := 0) (j := 0) hn2 rfl Try.underlying31 Try.underlying5 Try.underlying9 rfl (fun h => cut_zero (hA (by omega))) (fun _ => ⟨rfl, rfl, rfl⟩) (by simp [pRow, List.map_take])) ?_
  refine At.wgy (some 66) (t := 61) rfl (by simp) rfl rfl (P_eql_str rfl rfl rfl) ?_
  refine At.wp (some 67) (P_pick_t rfl rfl (by simp) rfl) ?_
  refine At.wp (some 68) (P_move rfl rfl) ?_
  refine At.wgy (some 69) (t := 68) rfl (by simp) rfl rfl (P_move rfl rfl) ?_
  refine At.wgyq (some 70) (t := 68) rfl (by simp) rfl rfl (Q_strN (l := (text.take n)) (n := n) (k := 0) (j := 0) hn2 rfl Try.underlying31 Try.underlying5 Try.underlying9 rfl (fun h => cut_zero (hA (by omega))) (fun _ => ⟨rfl, rfl, rfl⟩) (by simp [pRow, List.map_take])) ?_
  refine At.wgy (some 71) (t := 68) rfl (by simp) rfl rfl (P_move rfl rfl) ?_
  refine At.wgyq (some 72) (t := 68) rfl (by simp) rfl rfl (Q_strN (l := (more.take nm)) (n := nm) (k := 1) (j := 0) hm2 rfl Try.underlying31 Try.underlying5 Try.underlying9 rfl (fun h => cut_zero (hB (by omega))) (fun _ => ⟨rfl, rfl, rfl⟩) (by simp [pRow, List.map_take])) ?_
  refine At.wgy (some 73) (t := 68) rfl (by simp) rfl rfl (P_add_str rfl rfl rfl (by first | omega | (simp <;> omega))) ?_
  refine At.wgy (some 74) (t := 68) rfl (by simp) rfl rfl (P_move rfl rfl) ?_
  refine At.wqn ?_
  refine At.wt rfl ?_
  refine At.gy (t := 68) rfl (by simp) rfl rfl ?_
  refine At.p (some 75) (P_eql_str rfl rfl rfl) ?_
  refine At.p (some 76) (P_pick_t rfl rfl (by simp) rfl) ?_
  refine At.p (some 6) (P_assign rfl rfl) ?_
  refine At.nil ?_
  refine At.next ?_
  refine At.ret ?_
  refine At.give (.inl rfl) [] (rows' := []) (vs := [_]) rfl ⟨rfl, trivial⟩ rfl (by simp) (by simp) ⟨congrArg Value.bool (by simp), rfl⟩
end Go.Proofs.Ytkdkpjnlknofeaa
