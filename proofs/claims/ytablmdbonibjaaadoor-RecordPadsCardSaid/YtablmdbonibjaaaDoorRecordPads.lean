/- The law RecordPads is true of all keys and texts; it changes nothing. No condition. -/
import Derived.Test.YtablmdbonibjaaaDoorRV6
import Derived.Test.YtablmdbonibjaaaDoorSE12
import Derived.Test.YtablmdbonibjaaaDoorSE23
import Derived.Test.YtablmdbonibjaaaDoorRows
import Derived.Test.YtablmdbonibjaaaDoorCards
import Derived.Test.YtablmdbonibjaaaDoorTie
import Derived.Test.YtablmdbonibjaaaDoorSE32
namespace Go.Proofs.YtablmdbonibjaaaDoor.recordPads
set_option linter.unusedSimpArgs false
set_option linter.unusedVariables false
open Go.ChangeShapes Go.WideShapes Go.ChangeAt Go.RowKit Go.SE
theorem own : ownKnob Tryd.prog.godebug = none := by kernel_rfl
theorem laid : laidOutB Tryd.prog = true := by kernel_rfl

set_option maxRecDepth 100000 in
theorem lifted (os : Os) (started : os.Started) (H : Type) (enc : TypeId × Value → H) :
    ReturnsInHanded {} Tryd.checked os 5 .any (fun w args => (Rows.recordPadsSpec.pre enc Tryd.prog Tryd.f5 [] false w args ∧ laidMetH Tryd.prog Rows.recordPadsRow.laid w) ∧ sizedMet enc Tryd.prog Tryd.f5 (OpenSpec.ofChange Rows.recordPadsSpec) false w args) (Rows.recordPadsSpec.post enc Tryd.prog Tryd.f5 false true false false) := by
  refine ROW.liftedL (C := Tryd.checked) (tb := 4) (L := Rows.recordPadsRow.laid) os started H enc own (by kernel_rfl) Tryd.func5 laid (by kernel_rfl) rfl (by kernel_rfl) Tryd.underlying4 ?_
    (ChangeSpec.witness_shaped (enc := enc) (C := Tryd.checked) (os := os) (X := fun w _ => laidMetH Tryd.prog Rows.recordPadsRow.laid w) false (World.laidAll Tryd.prog os Rows.recordPadsRow.laid) #[.agg (List.replicate 32 (Value.int .u8 0) ++ List.replicate 12 (Value.int .u8 0) ++ List.replicate 1 (Value.int .u64 0) ++ List.replicate 2 (Value.int .i64 0)).toArray, .slice none 0 0] 8 (World.laidAll_os _ _ _)
      (World.shaped_of_ZipB (by kernel_rfl) (by kernel_rfl)) (by kernel_rfl) (by kernel_rfl) (by kernel_rfl)
      (by rw [MakeChecks.laidMetH_plain _ _ _ (by kernel_rfl)]; exact laidMet_laidAll _ (by kernel_rfl) (by kernel_rfl))) ?_
  · intro ds hl
    have e0 : Tryd.f5.params.toList.length = 2 := by kernel_rfl
    rw [e0] at hl
    match ds, hl with
    | [_, _], _ => rfl
  · intro W base args ds p hval hA hlt
    have hA : DataW.TrodAll enc Tryd.prog W 0 (fun _ => true) true Tryd.f5.params.toList args.toList ds p := hA
    have hval : ∀ (j : Nat) t v, Tryd.f5.params[j]? = some t → args[j]? = some v → Value.okWide Tryd.prog W .any base t v := hval
    rw [Tryd.params5] at hA hval
    obtain ⟨v0, vs0, d0, ds0, p0, q0, hargs, rfl, rfl, h0, r0⟩ := trodAll_cons hA
    obtain ⟨v1, vs1, d1, ds1, p1, q1, rfl, rfl, rfl, h1, r1⟩ := trodAll_cons r0
    obtain ⟨rfl, rfl, rfl⟩ := trodAll_nil r1
    obtain rfl : args = #[v0, v1] := by cases args; simp_all
    obtain ⟨cs0, rfl, hf0⟩ := ROW.open_agg (n := 0) (g := 9) (ls := List.replicate 32 (ROW.lit0 0 (.i .u8)) ++ (List.replicate 12 (ROW.lit0 0 (.i .u8)) ++ (List.replicate 1 (ROW.lit0 0 (.i .u64)) ++ (List.replicate 2 (ROW.lit0 0 (.i .i64)))))) (by kernel_rfl) (.inl ⟨_, Tryd.underlying28⟩) (hval 0 28 v0 rfl rfl) h0
    obtain ⟨cl0_0, cr0_0, rfl, hl0_0, hr0_0⟩ := ROW.All2.split hf0
    obtain ⟨x0_0, rfl, hx0_0⟩ := ROW.fits_words UK.u8 hl0_0
    obtain ⟨cl0_1, cr0_1, rfl, hl0_1, hr0_1⟩ := ROW.All2.split hr0_0
    obtain ⟨x0_1, rfl, hx0_1⟩ := ROW.fits_words UK.u8 hl0_1
    obtain ⟨cl0_2, cr0_2, rfl, hl0_2, hr0_2⟩ := ROW.All2.split hr0_1
    obtain ⟨xw0_2, rfl, hx0_2⟩ := ROW.fits_words UK.u64 hl0_2
    obtain ⟨x0_2, rfl⟩ : ∃ y, xw0_2 = [y] := by match xw0_2, hx0_2 with | [y], _ => exact ⟨y, rfl⟩
    obtain ⟨xs0_3, rfl, hz0_3, hx0_3⟩ := ROW.fits_ints hr0_2
    obtain ⟨x0_3a, x0_3b, rfl⟩ : ∃ x0_3a x0_3b, xs0_3 = [x0_3a, x0_3b] := by match xs0_3, hz0_3 with | [y0, y1], _ => exact ⟨y0, y1, rfl⟩
    obtain ⟨A1, c1, b1, s1, a1, rfl, w1⟩ := ROW.open_bytes Tryd.underlying29 Tryd.underlying5 (by kernel_rfl) (hval 1 29 v1 rfl rfl) h1 (fun x hx => hlt x (by simp [hx]))
    refine ROW.of_con (args := [_, _]) (l_Pads (key := x0_0) (iv := x0_1) (seq := x0_2) (kd := x0_3a) (pad := x0_3b) (txt := a1) (ntxt := a1.length) (Atxt := A1) (ctxt := c1) (btxt := b1) (qtxt := s1) hx0_0 hx0_1 rfl w1.ad w1.1) ?_
    intro r hr
    simp only [List.mem_cons, List.not_mem_nil, or_false] at hr
    rcases hr with rfl
    · exact w1.row

theorem over : Rows.recordPadsRow.holds Tryd.pinned (OpenSpec.ofChange Rows.recordPadsSpec) :=
  OpenClaim.holds_of_wide 5 Tryd.f5 rfl rfl rfl rfl rfl rfl rfl ⟨rfl, rfl, rfl, rfl, rfl⟩ rfl rfl rfl rfl rfl (by kernel_rfl) Tryd.func5 (by kernel_rfl)
    (of_decide_eq_true (by kernel_rfl)) (by unfold Func.isWrapper; first | (rw [if_pos (by decide +kernel)]; kernel_rfl) | (rw [if_neg (by decide +kernel)]; exact ⟨rfl, rfl⟩))
    (fun os started H enc _ => lifted os started H enc)
theorem proved : Rows.RecordPadsCardSaid :=
  Claim7.holds_tied_plain_at .later [] [.data, .pinned] true (true, "8f3433c45943626f0c0dadb02d5dd2d3bfd4eb3ef7946a4c7f7ab830b2693428") false over (fun _ h => by cases h) (by kernel_rfl) (fun _ h => by cases h) recordPads_row_tie rfl ⟨rfl, rfl⟩ (by kernel_rfl) rfl
    (fun f fn hf hfn => by
      obtain rfl : f = 5 := Option.some.inj ((show Tryd.prog.funcNamed "relay/relaylaw12.RecordPads" = some 5 by kernel_rfl).symm.trans hf) |>.symm
      obtain rfl : fn = Tryd.f5 := (Option.some.inj (Tryd.func5.symm.trans hfn)).symm
      exact ⟨by kernel_rfl, fun j t ht => by
        rw [Tryd.params5] at ht
        have hm : t ∈ [28, 29] := by simpa using Array.mem_of_getElem? ht
        have hall : ([28, 29].all fun u => !Tryd.prog.wantsStandIn u) = true := by kernel_rfl
        exact (show Tryd.prog.wantsStandIn t = false by simpa using List.all_eq_true.1 hall t hm)⟩)
    (by kernel_rfl)
#print axioms proved
end Go.Proofs.YtablmdbonibjaaaDoor.recordPads
