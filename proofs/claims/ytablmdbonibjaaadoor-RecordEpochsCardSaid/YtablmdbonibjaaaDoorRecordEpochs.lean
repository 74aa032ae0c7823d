/- The law RecordEpochs is true of all secrets, counts and texts; it changes nothing. No condition. -/
import Derived.Test.YtablmdbonibjaaaDoorRV5
import Derived.Test.YtablmdbonibjaaaDoorSE12
import Derived.Test.YtablmdbonibjaaaDoorSE23
import Derived.Test.YtablmdbonibjaaaDoorRows
import Derived.Test.YtablmdbonibjaaaDoorCards
import Derived.Test.YtablmdbonibjaaaDoorTie
import Derived.Test.YtablmdbonibjaaaDoorSE32
namespace Go.Proofs.YtablmdbonibjaaaDoor.recordEpochs
set_option linter.unusedSimpArgs false
set_option linter.unusedVariables false
open Go.ChangeShapes Go.WideShapes Go.ChangeAt Go.RowKit Go.SE
theorem own : ownKnob Tryd.prog.godebug = none := by kernel_rfl
theorem laid : laidOutB Tryd.prog = true := by kernel_rfl

set_option maxRecDepth 100000 in
theorem lifted (os : Os) (started : os.Started) (H : Type) (enc : TypeId × Value → H) :
    ReturnsInHanded {} Tryd.checked os 7 .any (fun w args => (Rows.recordEpochsSpec.pre enc Tryd.prog Tryd.f7 [] false w args ∧ laidMetH Tryd.prog Rows.recordEpochsRow.laid w) ∧ sizedMet enc Tryd.prog Tryd.f7 (OpenSpec.ofChange Rows.recordEpochsSpec) false w args) (Rows.recordEpochsSpec.post enc Tryd.prog Tryd.f7 false true false false) := by
  refine ROW.liftedL (C := Tryd.checked) (tb := 4) (L := Rows.recordEpochsRow.laid) os started H enc own (by kernel_rfl) Tryd.func7 laid (by kernel_rfl) rfl (by kernel_rfl) Tryd.underlying4 ?_
    (ChangeSpec.witness_shaped (enc := enc) (C := Tryd.checked) (os := os) (X := fun w _ => laidMetH Tryd.prog Rows.recordEpochsRow.laid w) false (World.laidAll Tryd.prog os Rows.recordEpochsRow.laid) #[.agg (List.replicate 32 (.int .u8 0)).toArray, .int .i64 0, .slice none 0 0] 8 (World.laidAll_os _ _ _)
      (World.shaped_of_ZipB (by kernel_rfl) (by kernel_rfl)) (by kernel_rfl) (by kernel_rfl) (by kernel_rfl)
      (by rw [MakeChecks.laidMetH_plain _ _ _ (by kernel_rfl)]; exact laidMet_laidAll _ (by kernel_rfl) (by kernel_rfl))) ?_
  · intro ds hl
    have e0 : Tryd.f7.params.toList.length = 3 := by kernel_rfl
    rw [e0] at hl
    match ds, hl with
    | [_, _, _], _ => rfl
  · intro W base args ds p hval hA hlt
    have hA : DataW.TrodAll enc Tryd.prog W 0 (fun _ => true) true Tryd.f7.params.toList args.toList ds p := hA
    have hval : ∀ (j : Nat) t v, Tryd.f7.params[j]? = some t → args[j]? = some v → Value.okWide Tryd.prog W .any base t v := hval
    rw [Tryd.params7] at hA hval
    obtain ⟨v0, vs0, d0, ds0, p0, q0, hargs, rfl, rfl, h0, r0⟩ := trodAll_cons hA
    obtain ⟨v1, vs1, d1, ds1, p1, q1, rfl, rfl, rfl, h1, r1⟩ := trodAll_cons r0
    obtain ⟨v2, vs2, d2, ds2, p2, q2, rfl, rfl, rfl, h2, r2⟩ := trodAll_cons r1
    obtain ⟨rfl, rfl, rfl⟩ := trodAll_nil r2
    obtain rfl : args = #[v0, v1, v2] := by cases args; simp_all
    obtain ⟨a0, rfl, w0⟩ := ROW.open_words UK.u8 Tryd.underlying22 Tryd.underlying5 (by kernel_rfl) (by kernel_rfl) (hval 0 22 v0 rfl rfl) h0
    obtain ⟨a1, rfl, rfl, rfl, w1⟩ := open_int Tryd.underlying3 (hval 1 3 v1 rfl rfl) h1
    obtain ⟨A2, c2, b2, s2, a2, rfl, w2⟩ := ROW.open_bytes Tryd.underlying29 Tryd.underlying5 (by kernel_rfl) (hval 2 29 v2 rfl rfl) h2 (fun x hx => hlt x (by simp [hx]))
    refine ROW.of_con (args := [_, _, _]) (l_Epochs (s := a0) (n := a1) (txt := a2) (ntxt := a2.length) (Atxt := A2) (ctxt := c2) (btxt := b2) (qtxt := s2) w0 rfl w2.ad w2.1) ?_
    intro r hr
    simp only [List.mem_cons, List.not_mem_nil, or_false] at hr
    rcases hr with rfl
    · exact w2.row

theorem over : Rows.recordEpochsRow.holds Tryd.pinned (OpenSpec.ofChange Rows.recordEpochsSpec) :=
  OpenClaim.holds_of_wide 7 Tryd.f7 rfl rfl rfl rfl rfl rfl rfl ⟨rfl, rfl, rfl, rfl, rfl⟩ rfl rfl rfl rfl rfl (by kernel_rfl) Tryd.func7 (by kernel_rfl)
    (of_decide_eq_true (by kernel_rfl)) (by unfold Func.isWrapper; first | (rw [if_pos (by decide +kernel)]; kernel_rfl) | (rw [if_neg (by decide +kernel)]; exact ⟨rfl, rfl⟩))
    (fun os started H enc _ => lifted os started H enc)
theorem proved : Rows.RecordEpochsCardSaid :=
  Claim7.holds_tied_plain_at .later [] [.data, .pinned] true (true, "8f3433c45943626f0c0dadb02d5dd2d3bfd4eb3ef7946a4c7f7ab830b2693428") false over (fun _ h => by cases h) (by kernel_rfl) (fun _ h => by cases h) recordEpochs_row_tie rfl ⟨rfl, rfl⟩ (by kernel_rfl) rfl
    (fun f fn hf hfn => by
      obtain rfl : f = 7 := Option.some.inj ((show Tryd.prog.funcNamed "relay/relaylaw12.RecordEpochs" = some 7 by kernel_rfl).symm.trans hf) |>.symm
      obtain rfl : fn = Tryd.f7 := (Option.some.inj (Tryd.func7.symm.trans hfn)).symm
      exact ⟨by kernel_rfl, fun j t ht => by
        rw [Tryd.params7] at ht
        have hm : t ∈ [22, 3, 29] := by simpa using Array.mem_of_getElem? ht
        have hall : ([22, 3, 29].all fun u => !Tryd.prog.wantsStandIn u) = true := by kernel_rfl
        exact (show Tryd.prog.wantsStandIn t = false by simpa using List.all_eq_true.1 hall t hm)⟩)
    (by kernel_rfl)
#print axioms proved
end Go.Proofs.YtablmdbonibjaaaDoor.recordEpochs
