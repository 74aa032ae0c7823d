/- The law RecordKeys is true of all secrets and numbers; it changes nothing. No condition. -/
import Derived.Test.YtablmdbonibjaaaDoorRV0
import Derived.Test.YtablmdbonibjaaaDoorSE12
import Derived.Test.YtablmdbonibjaaaDoorSE23
import Derived.Test.YtablmdbonibjaaaDoorRows
import Derived.Test.YtablmdbonibjaaaDoorCards
import Derived.Test.YtablmdbonibjaaaDoorTie
import Derived.Test.YtablmdbonibjaaaDoorSE32
namespace Go.Proofs.YtablmdbonibjaaaDoor.recordKeys
set_option linter.unusedSimpArgs false
set_option linter.unusedVariables false
open Go.ChangeShapes Go.WideShapes Go.ChangeAt Go.RowKit Go.SE
theorem own : ownKnob Tryd.prog.godebug = none := by kernel_rfl
theorem laid : laidOutB Tryd.prog = true := by kernel_rfl

set_option maxRecDepth 100000 in
theorem lifted (os : Os) (started : os.Started) (H : Type) (enc : TypeId × Value → H) :
    ReturnsInHanded {} Tryd.checked os 6 .any (fun w args => (Rows.recordKeysSpec.pre enc Tryd.prog Tryd.f6 [] false w args ∧ laidMetH Tryd.prog Rows.recordKeysRow.laid w) ∧ sizedMet enc Tryd.prog Tryd.f6 (OpenSpec.ofChange Rows.recordKeysSpec) false w args) (Rows.recordKeysSpec.post enc Tryd.prog Tryd.f6 false true false false) := by
  refine ROW.liftedL (C := Tryd.checked) (tb := 4) (L := Rows.recordKeysRow.laid) os started H enc own (by kernel_rfl) Tryd.func6 laid (by kernel_rfl) rfl (by kernel_rfl) Tryd.underlying4 ?_
    (ChangeSpec.witness_shaped (enc := enc) (C := Tryd.checked) (os := os) (X := fun w _ => laidMetH Tryd.prog Rows.recordKeysRow.laid w) false (World.laidAll Tryd.prog os Rows.recordKeysRow.laid) #[.agg (List.replicate 32 (.int .u8 0)).toArray, .int .u64 0, .int .u64 0] 8 (World.laidAll_os _ _ _)
      (World.shaped_of_ZipB (by kernel_rfl) (by kernel_rfl)) (by kernel_rfl) (by kernel_rfl) (by kernel_rfl)
      (by rw [MakeChecks.laidMetH_plain _ _ _ (by kernel_rfl)]; exact laidMet_laidAll _ (by kernel_rfl) (by kernel_rfl))) ?_
  · intro ds hl
    have e0 : Tryd.f6.params.toList.length = 3 := by kernel_rfl
    rw [e0] at hl
    match ds, hl with
    | [_, _, _], _ => rfl
  · intro W base args ds p hval hA hlt
    have hA : DataW.TrodAll enc Tryd.prog W 0 (fun _ => true) true Tryd.f6.params.toList args.toList ds p := hA
    have hval : ∀ (j : Nat) t v, Tryd.f6.params[j]? = some t → args[j]? = some v → Value.okWide Tryd.prog W .any base t v := hval
    rw [Tryd.params6] at hA hval
    obtain ⟨v0, vs0, d0, ds0, p0, q0, hargs, rfl, rfl, h0, r0⟩ := trodAll_cons hA
    obtain ⟨v1, vs1, d1, ds1, p1, q1, rfl, rfl, rfl, h1, r1⟩ := trodAll_cons r0
    obtain ⟨v2, vs2, d2, ds2, p2, q2, rfl, rfl, rfl, h2, r2⟩ := trodAll_cons r1
    obtain ⟨rfl, rfl, rfl⟩ := trodAll_nil r2
    obtain rfl : args = #[v0, v1, v2] := by cases args; simp_all
    obtain ⟨a0, rfl, w0⟩ := ROW.open_words UK.u8 Tryd.underlying22 Tryd.underlying5 (by kernel_rfl) (by kernel_rfl) (hval 0 22 v0 rfl rfl) h0
    obtain ⟨n1, rfl, rfl, rfl, w1⟩ := open_int Tryd.underlying26 (hval 1 26 v1 rfl rfl) h1
    obtain ⟨a1, rfl⟩ := ROW.word_of UK.u64 w1
    obtain ⟨n2, rfl, rfl, rfl, w2⟩ := open_int Tryd.underlying26 (hval 2 26 v2 rfl rfl) h2
    obtain ⟨a2, rfl⟩ := ROW.word_of UK.u64 w2
    refine ROW.of_con (args := [_, _, _]) (l_Keys (s := a0) (a := a1) (b := a2) w0) ?_
    simp

theorem over : Rows.recordKeysRow.holds Tryd.pinned (OpenSpec.ofChange Rows.recordKeysSpec) :=
  OpenClaim.holds_of_wide 6 Tryd.f6 rfl rfl rfl rfl rfl rfl rfl ⟨rfl, rfl, rfl, rfl, rfl⟩ rfl rfl rfl rfl rfl (by kernel_rfl) Tryd.func6 (by kernel_rfl)
    (of_decide_eq_true (by kernel_rfl)) (by unfold Func.isWrapper; first | (rw [if_pos (by decide +kernel)]; kernel_rfl) | (rw [if_neg (by decide +kernel)]; exact ⟨rfl, rfl⟩))
    (fun os started H enc _ => lifted os started H enc)
theorem proved : Rows.RecordKeysCardSaid :=
  Claim7.holds_tied_plain_at .later [] [.data, .pinned] true (true, "8f3433c45943626f0c0dadb02d5dd2d3bfd4eb3ef7946a4c7f7ab830b2693428") false over (fun _ h => by cases h) (by kernel_rfl) (fun _ h => by cases h) recordKeys_row_tie rfl ⟨rfl, rfl⟩ (by kernel_rfl) rfl
    (fun f fn hf hfn => by
      obtain rfl : f = 6 := Option.some.inj ((show Tryd.prog.funcNamed "relay/relaylaw12.RecordKeys" = some 6 by kernel_rfl).symm.trans hf) |>.symm
      obtain rfl : fn = Tryd.f6 := (Option.some.inj (Tryd.func6.symm.trans hfn)).symm
      exact ⟨by kernel_rfl, fun j t ht => by
        rw [Tryd.params6] at ht
        have hm : t ∈ [22, 26, 26] := by simpa using Array.mem_of_getElem? ht
        have hall : ([22, 26, 26].all fun u => !Tryd.prog.wantsStandIn u) = true := by kernel_rfl
        exact (show Tryd.prog.wantsStandIn t = false by simpa using List.all_eq_true.1 hall t hm)⟩)
    (by kernel_rfl)
#print axioms proved
end Go.Proofs.YtablmdbonibjaaaDoor.recordKeys
