/- The law RelayRecords is true of all secrets, texts and pieces; it changes nothing. No condition. -/
import Derived.Test.YtcjfkmhijfcciaaDoorSN
import Derived.Test.YtcjfkmhijfcciaaDoorRows
import Derived.Test.YtcjfkmhijfcciaaDoorCards
import Derived.Test.YtcjfkmhijfcciaaDoorTie
import Derived.Test.YtcjfkmhijfcciaaDoorG1
namespace Go.Proofs.YtcjfkmhijfcciaaDoor.relayRecords
set_option linter.unusedSimpArgs false
set_option linter.unusedVariables false
open Go.ChangeShapes Go.WideShapes Go.ChangeAt Go.RowKit Go.SE
theorem own : ownKnob Tryd.prog.godebug = none := by kernel_rfl
theorem laid : laidOutB Tryd.prog = true := by kernel_rfl

set_option maxRecDepth 100000 in
theorem lifted (os : Os) (started : os.Started) (H : Type) (enc : TypeId × Value → H) :
    ReturnsInHanded {} Tryd.checked os 4 .any (fun w args => (Rows.relayRecordsSpec.pre enc Tryd.prog Tryd.f4 [] false w args ∧ laidMetH Tryd.prog Rows.relayRecordsRow.laid w) ∧ sizedMet enc Tryd.prog Tryd.f4 (OpenSpec.ofChange Rows.relayRecordsSpec) false w args) (Rows.relayRecordsSpec.post enc Tryd.prog Tryd.f4 false true false false) := by
  refine ROW.liftedL (C := Tryd.checked) (tb := 4) (L := Rows.relayRecordsRow.laid) os started H enc own (by kernel_rfl) Tryd.func4 laid (by kernel_rfl) rfl (by kernel_rfl) Tryd.underlying4 ?_
    (ChangeSpec.witness_shaped (enc := enc) (C := Tryd.checked) (os := os) (X := fun w _ => laidMetH Tryd.prog Rows.relayRecordsRow.laid w) false (World.laidAll Tryd.prog os Rows.relayRecordsRow.laid) #[.agg (List.replicate 32 (.int .u8 0)).toArray, .slice none 0 0, .int .i64 0] 8 (World.laidAll_os _ _ _)
      (World.shaped_of_ZipB (by kernel_rfl) (by kernel_rfl)) (by kernel_rfl) (by kernel_rfl) (by kernel_rfl)
      (by rw [MakeChecks.laidMetH_plain _ _ _ (by kernel_rfl)]; exact laidMet_laidAll _ (by kernel_rfl) (by kernel_rfl))) ?_
  · intro ds hl
    have e0 : Tryd.f4.params.toList.length = 3 := by kernel_rfl
    rw [e0] at hl
    match ds, hl with
    | [_, _, _], _ => rfl
  · intro W base args ds p hval hA hlt
    have hA : DataW.TrodAll enc Tryd.prog W 0 (fun _ => true) true Tryd.f4.params.toList args.toList ds p := hA
    have hval : ∀ (j : Nat) t v, Tryd.f4.params[j]? = some t → args[j]? = some v → Value.okWide Tryd.prog W .any base t v := hval
    rw [Tryd.params4] at hA hval
    obtain ⟨v0, vs0, d0, ds0, p0, q0, hargs, rfl, rfl, h0, r0⟩ := trodAll_cons hA
    obtain ⟨v1, vs1, d1, ds1, p1, q1, rfl, rfl, rfl, h1, r1⟩ := trodAll_cons r0
    obtain ⟨v2, vs2, d2, ds2, p2, q2, rfl, rfl, rfl, h2, r2⟩ := trodAll_cons r1
    obtain ⟨rfl, rfl, rfl⟩ := trodAll_nil r2
    obtain rfl : args = #[v0, v1, v2] := by cases args; simp_all
    obtain ⟨a0, rfl, w0⟩ := ROW.open_words UK.u8 Tryd.underlying22 Tryd.underlying5 (by kernel_rfl) (by kernel_rfl) (hval 0 22 v0 rfl rfl) h0
    obtain ⟨A1, n1, c1, b1, s1, L1, rfl, hL1, hA1, hes1, ho1, hv1⟩ := open_texts (hval 1 47 v1 rfl rfl) h1 (fun x hx => hlt x (by simp [hx]))
    obtain ⟨a2, rfl, rfl, rfl, w2⟩ := open_int Tryd.underlying3 (hval 2 3 v2 rfl rfl) h2
    refine ROW.of_con (args := [_, _, _]) (l_Recs (s := a0) (es := L1) (A := A1) (nr := n1) (c := c1) (b := b1) (q := s1) (n := a2) w0 hL1 hA1 hes1) ?_
    intro r hr; rcases List.mem_append.1 hr with hr | hr; (obtain rfl := List.mem_singleton.1 hr; exact ho1); (obtain ⟨x, hx, rfl⟩ := List.mem_map.1 hr; exact hv1 x hx)

theorem over : Rows.relayRecordsRow.holds Tryd.pinned (OpenSpec.ofChange Rows.relayRecordsSpec) :=
  OpenClaim.holds_of_wide 4 Tryd.f4 rfl rfl rfl rfl rfl rfl rfl ⟨rfl, rfl, rfl, rfl, rfl⟩ rfl rfl rfl rfl rfl (by kernel_rfl) Tryd.func4 (by kernel_rfl)
    (of_decide_eq_true (by kernel_rfl)) (by unfold Func.isWrapper; first | (rw [if_pos (by decide +kernel)]; kernel_rfl) | (rw [if_neg (by decide +kernel)]; exact ⟨rfl, rfl⟩))
    (fun os started H enc _ => lifted os started H enc)
theorem proved : Rows.RelayRecordsCardSaid :=
  Claim7.holds_tied_plain_at .later [] [.data, .pinned] true (true, "be69ebfb899747dbfd77b3e1366124287832060ac2eb7450c46c5f3cb1a927a9") false over (fun _ h => by cases h) (by kernel_rfl) (fun _ h => by cases h) relayRecords_row_tie rfl ⟨rfl, rfl⟩ (by kernel_rfl) rfl
    (fun f fn hf hfn => by
      obtain rfl : f = 4 := Option.some.inj ((show Tryd.prog.funcNamed "relay/relaytop.RelayRecords" = some 4 by kernel_rfl).symm.trans hf) |>.symm
      obtain rfl : fn = Tryd.f4 := (Option.some.inj (Tryd.func4.symm.trans hfn)).symm
      exact ⟨by kernel_rfl, fun j t ht => by
        rw [Tryd.params4] at ht
        have hm : t ∈ [22, 47, 3] := by simpa using Array.mem_of_getElem? ht
        have hall : ([22, 47, 3].all fun u => !Tryd.prog.wantsStandIn u) = true := by kernel_rfl
        exact (show Tryd.prog.wantsStandIn t = false by simpa using List.all_eq_true.1 hall t hm)⟩)
    (by kernel_rfl)
#print axioms proved
end Go.Proofs.YtcjfkmhijfcciaaDoor.relayRecords
