/- CodeDecodes: the call answers as the reference does, at every argument, where the table of kinds stands as the program's text lays it; the card ties that to the text. -/
import Derived.Test.YtijpmidnclbhpaaDoorRows
import Derived.Test.YtijpmidnclbhpaaDoorTie
import Derived.Test.YtijpmidnclbhpaaDoorCards
import Derived.Test.YtijpmidnclbhpaaDoorFacts
import Derived.Test.YtijpmidnclbhpaaDoorKLaid
import Derived.Test.YtijpmidnclbhpaaDoorShape
import Derived.Test.YtijpmidnclbhpaaDoorKDL
import Derived.SevenTiedAt
import Derived.Stop.Joined
namespace Go.Proofs.YtijpmidnclbhpaaDoor.lawCodeDecodes
open Go.ChangeShapes Go.WideShapes Go.ChangeAt Go.RowKit
set_option linter.unusedSimpArgs false
set_option linter.unusedVariables false

theorem own : ownKnob Tryd.prog.godebug = none := by kernel_rfl
theorem laidOut : laidOutB Tryd.prog = true := by kernel_rfl
theorem readable : ∀ t ∈ Tryd.f4.params.toList, Tryd.prog.readableRec t = true ∧ t < Tryd.prog.types.size := by
  rw [Tryd.params4]
  intro t ht
  simp at ht
  (try rcases ht with rfl)
  all_goals exact ⟨by kernel_rfl, of_decide_eq_true (by kernel_rfl)⟩
theorem door_met (os : Os) (args : Array Value) : laidMetH Tryd.prog laidL ((World.doorLaid Tryd.prog 400 os).forCall (fun _ _ => 0) ⟨#[], args, []⟩).memory :=
  laidMetH_of_parts3 (fuel := 8) (laidMet_of_run' 8 (by kernel_rfl) (by kernel_rfl)) (by kernel_rfl) (by kernel_rfl)

set_option maxRecDepth 100000 in
theorem contract (H : Type) (enc : TypeId × Value → H) (W : World) (base : Nat) (args : Array Value) (ds gs : List (DataW H)) (before : List MemPlace)
    (hW : DataW.Whole enc Tryd.prog Tryd.f4.params.toList Rows.codeDecodesSpec.vars false W args.toList ds gs before)
    (hval : ∀ (j : Nat) t v, Tryd.f4.params[j]? = some t → args[j]? = some v → Value.okWide Tryd.prog W .any base t v)
    (hz : (DataW.weightsEach Tryd.prog (Tryd.f4.params.toList ++ Rows.codeDecodesSpec.plain.varTypes Tryd.prog) (ds ++ gs)).all (· ≤ reachBytes) = true) (hL : laidMetH Tryd.prog laidL W) :
    Calls Tryd.prog 4 args W fun e W' => ∃ v, e = .returned v ∧ Rows.codeDecodesSpec.post enc Tryd.prog Tryd.f4 false true false false W args v W' := by
  have hW' := hW
  obtain ⟨p, q, hA0, hV, rfl, hfz, hnd⟩ := hW
  have hA : DataW.TrodAll enc Tryd.prog W 0 (fun _ => true) true Tryd.f4.params.toList args.toList ds p := hA0
  rw [Tryd.params4] at hA
  obtain ⟨v0, vs0, d0, ds0, p0, q0, hargs, rfl, rfl, h0, r0⟩ := trodAll_cons hA
  obtain ⟨rfl, rfl, rfl⟩ := trodAll_nil r0
  obtain rfl : args = #[v0] := by cases args; simp_all
  obtain rfl := trodVars_nil rfl hV
  rw [Tryd.params4] at hz hval
  obtain ⟨s0, t0, e0⟩ := open_any (n := 7) (shBytes) (by kernel_rfl) (hval 0 _ _ (by simp) (by simp)) h0 (fits_arg hz (j := 0) (by simp) (by simp))
  obtain ⟨x0, w0, rfl⟩ := bytes_of t0
  refine (law_calls rfl (codeDecodes_p x0) rfl (reps_cons e0 reps_nil) (gl_of hL)).mono fun e W' ⟨he, hg⟩ => ⟨_, he, ?_⟩
  exact law_post laidOut rfl readable (by kernel_rfl) Tryd.underlying4 rfl hW' hg

set_option maxRecDepth 100000 in
theorem lifted (os : Os) (started : os.Started) (H : Type) (enc : TypeId × Value → H) :
    ReturnsInHanded {} Tryd.checked os 4 .any (fun w args => (Rows.codeDecodesSpec.pre enc Tryd.prog Tryd.f4 [] false w args ∧ laidMetH Tryd.prog laidL w) ∧ sizedMet enc Tryd.prog Tryd.f4 (OpenSpec.ofChange Rows.codeDecodesSpec) false w args) (Rows.codeDecodesSpec.post enc Tryd.prog Tryd.f4 false true false false) := by
  refine returnsInHanded_of_change_and (C := Tryd.checked) (X := fun w _ => laidMetH Tryd.prog laidL w) (fun _ _ _ hh h => h.of_heap hh) own started (by kernel_rfl) Tryd.func4
    (ChangeSpec.witness_shaped (enc := enc) (C := Tryd.checked) (os := os) (X := fun w _ => laidMetH Tryd.prog laidL w) false (World.doorLaid Tryd.prog 400 os) #[.slice none 0 0] 8 rfl (World.shaped_of_RefB (by kernel_rfl) (by kernel_rfl)) (by kernel_rfl) (by kernel_rfl) (by kernel_rfl) (door_met os _)) ?_
  intro W base args ds gs before hval hW _ hz hL _
  exact contract H enc W base args ds gs before hW hval hz hL

set_option maxRecDepth 100000 in
theorem named : Tryd.pinned.checked.prog.funcNamed Rows.codeDecodesRow.func = some 4 := by kernel_rfl
set_option maxHeartbeats 4000000 in
set_option maxRecDepth 100000 in
theorem closed : joinedFacts Tryd.pinned.checked.prog 4 Tryd.f4 Rows.codeDecodesSpec Rows.codeDecodesRow = true := by
  unfold joinedFacts
  repeat' (with_reducible refine and_i ?_ ?_)
  all_goals (first | with_reducible exact fLaid | with_reducible exact fMaps | with_reducible exact fHeard | with_reducible exact fEnter | (rw [fLifts]; as_aux_lemma => kernel_rfl) | as_aux_lemma => kernel_rfl)
theorem instance' : Tryd.f4.isInstance Tryd.pinned.checked.prog Rows.codeDecodesRow.origin Rows.codeDecodesRow.targs := of_decide_eq_true (by kernel_rfl)
theorem wrapper : Tryd.f4.isWrapper Tryd.pinned.checked.prog Rows.codeDecodesRow.wrapper Rows.codeDecodesRow.mainSum := by
  unfold Func.isWrapper
  rw [if_neg (of_decide_eq_false (by kernel_rfl))]
  exact ⟨rfl, rfl⟩
theorem row : Rows.CodeDecodesSaid :=
  OpenClaim.holds_of_wide 4 Tryd.f4 rfl rfl rfl rfl rfl rfl rfl ⟨rfl, rfl, rfl, rfl, rfl⟩ rfl rfl rfl rfl rfl named Tryd.func4 closed instance' wrapper
    (fun os started H enc _ => lifted os started H enc)
theorem proved : Rows.CodeDecodesCardSaid :=
  Claim7.holds_tied_plain_at .later [] [.data] true Rows.codeDecodesCard.stood.harness false row
    (fun _ h => by cases h) (by kernel_rfl) (fun _ h => by cases h) codeDecodes_row_tie rfl ⟨rfl, rfl⟩ (by kernel_rfl) rfl
    (fun f fn hf hfn => by
      obtain rfl : f = 4 := Option.some.inj (named.symm.trans hf) |>.symm
      obtain rfl : fn = Tryd.f4 := (Option.some.inj (Tryd.func4.symm.trans hfn)).symm
      exact ⟨by kernel_rfl, fun j t ht => by
        rw [Tryd.params4] at ht
        have hall : (Tryd.f4.params.toList.all fun u => !Tryd.prog.wantsStandIn u) = true := by kernel_rfl
        rw [Tryd.params4] at hall
        have hm := Array.mem_of_getElem? ht
        exact (show Tryd.prog.wantsStandIn t = false by simpa using List.all_eq_true.1 hall t (by simpa using hm))⟩)
    (by kernel_rfl)
end Go.Proofs.YtijpmidnclbhpaaDoor.lawCodeDecodes
