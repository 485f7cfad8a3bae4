/- DevAppends: the call answers as the reference does, at every argument; no condition. -/
import Derived.Test.YtelciiooegiikaaRows
import Derived.Test.YtelciiooegiikaaFacts
import Derived.Test.YtelciiooegiikaaOpen1
import Derived.Test.YtelciiooegiikaaDevFit
import Derived.Test.YtelciiooegiikaaDevAppL
namespace Go.Proofs.Ytelciiooegiikaa.lawDevAppends
open Go.ChangeShapes Go.WideShapes Go.ChangeAt Go.RowKit
set_option linter.unusedSimpArgs false
set_option linter.unusedVariables false

theorem own : ownKnob Try.prog.godebug = none := by kernel_rfl
theorem laidOut : laidOutB Try.prog = true := by kernel_rfl
theorem readable : ∀ t ∈ Try.f3.params.toList, Try.prog.readableRec t = true ∧ t < Try.prog.types.size := by
  rw [Try.params3]
  intro t ht
  simp at ht
  (try rcases ht with rfl | rfl | rfl | rfl)
  all_goals exact ⟨by kernel_rfl, of_decide_eq_true (by kernel_rfl)⟩

set_option maxRecDepth 100000 in
theorem contract (H : Type) (enc : TypeId × Value → H) (W : World) (base : Nat) (args : Array Value) (ds gs : List (DataW H)) (before : List MemPlace)
    (hW : DataW.Whole enc Try.prog Try.f3.params.toList Rows.devAppendsSpec.vars false W args.toList ds gs before)
    (hval : ∀ (j : Nat) t v, Try.f3.params[j]? = some t → args[j]? = some v → Value.okWide Try.prog W .any base t v)
    (hz : (DataW.weightsEach Try.prog (Try.f3.params.toList ++ Rows.devAppendsSpec.plain.varTypes Try.prog) (ds ++ gs)).all (· ≤ reachBytes) = true) :
    Calls Try.prog 3 args W fun e W' => ∃ v, e = .returned v ∧ Rows.devAppendsSpec.post enc Try.prog Try.f3 false true false false W args v W' := by
  have hW' := hW
  obtain ⟨p, q, hA0, hV, rfl, hfz, hnd⟩ := hW
  have hA : DataW.TrodAll enc Try.prog W 0 (fun _ => true) true Try.f3.params.toList args.toList ds p := hA0
  rw [Try.params3] at hA
  obtain ⟨v0, vs0, d0, ds0, p0, q0, hargs, rfl, rfl, h0, r0⟩ := trodAll_cons hA
  obtain ⟨v1, vs1, d1, ds1, p1, q1, rfl, rfl, rfl, h1, r1⟩ := trodAll_cons r0
  obtain ⟨v2, vs2, d2, ds2, p2, q2, rfl, rfl, rfl, h2, r2⟩ := trodAll_cons r1
  obtain ⟨v3, vs3, d3, ds3, p3, q3, rfl, rfl, rfl, h3, r3⟩ := trodAll_cons r2
  obtain ⟨rfl, rfl, rfl⟩ := trodAll_nil r3
  obtain rfl : args = #[v0, v1, v2, v3] := by cases args; simp_all
  obtain rfl := trodVars_nil rfl hV
  rw [Try.params3] at hz hval
  obtain ⟨s0, t0, e0⟩ := open_any (n := 7) (shGeo) (by kernel_rfl) (hval 0 _ _ (by simp) (by simp)) h0 (fits_arg hz (j := 0) (by simp) (by simp))
  obtain ⟨x0, w0, rfl⟩ := geo_of t0
  obtain ⟨s1, t1, e1⟩ := open_any (n := 7) (shDev) (by kernel_rfl) (hval 1 _ _ (by simp) (by simp)) h1 (fits_arg hz (j := 1) (by simp) (by simp))
  obtain ⟨x1, w1, rfl⟩ := dev_of t1
  obtain ⟨s2, t2, e2⟩ := open_any (n := 7) (.int .i64) (by kernel_rfl) (hval 2 _ _ (by simp) (by simp)) h2 (fits_arg hz (j := 2) (by simp) (by simp))
  obtain ⟨x2, w2, rfl⟩ := int_of t2
  obtain ⟨s3, t3, e3⟩ := open_any (n := 7) (shBytes) (by kernel_rfl) (hval 3 _ _ (by simp) (by simp)) h3 (fits_arg hz (j := 3) (by simp) (by simp))
  obtain ⟨x3, w3, rfl⟩ := bytes_of t3
  refine (law_calls rfl (devAppends_p x0 x1 x2 x3 (wf_fit w1)) rfl (reps_cons e0 (reps_cons e1 (reps_cons e2 (reps_cons e3 reps_nil))))).mono fun e W' ⟨he, hg⟩ => ⟨_, he, ?_⟩
  exact law_post laidOut rfl readable (by kernel_rfl) Try.underlying4 rfl hW' hg

set_option maxRecDepth 100000 in
theorem lifted (os : Os) (started : os.Started) (H : Type) (enc : TypeId × Value → H) :
    ReturnsInHanded {} Try.checked os 3 .any (Rows.devAppendsSpec.pre6 enc Try.prog Try.f3 [] false) (Rows.devAppendsSpec.post enc Try.prog Try.f3 false true false false) := by
  refine returnsInHanded_of_change_sized (C := Try.checked) own started (by kernel_rfl) Try.func3
    (ChangeSpec.witness6 (enc := enc) (C := Try.checked) false ⟨#[], #[.agg #[.int .i64 0, .int .i64 0, .int .i64 0, .int .i64 0, .int .i64 0], .agg #[.slice none 0 0, .slice none 0 0, .slice none 0 0, .int .i64 0], .int .i64 0, .slice none 0 0], []⟩ 8 (by kernel_rfl) (by kernel_rfl) (by kernel_rfl) (by kernel_rfl)) ?_
  intro W base args ds gs before hval hW _ hz _
  exact contract H enc W base args ds gs before hW hval hz

set_option maxRecDepth 100000 in
theorem named : Try.pinned.checked.prog.funcNamed Rows.devAppendsRow.func = some 3 := by kernel_rfl
set_option maxHeartbeats 4000000 in
set_option maxRecDepth 100000 in
theorem closed : joinedFacts Try.pinned.checked.prog 3 Try.f3 Rows.devAppendsSpec Rows.devAppendsRow = true := by
  unfold joinedFacts
  repeat' (with_reducible refine and_i ?_ ?_)
  all_goals (first | with_reducible exact fLaid | with_reducible exact fMaps | with_reducible exact fHeard | with_reducible exact fEnter | (rw [fLifts]; as_aux_lemma => kernel_rfl) | as_aux_lemma => kernel_rfl)
theorem instance' : Try.f3.isInstance Try.pinned.checked.prog Rows.devAppendsRow.origin Rows.devAppendsRow.targs := of_decide_eq_true (by kernel_rfl)
theorem wrapper : Try.f3.isWrapper Try.pinned.checked.prog Rows.devAppendsRow.wrapper Rows.devAppendsRow.mainSum := by
  unfold Func.isWrapper
  rw [if_neg (of_decide_eq_false (by kernel_rfl))]
  exact ⟨rfl, rfl⟩
theorem proved : Rows.DevAppendsSaid :=
  OpenClaim.holds_of_wide 3 Try.f3 rfl rfl rfl rfl rfl rfl rfl ⟨rfl, rfl, rfl, rfl, rfl⟩ rfl rfl rfl rfl rfl named Try.func3 closed instance' wrapper
    (fun os started H enc _ => lifted os started H enc)
end Go.Proofs.Ytelciiooegiikaa.lawDevAppends
