import Derived.Test.YtmkcamfanimdoaaRing2
namespace Go.Proofs.Ytmkcamfanimdoaa
open Go.RowKit
set_option linter.unusedVariables false

theorem JournalFault_any (g : Geo) (j : Jrn) (w : World) :
    Calls Try.prog 27 #[g.val, j.val] w fun e w' => e = .returned (.int .i64 (j.fault g)) ∧ Grow w w' := by
  cases h : g.ok
  · exact JournalFault_ng g h j w
  · exact JournalFault_ok g h j w
theorem Check_any (g : Geo) (j : Jrn) (w : World) :
    Calls Try.prog 26 #[g.val, j.val] w fun e w' => e = .returned (.int .i64 (j.fault g)) ∧ Grow w w' := by
  cases h : g.ok
  · exact Check_ng g h j w
  · exact Check_ok g h j w

theorem lawRing_walk (g : Geo) (j : Jrn) (w : World) :
    Calls Try.prog 4 #[g.val, j.val] w fun e w' => e = .returned (.bool true) ∧ Grow w w' := by
  have C1 := Check_any g j
  have C2 := JournalFault_any g j
  generalize j.fault g = f at *
  obtain ⟨a, b, c, d, e⟩ := g
  obtain ⟨j0, j1, j2, j3, j4, j5, j6, j7, j8⟩ := j
  unfold Jrn.val Jrn.cells Geo.val Geo.cells at *
  dsimp only at C1 C2 ⊢
  go_enter Try.func4, Try.ntmps4
  go_wp2_with (first | (go_at_call 26; refine (C1 _).mono ?_; rintro e w1 ⟨rfl, hg1⟩; have hc1 := cell_of_block hg1.box01; have hc2 := cell_of_block hg1.box1) | (go_at_call 27; refine (C2 _).mono ?_; rintro e w2 ⟨rfl, hg2⟩))
  go_ret
  exact ⟨by simp, hg1.from2.trans hg2⟩
end Go.Proofs.Ytmkcamfanimdoaa
