/- ring.Check and the reference's JournalFault. -/
import Derived.Test.YtmkcamfanimdoaaBox
import Derived.Test.YtmkcamfanimdoaaNew
namespace Go.Proofs.Ytmkcamfanimdoaa
open Go.RowKit
set_option linter.unusedVariables false
set_option linter.unusedSimpArgs false

structure Jrn where
  gen : Int
  epoch : Int
  area : Int
  length : Int
  start : Int
  first : Int
  place : Int
  next : Int
  used : Int

def Jrn.cells (j : Jrn) : Array Value := #[.int .i64 j.gen, .int .i64 j.epoch, .int .i64 j.area, .int .i64 j.length, .int .i64 j.start, .int .i64 j.first, .int .i64 j.place, .int .i64 j.next, .int .i64 j.used]
def Jrn.val (j : Jrn) : Value := .agg j.cells

/-- may it be? -/
def Jrn.ok (g : Geo) (j : Jrn) : Bool := inB j.gen 1 1048576 && (inB j.epoch 1 1048576 && (inB j.first 1 1048576 && (inB j.next j.first 1048576 && (inB j.area 0 1 && (inB j.length 0 (64 * g.area) && (inB j.start 0 (g.ring - 1) && (inB j.used 0 g.ring && decide (j.place = (j.start + j.used) % g.ring))))))))
def Jrn.fault (g : Geo) (j : Jrn) : Int := if g.ok then (if j.ok g then 0 else 9) else 2

theorem two (x : Bool) : x = false ∨ x = true := by cases x <;> simp

theorem In_grow (n l h : Int) (w : World) :
    Calls Try.prog 72 #[.int .i64 n, .int .i64 l, .int .i64 h] w fun e w' => e = .returned (.bool (inB n l h)) ∧ Grow w w' :=
  (In_any n l h w).mono fun e w' ⟨he, hw⟩ => ⟨he, hw ▸ Grow.refl _⟩

theorem JournalFault_ng (g : Geo) (hg0 : g.ok = false) (j : Jrn) (w : World) :
    Calls Try.prog 27 #[g.val, j.val] w fun e w' => e = .returned (.int .i64 (j.fault g)) ∧ Grow w w' := by
  have hf : g.fault = 2 := by simp [Geo.fault, hg0]
  have hjf : j.fault g = 2 := by simp [Jrn.fault, hg0]
  rw [hjf]
  have C1 := GeometryFault_any g
  rw [hf] at C1
  obtain ⟨a, b, c, d, e⟩ := g
  obtain ⟨j0, j1, j2, j3, j4, j5, j6, j7, j8⟩ := j
  unfold Jrn.val Jrn.cells Geo.val Geo.cells at *
  dsimp only at C1 ⊢
  go_enter Try.func27, Try.ntmps27
  go_wp2_with (go_at_call 25; refine (C1 _).mono ?_; rintro e w1 ⟨rfl, hg1⟩)
  go_ret
  exact ⟨rfl, hg1.from2⟩

theorem Check_ng (g : Geo) (hg0 : g.ok = false) (j : Jrn) (w : World) :
    Calls Try.prog 26 #[g.val, j.val] w fun e w' => e = .returned (.int .i64 (j.fault g)) ∧ Grow w w' := by
  have hf : g.fault = 2 := by simp [Geo.fault, hg0]
  have hjf : j.fault g = 2 := by simp [Jrn.fault, hg0]
  rw [hjf]
  have C1 := CheckGeometry_any g
  rw [hf] at C1
  obtain ⟨a, b, c, d, e⟩ := g
  obtain ⟨j0, j1, j2, j3, j4, j5, j6, j7, j8⟩ := j
  unfold Jrn.val Jrn.cells Geo.val Geo.cells at *
  dsimp only at C1 ⊢
  go_enter Try.func26, Try.ntmps26
  go_wp2_with (go_at_call 24; refine (C1 _).mono ?_; rintro e w1 ⟨rfl, hg1⟩)
  go_ret
  exact ⟨rfl, hg1.from2⟩

set_option maxHeartbeats 2000000 in
theorem JournalFault_ok (g : Geo) (hg0 : g.ok = true) (j : Jrn) (w : World) :
    Calls Try.prog 27 #[g.val, j.val] w fun e w' => e = .returned (.int .i64 (j.fault g)) ∧ Grow w w' := by
  have hf : g.fault = 0 := by simp [Geo.fault, hg0]
  have hjf : j.fault g = if j.ok g then 0 else 9 := by simp [Jrn.fault, hg0]
  have hb := ok_bounds hg0
  rw [hjf]
  have C1 := GeometryFault_any g
  rw [hf] at C1
  clear hjf hf hg0
  obtain ⟨a, b, c, d, e⟩ := g
  obtain ⟨j0, j1, j2, j3, j4, j5, j6, j7, j8⟩ := j
  simp only [Jrn.ok] at *
  obtain ⟨⟨b1, b2⟩, ⟨b3, b4⟩, _⟩ := hb
  unfold Jrn.val Jrn.cells Geo.val Geo.cells at *
  dsimp only at C1 ⊢
  rcases two (inB j0 1 1048576) with h0 | h0
  · simp only [h0, Bool.false_and, Bool.true_and, Bool.false_eq_true, if_false]
    go_enter Try.func27, Try.ntmps27
    go_wp2_with (first | (go_at_call 25; refine (C1 _).mono ?_; rintro e w1 ⟨rfl, hg1⟩; have hc1 := look_of_block hg1.box01; have hc2 := look_of_block hg1.box1) | (go_at_call 72; refine (In_any _ _ _ _).mono ?_; rintro e w' ⟨rfl, rfl⟩))
    go_ret
    exact ⟨rfl, hg1.from2⟩
  rcases two (inB j1 1 1048576) with h1 | h1
  · simp only [h0, h1, Bool.false_and, Bool.true_and, Bool.false_eq_true, if_false]
    go_enter Try.func27, Try.ntmps27
    go_wp2_with (first | (go_at_call 25; refine (C1 _).mono ?_; rintro e w1 ⟨rfl, hg1⟩; have hc1 := look_of_block hg1.box01; have hc2 := look_of_block hg1.box1) | (go_at_call 72; refine (In_any _ _ _ _).mono ?_; rintro e w' ⟨rfl, rfl⟩))
    go_ret
    exact ⟨rfl, hg1.from2⟩
  rcases two (inB j5 1 1048576) with h2 | h2
  · simp only [h0, h1, h2, Bool.false_and, Bool.true_and, Bool.false_eq_true, if_false]
    go_enter Try.func27, Try.ntmps27
    go_wp2_with (first | (go_at_call 25; refine (C1 _).mono ?_; rintro e w1 ⟨rfl, hg1⟩; have hc1 := look_of_block hg1.box01; have hc2 := look_of_block hg1.box1) | (go_at_call 72; refine (In_any _ _ _ _).mono ?_; rintro e w' ⟨rfl, rfl⟩))
    go_ret
    exact ⟨rfl, hg1.from2⟩
  rcases two (inB j7 j5 1048576) with h3 | h3
  · simp only [h0, h1, h2, h3, Bool.false_and, Bool.true_and, Bool.false_eq_true, if_false]
    go_enter Try.func27, Try.ntmps27
    go_wp2_with (first | (go_at_call 25; refine (C1 _).mono ?_; rintro e w1 ⟨rfl, hg1⟩; have hc1 := look_of_block hg1.box01; have hc2 := look_of_block hg1.box1) | (go_at_call 72; refine (In_any _ _ _ _).mono ?_; rintro e w' ⟨rfl, rfl⟩))
    go_ret
    exact ⟨rfl, hg1.from2⟩
  rcases two (inB j2 0 1) with h4 | h4
  · simp only [h0, h1, h2, h3, h4, Bool.false_and, Bool.true_and, Bool.false_eq_true, if_false]
    go_enter Try.func27, Try.ntmps27
    go_wp2_with (first | (go_at_call 25; refine (C1 _).mono ?_; rintro e w1 ⟨rfl, hg1⟩; have hc1 := look_of_block hg1.box01; have hc2 := look_of_block hg1.box1) | (go_at_call 72; refine (In_any _ _ _ _).mono ?_; rintro e w' ⟨rfl, rfl⟩))
    refine wp_region_grow_lit (by kernel_rfl) (by kernel_rfl) ?_
    repeat (go_big_quiet_step (exact Calls.grow_of (In_grow _ _ _ _)))
    refine wpQuiet_nil ?_
    rintro _ ⟨g, rfl⟩
    go_wp2
    go_ret
    exact ⟨rfl, hg1.from2.trans g.h⟩
  rcases two (inB j3 0 (64 * b)) with h5 | h5
  · simp only [h0, h1, h2, h3, h4, h5, Bool.false_and, Bool.true_and, Bool.false_eq_true, if_false]
    go_enter Try.func27, Try.ntmps27
    go_wp2_with (first | (go_at_call 25; refine (C1 _).mono ?_; rintro e w1 ⟨rfl, hg1⟩; have hc1 := look_of_block hg1.box01; have hc2 := look_of_block hg1.box1) | (go_at_call 72; refine (In_any _ _ _ _).mono ?_; rintro e w' ⟨rfl, rfl⟩))
    refine wp_region_grow_lit (by kernel_rfl) (by kernel_rfl) ?_
    repeat (go_big_quiet_step (exact Calls.grow_of (In_grow _ _ _ _)))
    refine wpQuiet_nil ?_
    rintro _ ⟨g, rfl⟩
    go_wp2
    go_ret
    exact ⟨rfl, hg1.from2.trans g.h⟩
  rcases two (inB j4 0 (a - 1)) with h6 | h6
  · simp only [h0, h1, h2, h3, h4, h5, h6, Bool.false_and, Bool.true_and, Bool.false_eq_true, if_false]
    go_enter Try.func27, Try.ntmps27
    go_wp2_with (first | (go_at_call 25; refine (C1 _).mono ?_; rintro e w1 ⟨rfl, hg1⟩; have hc1 := look_of_block hg1.box01; have hc2 := look_of_block hg1.box1) | (go_at_call 72; refine (In_any _ _ _ _).mono ?_; rintro e w' ⟨rfl, rfl⟩))
    refine wp_region_grow_lit (by kernel_rfl) (by kernel_rfl) ?_
    repeat (go_big_quiet_step (exact Calls.grow_of (In_grow _ _ _ _)))
    refine wpQuiet_nil ?_
    rintro _ ⟨g, rfl⟩
    go_wp2
    go_ret
    exact ⟨rfl, hg1.from2.trans g.h⟩
  rcases two (inB j8 0 a) with h7 | h7
  · simp only [h0, h1, h2, h3, h4, h5, h6, h7, Bool.false_and, Bool.true_and, Bool.false_eq_true, if_false]
    go_enter Try.func27, Try.ntmps27
    go_wp2_with (first | (go_at_call 25; refine (C1 _).mono ?_; rintro e w1 ⟨rfl, hg1⟩; have hc1 := look_of_block hg1.box01; have hc2 := look_of_block hg1.box1) | (go_at_call 72; refine (In_any _ _ _ _).mono ?_; rintro e w' ⟨rfl, rfl⟩))
    refine wp_region_grow_lit (by kernel_rfl) (by kernel_rfl) ?_
    repeat (go_big_quiet_step (exact Calls.grow_of (In_grow _ _ _ _)))
    refine wpQuiet_nil ?_
    rintro _ ⟨g, rfl⟩
    go_wp2
    go_ret
    exact ⟨rfl, hg1.from2.trans g.h⟩
  have r6 : 0 ≤ j4 ∧ j4 ≤ a - 1 := by simpa [inB] using h6
  have r7 : 0 ≤ j8 ∧ j8 ≤ a := by simpa [inB] using h7
  by_cases h8 : j6 = (j4 + j8) % a
  · simp only [h0, h1, h2, h3, h4, h5, h6, h7, h8, decide_true, decide_false, Bool.and_true, Bool.and_false, Bool.false_eq_true, if_false, if_true]
    go_enter Try.func27, Try.ntmps27
    go_wp2_with (first | (go_at_call 25; refine (C1 _).mono ?_; rintro e w1 ⟨rfl, hg1⟩; have hc1 := look_of_block hg1.box01; have hc2 := look_of_block hg1.box1) | (go_at_call 72; refine (In_any _ _ _ _).mono ?_; rintro e w' ⟨rfl, rfl⟩))
    refine wp_region_grow_lit (by kernel_rfl) (by kernel_rfl) ?_
    repeat (go_big_quiet_step (exact Calls.grow_of (In_grow _ _ _ _)))
    refine wpQuiet_nil ?_
    rintro _ ⟨g, rfl⟩
    go_wp2
    go_ret
    exact ⟨rfl, hg1.from2.trans g.h⟩
  · have h9 : (j6 != (j4 + j8) % a) = true := by simpa using h8
    simp only [h0, h1, h2, h3, h4, h5, h6, h7, h8, decide_true, decide_false, Bool.and_true, Bool.and_false, Bool.false_eq_true, if_false, if_true]
    go_enter Try.func27, Try.ntmps27
    go_wp2_with (first | (go_at_call 25; refine (C1 _).mono ?_; rintro e w1 ⟨rfl, hg1⟩; have hc1 := look_of_block hg1.box01; have hc2 := look_of_block hg1.box1) | (go_at_call 72; refine (In_any _ _ _ _).mono ?_; rintro e w' ⟨rfl, rfl⟩))
    refine wp_region_grow_lit (by kernel_rfl) (by kernel_rfl) ?_
    repeat (go_big_quiet_step (exact Calls.grow_of (In_grow _ _ _ _)))
    refine wpQuiet_nil ?_
    rintro _ ⟨g, rfl⟩
    go_wp2
    go_ret
    exact ⟨rfl, hg1.from2.trans g.h⟩
end Go.Proofs.Ytmkcamfanimdoaa
