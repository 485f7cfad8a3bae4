import Derived.Test.YtmkcamfanimdoaaRing
namespace Go.Proofs.Ytmkcamfanimdoaa
open Go.RowKit
set_option linter.unusedVariables false
set_option linter.unusedSimpArgs false

theorem run_min4 {P : Program} {w : World} (ts : Array TypeId) (t : TypeId) (k k1 k2 k3 : IntKind) (x y z u : Int) : (Builtin.min_ ts t #[.int k x, .int k1 y, .int k2 z, .int k3 u]).run P w = .ok (.int k (min (min (min x y) z) u)) w := by
  have h : ∀ x y : Int, (if y < x then y else x) = min x y := fun x y => by split <;> omega
  simp [Builtin.min_, Builtin.min2, h]
theorem run_max4 {P : Program} {w : World} (ts : Array TypeId) (t : TypeId) (k k1 k2 k3 : IntKind) (x y z u : Int) : (Builtin.max_ ts t #[.int k x, .int k1 y, .int k2 z, .int k3 u]).run P w = .ok (.int k (max (max (max x y) z) u)) w := by
  have h : ∀ x y : Int, (if x < y then y else x) = max x y := fun x y => by split <;> omega
  simp [Builtin.max_, Builtin.max2, h]
attribute [local go_sem] run_min4 run_max4

set_option maxHeartbeats 4000000 in
theorem Check_ok (g : Geo) (hg0 : g.ok = true) (j : Jrn) (w : World) :
    Calls Try.prog 26 #[g.val, j.val] w fun e w' => e = .returned (.int .i64 (j.fault g)) ∧ Grow w w' := by
  have hf : g.fault = 0 := by simp [Geo.fault, hg0]
  have hjf : j.fault g = if j.ok g then 0 else 9 := by simp [Jrn.fault, hg0]
  have hb := ok_bounds hg0
  rw [hjf]
  have C1 := CheckGeometry_any g
  rw [hf] at C1
  clear hjf hf hg0
  obtain ⟨a, b, c, d, e⟩ := g
  obtain ⟨j0, j1, j2, j3, j4, j5, j6, j7, j8⟩ := j
  obtain ⟨⟨b1, b2⟩, ⟨b3, b4⟩, _⟩ := hb
  unfold Jrn.val Jrn.cells Geo.val Geo.cells at *
  dsimp only at C1 ⊢
  by_cases h0 : min j0 (min j1 (min j5 j7)) < 1
  · have e0 : decide (min j0 (min j1 (min j5 j7)) < 1) = true := decide_eq_true h0
    have hr : Jrn.ok ⟨a, b, c, d, e⟩ ⟨j0, j1, j2, j3, j4, j5, j6, j7, j8⟩ = false := by simp [Jrn.ok, inB]; omega
    simp only [hr, Bool.false_eq_true, if_false]
    go_enter Try.func26, Try.ntmps26
    go_wp2_with (first | (go_at_call 24; refine (C1 _).mono ?_; rintro e w1 ⟨rfl, hg1⟩; have hc1 := look_of_block hg1.box01; have hc2 := look_of_block hg1.box1))
    refine wp_region_grow_lit (by kernel_rfl) (by kernel_rfl) ?_
    dsimp only [List.append]
    repeat (go_big_quiet_step (fail))
    refine wpQuiet_nil ?_
    rintro _ ⟨g, rfl⟩
    go_wp2
    go_ret
    exact ⟨rfl, hg1.from2.trans g.h⟩
  have e0 : decide (min j0 (min j1 (min j5 j7)) < 1) = false := decide_eq_false h0
  by_cases h1 : 1048576 < max j0 (max j1 (max j5 j7))
  · have e1 : decide (1048576 < max j0 (max j1 (max j5 j7))) = true := decide_eq_true h1
    have hr : Jrn.ok ⟨a, b, c, d, e⟩ ⟨j0, j1, j2, j3, j4, j5, j6, j7, j8⟩ = false := by simp [Jrn.ok, inB]; omega
    simp only [hr, Bool.false_eq_true, if_false]
    go_enter Try.func26, Try.ntmps26
    go_wp2_with (first | (go_at_call 24; refine (C1 _).mono ?_; rintro e w1 ⟨rfl, hg1⟩; have hc1 := look_of_block hg1.box01; have hc2 := look_of_block hg1.box1))
    refine wp_region_grow_lit (by kernel_rfl) (by kernel_rfl) ?_
    dsimp only [List.append]
    repeat (go_big_quiet_step (fail))
    refine wpQuiet_nil ?_
    rintro _ ⟨g, rfl⟩
    go_wp2
    go_ret
    exact ⟨rfl, hg1.from2.trans g.h⟩
  have e1 : decide (1048576 < max j0 (max j1 (max j5 j7))) = false := decide_eq_false h1
  by_cases h2 : j7 < j5
  · have e2 : decide (j7 < j5) = true := decide_eq_true h2
    have hr : Jrn.ok ⟨a, b, c, d, e⟩ ⟨j0, j1, j2, j3, j4, j5, j6, j7, j8⟩ = false := by simp [Jrn.ok, inB]; omega
    simp only [hr, Bool.false_eq_true, if_false]
    go_enter Try.func26, Try.ntmps26
    go_wp2_with (first | (go_at_call 24; refine (C1 _).mono ?_; rintro e w1 ⟨rfl, hg1⟩; have hc1 := look_of_block hg1.box01; have hc2 := look_of_block hg1.box1))
    refine wp_region_grow_lit (by kernel_rfl) (by kernel_rfl) ?_
    dsimp only [List.append]
    repeat (go_big_quiet_step (fail))
    refine wpQuiet_nil ?_
    rintro _ ⟨g, rfl⟩
    go_wp2
    go_ret
    exact ⟨rfl, hg1.from2.trans g.h⟩
  have e2 : decide (j7 < j5) = false := decide_eq_false h2
  by_cases h3 : j2 < 0
  · have e3 : decide (j2 < 0) = true := decide_eq_true h3
    have hr : Jrn.ok ⟨a, b, c, d, e⟩ ⟨j0, j1, j2, j3, j4, j5, j6, j7, j8⟩ = false := by simp [Jrn.ok, inB]; omega
    simp only [hr, Bool.false_eq_true, if_false]
    go_enter Try.func26, Try.ntmps26
    go_wp2_with (first | (go_at_call 24; refine (C1 _).mono ?_; rintro e w1 ⟨rfl, hg1⟩; have hc1 := look_of_block hg1.box01; have hc2 := look_of_block hg1.box1))
    refine wp_region_grow_lit (by kernel_rfl) (by kernel_rfl) ?_
    dsimp only [List.append]
    repeat (go_big_quiet_step (fail))
    refine wpQuiet_nil ?_
    rintro _ ⟨g, rfl⟩
    go_wp2
    go_ret
    exact ⟨rfl, hg1.from2.trans g.h⟩
  have e3 : decide (j2 < 0) = false := decide_eq_false h3
  by_cases h4 : 1 < j2
  · have e4 : decide (1 < j2) = true := decide_eq_true h4
    have hr : Jrn.ok ⟨a, b, c, d, e⟩ ⟨j0, j1, j2, j3, j4, j5, j6, j7, j8⟩ = false := by simp [Jrn.ok, inB]; omega
    simp only [hr, Bool.false_eq_true, if_false]
    go_enter Try.func26, Try.ntmps26
    go_wp2_with (first | (go_at_call 24; refine (C1 _).mono ?_; rintro e w1 ⟨rfl, hg1⟩; have hc1 := look_of_block hg1.box01; have hc2 := look_of_block hg1.box1))
    refine wp_region_grow_lit (by kernel_rfl) (by kernel_rfl) ?_
    dsimp only [List.append]
    repeat (go_big_quiet_step (fail))
    refine wpQuiet_nil ?_
    rintro _ ⟨g, rfl⟩
    go_wp2
    go_ret
    exact ⟨rfl, hg1.from2.trans g.h⟩
  have e4 : decide (1 < j2) = false := decide_eq_false h4
  by_cases h5 : j3 < 0
  · have e5 : decide (j3 < 0) = true := decide_eq_true h5
    have hr : Jrn.ok ⟨a, b, c, d, e⟩ ⟨j0, j1, j2, j3, j4, j5, j6, j7, j8⟩ = false := by simp [Jrn.ok, inB]; omega
    simp only [hr, Bool.false_eq_true, if_false]
    go_enter Try.func26, Try.ntmps26
    go_wp2_with (first | (go_at_call 24; refine (C1 _).mono ?_; rintro e w1 ⟨rfl, hg1⟩; have hc1 := look_of_block hg1.box01; have hc2 := look_of_block hg1.box1))
    refine wp_region_grow_lit (by kernel_rfl) (by kernel_rfl) ?_
    dsimp only [List.append]
    repeat (go_big_quiet_step (fail))
    refine wpQuiet_nil ?_
    rintro _ ⟨g, rfl⟩
    go_wp2
    go_ret
    exact ⟨rfl, hg1.from2.trans g.h⟩
  have e5 : decide (j3 < 0) = false := decide_eq_false h5
  by_cases h6 : b * 64 < j3
  · have e6 : decide (b * 64 < j3) = true := decide_eq_true h6
    have hr : Jrn.ok ⟨a, b, c, d, e⟩ ⟨j0, j1, j2, j3, j4, j5, j6, j7, j8⟩ = false := by simp [Jrn.ok, inB]; omega
    simp only [hr, Bool.false_eq_true, if_false]
    go_enter Try.func26, Try.ntmps26
    go_wp2_with (first | (go_at_call 24; refine (C1 _).mono ?_; rintro e w1 ⟨rfl, hg1⟩; have hc1 := look_of_block hg1.box01; have hc2 := look_of_block hg1.box1))
    refine wp_region_grow_lit (by kernel_rfl) (by kernel_rfl) ?_
    dsimp only [List.append]
    repeat (go_big_quiet_step (fail))
    refine wpQuiet_nil ?_
    rintro _ ⟨g, rfl⟩
    go_wp2
    go_ret
    exact ⟨rfl, hg1.from2.trans g.h⟩
  have e6 : decide (b * 64 < j3) = false := decide_eq_false h6
  by_cases h7 : j4 < 0
  · have e7 : decide (j4 < 0) = true := decide_eq_true h7
    have hr : Jrn.ok ⟨a, b, c, d, e⟩ ⟨j0, j1, j2, j3, j4, j5, j6, j7, j8⟩ = false := by simp [Jrn.ok, inB]; omega
    simp only [hr, Bool.false_eq_true, if_false]
    go_enter Try.func26, Try.ntmps26
    go_wp2_with (first | (go_at_call 24; refine (C1 _).mono ?_; rintro e w1 ⟨rfl, hg1⟩; have hc1 := look_of_block hg1.box01; have hc2 := look_of_block hg1.box1))
    refine wp_region_grow_lit (by kernel_rfl) (by kernel_rfl) ?_
    dsimp only [List.append]
    repeat (go_big_quiet_step (fail))
    refine wpQuiet_nil ?_
    rintro _ ⟨g, rfl⟩
    go_wp2
    go_ret
    exact ⟨rfl, hg1.from2.trans g.h⟩
  have e7 : decide (j4 < 0) = false := decide_eq_false h7
  by_cases h8 : a ≤ j4
  · have e8 : decide (a ≤ j4) = true := decide_eq_true h8
    have hr : Jrn.ok ⟨a, b, c, d, e⟩ ⟨j0, j1, j2, j3, j4, j5, j6, j7, j8⟩ = false := by simp [Jrn.ok, inB]; omega
    simp only [hr, Bool.false_eq_true, if_false]
    go_enter Try.func26, Try.ntmps26
    go_wp2_with (first | (go_at_call 24; refine (C1 _).mono ?_; rintro e w1 ⟨rfl, hg1⟩; have hc1 := look_of_block hg1.box01; have hc2 := look_of_block hg1.box1))
    refine wp_region_grow_lit (by kernel_rfl) (by kernel_rfl) ?_
    dsimp only [List.append]
    repeat (go_big_quiet_step (fail))
    refine wpQuiet_nil ?_
    rintro _ ⟨g, rfl⟩
    go_wp2
    go_ret
    exact ⟨rfl, hg1.from2.trans g.h⟩
  have e8 : decide (a ≤ j4) = false := decide_eq_false h8
  by_cases h9 : j8 < 0
  · have e9 : decide (j8 < 0) = true := decide_eq_true h9
    have hr : Jrn.ok ⟨a, b, c, d, e⟩ ⟨j0, j1, j2, j3, j4, j5, j6, j7, j8⟩ = false := by simp [Jrn.ok, inB]; omega
    simp only [hr, Bool.false_eq_true, if_false]
    go_enter Try.func26, Try.ntmps26
    go_wp2_with (first | (go_at_call 24; refine (C1 _).mono ?_; rintro e w1 ⟨rfl, hg1⟩; have hc1 := look_of_block hg1.box01; have hc2 := look_of_block hg1.box1))
    refine wp_region_grow_lit (by kernel_rfl) (by kernel_rfl) ?_
    dsimp only [List.append]
    repeat (go_big_quiet_step (fail))
    refine wpQuiet_nil ?_
    rintro _ ⟨g, rfl⟩
    go_wp2
    go_ret
    exact ⟨rfl, hg1.from2.trans g.h⟩
  have e9 : decide (j8 < 0) = false := decide_eq_false h9
  by_cases h10 : a < j8
  · have e10 : decide (a < j8) = true := decide_eq_true h10
    have hr : Jrn.ok ⟨a, b, c, d, e⟩ ⟨j0, j1, j2, j3, j4, j5, j6, j7, j8⟩ = false := by simp [Jrn.ok, inB]; omega
    simp only [hr, Bool.false_eq_true, if_false]
    go_enter Try.func26, Try.ntmps26
    go_wp2_with (first | (go_at_call 24; refine (C1 _).mono ?_; rintro e w1 ⟨rfl, hg1⟩; have hc1 := look_of_block hg1.box01; have hc2 := look_of_block hg1.box1))
    refine wp_region_grow_lit (by kernel_rfl) (by kernel_rfl) ?_
    dsimp only [List.append]
    repeat (go_big_quiet_step (fail))
    refine wpQuiet_nil ?_
    rintro _ ⟨g, rfl⟩
    go_wp2
    go_ret
    exact ⟨rfl, hg1.from2.trans g.h⟩
  have e10 : decide (a < j8) = false := decide_eq_false h10
  by_cases h11 : j6 = (j4 + j8) % a
  · have hr : Jrn.ok ⟨a, b, c, d, e⟩ ⟨j0, j1, j2, j3, j4, j5, j6, j7, j8⟩ = true := by simp [Jrn.ok, inB, h11]; omega
    simp only [hr, if_true]
    go_enter Try.func26, Try.ntmps26
    go_wp2_with (first | (go_at_call 24; refine (C1 _).mono ?_; rintro e w1 ⟨rfl, hg1⟩; have hc1 := look_of_block hg1.box01; have hc2 := look_of_block hg1.box1))
    refine wp_region_grow_lit (by kernel_rfl) (by kernel_rfl) ?_
    dsimp only [List.append]
    repeat (go_big_quiet_step (fail))
    refine wpQuiet_nil ?_
    rintro _ ⟨g, rfl⟩
    go_wp2
    go_ret
    exact ⟨rfl, hg1.from2.trans g.h⟩
  · have h12 : (j6 != (j4 + j8) % a) = true := by simpa using h11
    have hr : Jrn.ok ⟨a, b, c, d, e⟩ ⟨j0, j1, j2, j3, j4, j5, j6, j7, j8⟩ = false := by simp [Jrn.ok, inB, h11]
    simp only [hr, Bool.false_eq_true, if_false]
    go_enter Try.func26, Try.ntmps26
    go_wp2_with (first | (go_at_call 24; refine (C1 _).mono ?_; rintro e w1 ⟨rfl, hg1⟩; have hc1 := look_of_block hg1.box01; have hc2 := look_of_block hg1.box1))
    refine wp_region_grow_lit (by kernel_rfl) (by kernel_rfl) ?_
    dsimp only [List.append]
    repeat (go_big_quiet_step (fail))
    refine wpQuiet_nil ?_
    rintro _ ⟨g, rfl⟩
    go_wp2
    go_ret
    exact ⟨rfl, hg1.from2.trans g.h⟩
end Go.Proofs.Ytmkcamfanimdoaa
