/- CheckRule and the reference's RuleFault. -/
import Derived.Test.YtinjcpmpanffmaaName
namespace Go.Proofs.Ytinjcpmpanffmaa
open Go.RowKit
set_option linter.unusedVariables false

theorem In_grow (n l h : Int) (w : World) :
    Calls Try.prog 65 #[.int .i64 n, .int .i64 l, .int .i64 h] w fun e w' => e = .returned (.bool (inB n l h)) ∧ Grow w w' :=
  (In_any n l h w).mono fun e w' ⟨he, hw⟩ => ⟨he, hw ▸ Grow.refl _⟩

structure Rul where
  prefix_ : ByteArray
  freeze : Int
  drop : Int

def Rul.val (r : Rul) : Value := .agg #[.string r.prefix_, .int .i64 r.freeze, .int .i64 r.drop]
def Rul.fault (r : Rul) : Int := if 16 < r.prefix_.size then 1 else if okText r.prefix_ then (if inB r.freeze (-1) 1073741824 && inB r.drop (-1) 1073741824 then 0 else 2) else 4

theorem RuleFault_any (r : Rul) (hb : r.prefix_.size ≤ 2 ^ 47) (w : World) :
    Calls Try.prog 26 #[r.val] w fun e w' => e = .returned (.int .i64 r.fault) ∧ Grow w w' := by
  obtain ⟨b, x, y⟩ := r
  unfold Rul.val Rul.fault
  dsimp only at hb ⊢
  have C := plainText_any b hb
  by_cases h0 : 16 < b.size
  · simp only [h0, if_true]
    go_enter Try.func26, Try.ntmps26
    go_wp2
    go_ret
    exact ⟨rfl, (Grow.refl _).alloc _⟩
  · rcases two (okText b) with h1 | h1
    · rw [h1] at C
      simp only [h0, h1, Bool.false_eq_true, if_false]
      go_enter Try.func26, Try.ntmps26
      go_wp2_with (go_at_call 64; refine (C _).mono ?_; rintro e w' ⟨rfl, rfl⟩)
      go_ret
      exact ⟨rfl, (Grow.refl _).alloc _⟩
    · rw [h1] at C
      rcases two (inB x (-1) 1073741824) with h2 | h2
      · simp only [h0, h1, h2, Bool.false_and, Bool.false_eq_true, if_false, if_true]
        go_enter Try.func26, Try.ntmps26
        go_wp2_with (first | (go_at_call 64; refine (C _).mono ?_; rintro e w' ⟨rfl, rfl⟩) | (go_at_call 65; refine (In_any _ _ _ _).mono ?_; rintro e w' ⟨rfl, rfl⟩))
        go_ret
        exact ⟨rfl, (Grow.refl _).alloc _⟩
      · rcases two (inB y (-1) 1073741824) with h3 | h3
        all_goals
          simp only [h0, h1, h2, h3, Bool.true_and, Bool.false_eq_true, if_false, if_true]
          go_enter Try.func26, Try.ntmps26
          go_wp2_with (first | (go_at_call 64; refine (C _).mono ?_; rintro e w' ⟨rfl, rfl⟩) | (go_at_call 65; refine (In_any _ _ _ _).mono ?_; rintro e w' ⟨rfl, rfl⟩))
          go_ret
          exact ⟨rfl, (Grow.refl _).alloc _⟩

theorem CheckRule_any (r : Rul) (hb : r.prefix_.size ≤ 2 ^ 47) (w : World) :
    Calls Try.prog 25 #[r.val] w fun e w' => e = .returned (.int .i64 r.fault) ∧ Grow w w' := by
  obtain ⟨b, x, y⟩ := r
  unfold Rul.val Rul.fault
  dsimp only at hb ⊢
  have C := letters_any b hb
  by_cases h0 : 16 < b.size
  · simp only [h0, if_true]
    go_enter Try.func25, Try.ntmps25
    go_wp2
    go_ret
    exact ⟨rfl, (Grow.refl _).alloc _⟩
  rcases two (okText b) with h1 | h1
  · rw [h1] at C
    simp only [h0, h1, Bool.false_eq_true, if_false]
    go_enter Try.func25, Try.ntmps25
    go_wp2_with (go_at_call 62; refine (C _).mono ?_; rintro e w' ⟨rfl, rfl⟩)
    go_ret
    exact ⟨rfl, (Grow.refl _).alloc _⟩
  rw [h1] at C
  by_cases k1 : x < -1
  · have hf : (inB x (-1) 1073741824 && inB y (-1) 1073741824) = false := by simp [inB]; omega
    simp only [h0, h1, hf, Bool.false_eq_true, if_false, if_true]
    go_enter Try.func25, Try.ntmps25
    go_wp2_with (go_at_call 62; refine (C _).mono ?_; rintro e w' ⟨rfl, rfl⟩)
    go_ret
    exact ⟨rfl, (Grow.refl _).alloc _⟩
  by_cases k2 : 1073741824 < x
  · have hf : (inB x (-1) 1073741824 && inB y (-1) 1073741824) = false := by simp [inB]; omega
    simp only [h0, h1, hf, Bool.false_eq_true, if_false, if_true]
    go_enter Try.func25, Try.ntmps25
    go_wp2_with (go_at_call 62; refine (C _).mono ?_; rintro e w' ⟨rfl, rfl⟩)
    go_ret
    exact ⟨rfl, (Grow.refl _).alloc _⟩
  by_cases k3 : y < -1
  · have hf : (inB x (-1) 1073741824 && inB y (-1) 1073741824) = false := by simp [inB]; omega
    simp only [h0, h1, hf, Bool.false_eq_true, if_false, if_true]
    go_enter Try.func25, Try.ntmps25
    go_wp2_with (go_at_call 62; refine (C _).mono ?_; rintro e w' ⟨rfl, rfl⟩)
    go_ret
    exact ⟨rfl, (Grow.refl _).alloc _⟩
  by_cases k4 : 1073741824 < y
  · have hf : (inB x (-1) 1073741824 && inB y (-1) 1073741824) = false := by simp [inB]; omega
    simp only [h0, h1, hf, Bool.false_eq_true, if_false, if_true]
    go_enter Try.func25, Try.ntmps25
    go_wp2_with (go_at_call 62; refine (C _).mono ?_; rintro e w' ⟨rfl, rfl⟩)
    go_ret
    exact ⟨rfl, (Grow.refl _).alloc _⟩
  have hf : (inB x (-1) 1073741824 && inB y (-1) 1073741824) = true := by simp [inB]; omega
  simp only [h0, h1, hf, if_false, if_true]
  go_enter Try.func25, Try.ntmps25
  go_wp2_with (go_at_call 62; refine (C _).mono ?_; rintro e w' ⟨rfl, rfl⟩)
  go_ret
  exact ⟨rfl, (Grow.refl _).alloc _⟩

theorem lawRules_walk (r : Rul) (hb : r.prefix_.size ≤ 2 ^ 47) (w : World) :
    Calls Try.prog 5 #[r.val] w fun e w' => e = .returned (.bool true) ∧ Grow w w' := by
  have C1 := CheckRule_any r hb
  have C2 := RuleFault_any r hb
  generalize r.fault = f at *
  obtain ⟨b, x, y⟩ := r
  unfold Rul.val at *
  dsimp only at C1 C2 ⊢
  go_enter Try.func5, Try.ntmps5
  go_wp2_with (first | (go_at_call 25; refine (C1 _).mono ?_; rintro e w1 ⟨rfl, hg1⟩; have hc1 := hg1.cells) | (go_at_call 26; refine (C2 _).mono ?_; rintro e w2 ⟨rfl, hg2⟩))
  go_ret
  exact ⟨by simp, ((Grow.refl _).alloc _).trans (hg1.trans hg2)⟩
end Go.Proofs.Ytinjcpmpanffmaa
