/- CheckName, CheckKey, CheckRule and the reference's faults. -/
import Derived.Test.YtinjcpmpanffmaaText
namespace Go.Proofs.Ytinjcpmpanffmaa
open Go.RowKit
set_option linter.unusedVariables false

def wordF (b : ByteArray) (most : Int) : Int := if inB b.size 1 most then (if okText b then 0 else 4) else 1

theorem wordFault_any (b : ByteArray) (most : Int) (hb : b.size ≤ 2 ^ 47) (w : World) :
    Calls Try.prog 63 #[.string b, .int .i64 most] w fun e w' => e = .returned (.int .i64 (wordF b most)) ∧ w = w' := by
  unfold wordF
  have C := plainText_any b hb
  rcases two (inB b.size 1 most) with h1 | h1
  · simp only [h1, Bool.false_eq_true, if_false]
    go_enter Try.func63, Try.ntmps63
    go_wp2_with (go_at_call 65; refine (In_any _ _ _ _).mono ?_; rintro e w' ⟨rfl, rfl⟩)
    go_ret
    exact ⟨rfl, rfl⟩
  · rcases two (okText b) with h2 | h2
    all_goals
      rw [h2] at C
      simp only [h1, h2, Bool.false_eq_true, if_false, if_true]
      go_enter Try.func63, Try.ntmps63
      go_wp2_with (first | (go_at_call 65; refine (In_any _ _ _ _).mono ?_; rintro e w' ⟨rfl, rfl⟩) | (go_at_call 64; refine (C _).mono ?_; rintro e w' ⟨rfl, rfl⟩))
      go_ret
      exact ⟨rfl, rfl⟩

theorem NameFault_any (b : ByteArray) (hb : b.size ≤ 2 ^ 47) (w : World) :
    Calls Try.prog 22 #[.string b] w fun e w' => e = .returned (.int .i64 (wordF b 8)) ∧ w = w' := by
  have C := wordFault_any b 8 hb
  generalize wordF b 8 = x at *
  go_enter Try.func22, Try.ntmps22
  go_wp2_with (go_at_call 63; refine (C _).mono ?_; rintro e w' ⟨rfl, rfl⟩)
  go_ret
  exact ⟨rfl, rfl⟩

theorem KeyFault_any (b : ByteArray) (hb : b.size ≤ 2 ^ 47) (w : World) :
    Calls Try.prog 24 #[.string b] w fun e w' => e = .returned (.int .i64 (wordF b 16)) ∧ w = w' := by
  have C := wordFault_any b 16 hb
  generalize wordF b 16 = x at *
  go_enter Try.func24, Try.ntmps24
  go_wp2_with (go_at_call 63; refine (C _).mono ?_; rintro e w' ⟨rfl, rfl⟩)
  go_ret
  exact ⟨rfl, rfl⟩

theorem CheckName_any (b : ByteArray) (hb : b.size ≤ 2 ^ 47) (w : World) :
    Calls Try.prog 21 #[.string b] w fun e w' => e = .returned (.int .i64 (wordF b 8)) ∧ w = w' := by
  unfold wordF
  have C := letters_any b hb
  by_cases h0 : b.size < 1
  · have hi : inB b.size 1 8 = false := by simp [inB]; omega
    simp only [hi, Bool.false_eq_true, if_false]
    go_enter Try.func21, Try.ntmps21
    go_wp2
    go_ret
    exact ⟨rfl, rfl⟩
  by_cases h1 : 8 < b.size
  · have hi : inB b.size 1 8 = false := by simp [inB]; omega
    simp only [hi, Bool.false_eq_true, if_false]
    go_enter Try.func21, Try.ntmps21
    go_wp2
    go_ret
    exact ⟨rfl, rfl⟩
  have hi : inB b.size 1 8 = true := by simp [inB]; omega
  rcases two (okText b) with h2 | h2
  all_goals
    rw [h2] at C
    simp only [hi, h2, Bool.false_eq_true, if_false, if_true]
    go_enter Try.func21, Try.ntmps21
    go_wp2_with (go_at_call 62; refine (C _).mono ?_; rintro e w' ⟨rfl, rfl⟩)
    go_ret
    exact ⟨rfl, rfl⟩

theorem CheckKey_any (b : ByteArray) (hb : b.size ≤ 2 ^ 47) (w : World) :
    Calls Try.prog 23 #[.string b] w fun e w' => e = .returned (.int .i64 (wordF b 16)) ∧ w = w' := by
  unfold wordF
  have C := letters_any b hb
  by_cases h0 : b.size < 1
  · have hi : inB b.size 1 16 = false := by simp [inB]; omega
    simp only [hi, Bool.false_eq_true, if_false]
    go_enter Try.func23, Try.ntmps23
    go_wp2
    go_ret
    exact ⟨rfl, rfl⟩
  by_cases h1 : 16 < b.size
  · have hi : inB b.size 1 16 = false := by simp [inB]; omega
    simp only [hi, Bool.false_eq_true, if_false]
    go_enter Try.func23, Try.ntmps23
    go_wp2
    go_ret
    exact ⟨rfl, rfl⟩
  have hi : inB b.size 1 16 = true := by simp [inB]; omega
  rcases two (okText b) with h2 | h2
  all_goals
    rw [h2] at C
    simp only [hi, h2, Bool.false_eq_true, if_false, if_true]
    go_enter Try.func23, Try.ntmps23
    go_wp2_with (go_at_call 62; refine (C _).mono ?_; rintro e w' ⟨rfl, rfl⟩)
    go_ret
    exact ⟨rfl, rfl⟩

theorem lawNames_walk (b : ByteArray) (hb : b.size ≤ 2 ^ 47) (w : World) :
    Calls Try.prog 3 #[.string b] w fun e w' => e = .returned (.bool true) ∧ Grow w w' := by
  have C1 := CheckName_any b hb
  have C2 := NameFault_any b hb
  generalize wordF b 8 = x at *
  go_enter Try.func3, Try.ntmps3
  go_wp2_with (first | (go_at_call 21; refine (C1 _).mono ?_; rintro e w' ⟨rfl, rfl⟩) | (go_at_call 22; refine (C2 _).mono ?_; rintro e w' ⟨rfl, rfl⟩))
  go_ret
  exact ⟨by simp, Grow.refl _⟩

theorem lawKeys_walk (b : ByteArray) (hb : b.size ≤ 2 ^ 47) (w : World) :
    Calls Try.prog 4 #[.string b] w fun e w' => e = .returned (.bool true) ∧ Grow w w' := by
  have C1 := CheckKey_any b hb
  have C2 := KeyFault_any b hb
  generalize wordF b 16 = x at *
  go_enter Try.func4, Try.ntmps4
  go_wp2_with (first | (go_at_call 23; refine (C1 _).mono ?_; rintro e w' ⟨rfl, rfl⟩) | (go_at_call 24; refine (C2 _).mono ?_; rintro e w' ⟨rfl, rfl⟩))
  go_ret
  exact ⟨by simp, Grow.refl _⟩
end Go.Proofs.Ytinjcpmpanffmaa
