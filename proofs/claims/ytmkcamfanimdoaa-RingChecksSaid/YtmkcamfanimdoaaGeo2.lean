/- dev.CheckGeometry. -/
import Derived.Test.YtmkcamfanimdoaaGeo
namespace Go.Proofs.Ytmkcamfanimdoaa
open Go.RowKit
set_option linter.unusedVariables false

set_option maxHeartbeats 1600000 in
theorem CheckGeometry_any (g : Geo) (w : World) :
    Calls Try.prog 24 #[g.val] w fun e w' => e = .returned (.int .i64 g.fault) ∧ Grow w w' := by
  obtain ⟨a, b, c, d, e⟩ := g
  unfold Geo.val Geo.cells
  go_enter Try.func24, Try.ntmps24
  go_wp2
  go_loopw [22] (fun i wr => ∃ k : Nat, k ≤ 5 ∧ i = .int .i64 k ∧ Grow w wr ∧ w.heap.size + 1 < wr.heap.size ∧ (1 ≤ k → inB a 4 60 = true) ∧ (2 ≤ k → inB b 2 80 = true) ∧ (3 ≤ k → inB c 2 200 = true) ∧ (4 ≤ k → inB d 100 4000 = true) ∧ (5 ≤ k → inB e 1 8 = true) ∧
     wr.heap[w.heap.size + 1]? = some (.cells #[.int .i64 a, .int .i64 4, .int .i64 60, .int .i64 b, .int .i64 2, .int .i64 80, .int .i64 c, .int .i64 2, .int .i64 200, .int .i64 d, .int .i64 100, .int .i64 4000, .int .i64 e, .int .i64 1, .int .i64 8] 78 (0, 0))) (fun i _ => 5 - (intOf i).toNat)
  case atStart => exact ⟨0, by omega, rfl, by simp [go_sem], by simp, by omega, by omega, by omega, by omega, by omega, hp_new (by simp)⟩
  case round =>
    obtain ⟨k, hk, rfl, hg, hsz, t1, t2, t3, t4, t5, hb⟩ := hrel
    have hc := cell_of_block hb
    have HB := Lib.hid hb
    clear hb
    have hk6 : k = 0 ∨ k = 1 ∨ k = 2 ∨ k = 3 ∨ k = 4 ∨ k = 5 := by omega
    rcases hk6 with rfl | rfl | rfl | rfl | rfl | rfl
    · by_cases h1 : 4 ≤ a
      · by_cases h2 : a ≤ 60
        · go_wp2
          refine ⟨⟨1, by omega, rfl, hg.alloc _, by simp; omega, ?_, ?_, ?_, ?_, ?_, (hp_old (by omega)).trans HB.out⟩, by simp [intOf]⟩
          all_goals (intro h; first | (exfalso; omega) | (simp [inB, h1, h2]; done) | (apply_assumption; omega))
        · go_wp2
          go_ret
          exact ⟨ret_int (by have hb : inB a 4 60 = false := by simp [inB]; omega
                             simp [Geo.fault, Geo.ok, hb]), hg.alloc _⟩
      · go_wp2
        go_ret
        exact ⟨ret_int (by have hb : inB a 4 60 = false := by simp [inB]; omega
                           simp [Geo.fault, Geo.ok, hb]), hg.alloc _⟩
    · by_cases h1 : 2 ≤ b
      · by_cases h2 : b ≤ 80
        · go_wp2
          refine ⟨⟨2, by omega, rfl, hg.alloc _, by simp; omega, ?_, ?_, ?_, ?_, ?_, (hp_old (by omega)).trans HB.out⟩, by simp [intOf]⟩
          all_goals (intro h; first | (exfalso; omega) | (simp [inB, h1, h2]; done) | (apply_assumption; omega))
        · go_wp2
          go_ret
          exact ⟨ret_int (by have hb : inB b 2 80 = false := by simp [inB]; omega
                             simp [Geo.fault, Geo.ok, hb]), hg.alloc _⟩
      · go_wp2
        go_ret
        exact ⟨ret_int (by have hb : inB b 2 80 = false := by simp [inB]; omega
                           simp [Geo.fault, Geo.ok, hb]), hg.alloc _⟩
    · by_cases h1 : 2 ≤ c
      · by_cases h2 : c ≤ 200
        · go_wp2
          refine ⟨⟨3, by omega, rfl, hg.alloc _, by simp; omega, ?_, ?_, ?_, ?_, ?_, (hp_old (by omega)).trans HB.out⟩, by simp [intOf]⟩
          all_goals (intro h; first | (exfalso; omega) | (simp [inB, h1, h2]; done) | (apply_assumption; omega))
        · go_wp2
          go_ret
          exact ⟨ret_int (by have hb : inB c 2 200 = false := by simp [inB]; omega
                             simp [Geo.fault, Geo.ok, hb]), hg.alloc _⟩
      · go_wp2
        go_ret
        exact ⟨ret_int (by have hb : inB c 2 200 = false := by simp [inB]; omega
                           simp [Geo.fault, Geo.ok, hb]), hg.alloc _⟩
    · by_cases h1 : 100 ≤ d
      · by_cases h2 : d ≤ 4000
        · go_wp2
          refine ⟨⟨4, by omega, rfl, hg.alloc _, by simp; omega, ?_, ?_, ?_, ?_, ?_, (hp_old (by omega)).trans HB.out⟩, by simp [intOf]⟩
          all_goals (intro h; first | (exfalso; omega) | (simp [inB, h1, h2]; done) | (apply_assumption; omega))
        · go_wp2
          go_ret
          exact ⟨ret_int (by have hb : inB d 100 4000 = false := by simp [inB]; omega
                             simp [Geo.fault, Geo.ok, hb]), hg.alloc _⟩
      · go_wp2
        go_ret
        exact ⟨ret_int (by have hb : inB d 100 4000 = false := by simp [inB]; omega
                           simp [Geo.fault, Geo.ok, hb]), hg.alloc _⟩
    · by_cases h1 : 1 ≤ e
      · by_cases h2 : e ≤ 8
        · go_wp2
          refine ⟨⟨5, by omega, rfl, hg.alloc _, by simp; omega, ?_, ?_, ?_, ?_, ?_, (hp_old (by omega)).trans HB.out⟩, by simp [intOf]⟩
          all_goals (intro h; first | (exfalso; omega) | (simp [inB, h1, h2]; done) | (apply_assumption; omega))
        · go_wp2
          go_ret
          exact ⟨ret_int (by have hb : inB e 1 8 = false := by simp [inB]; omega
                             simp [Geo.fault, Geo.ok, hb]), hg.alloc _⟩
      · go_wp2
        go_ret
        exact ⟨ret_int (by have hb : inB e 1 8 = false := by simp [inB]; omega
                           simp [Geo.fault, Geo.ok, hb]), hg.alloc _⟩
    · go_wp2
      go_ret
      exact ⟨ret_int (by simp [Geo.fault, Geo.ok, t1 (by omega), t2 (by omega), t3 (by omega), t4 (by omega), t5 (by omega)]), hg⟩
end Go.Proofs.Ytmkcamfanimdoaa
