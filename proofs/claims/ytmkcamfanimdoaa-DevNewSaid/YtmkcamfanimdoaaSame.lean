/- The laws' own comparisons, where both sides stand for the same: they answer true. -/
import Derived.Test.YtmkcamfanimdoaaData
import Derived.Test.YtmkcamfanimdoaaProg
namespace Go.Proofs.Ytmkcamfanimdoaa
open Go.RowKit
set_option linter.unusedVariables false

set_option maxHeartbeats 400000 in
theorem sameLists_true (L1 L2 : Nat → Prop) (va vb : Value) (l : List (List UInt8)) (w : World) (ha : Rows2 L1 w va l) (hb : Rows2 L2 w vb l) :
    Calls Try.prog 71 #[va, vb] w fun e w' => e = .returned (.bool true) ∧ Grow w w' := by
  have h1 := @SLR.run_len _ Try.prog _ _ _ _ _ _ ha
  have h2 := @SLR.run_len _ Try.prog _ _ _ _ _ _ hb
  have h3 := @SLR.run_index _ Try.prog _ _ _ _ _ _ ha
  have h4 := @SLR.run_index _ Try.prog _ _ _ _ _ _ hb
  have b1 := SLR.bound ha
  go_enter Try.func71, Try.ntmps71
  go_wp2
  go_loopw [5] (fun i wr => ∃ k : Nat, k ≤ l.length ∧ i = .int .i64 k ∧ Grow w wr) (fun i _ => l.length - (intOf i).toNat)
  case atStart => exact ⟨0, by omega, rfl, Grow.refl _⟩
  case round =>
    obtain ⟨k, hk, rfl, hg⟩ := hrel
    by_cases hlt : k < l.length
    · obtain ⟨v1, r1, c1⟩ := Rows2.get ha k hlt
      obtain ⟨v2, r2, c2⟩ := Rows2.get hb k hlt
      have t1 := @Bytes.run_string Try.prog _ _ _ _ r1
      have t2 := @Bytes.run_string Try.prog _ _ _ _ r2
      go_wp2
      refine wp_region_grow_lit (by kernel_rfl) (by kernel_rfl) ?_
      repeat (go_big_quiet_step (fail))
      refine wpQuiet_nil ?_
      rintro _ ⟨g, rfl⟩
      go_wp2
      exact ⟨⟨k + 1, by omega, by go_num, hg.trans g.h⟩, by simp [intOf]; omega⟩
    · go_wp2
      go_ret
      exact ⟨rfl, hg⟩

set_option maxHeartbeats 1000000 in
theorem sameDevices_true (L1 L2 : Nat → Prop) (va vb : Value) (d : Dev) (w : World) (ha : DevR L1 w va d) (hb : DevR L2 w vb d) :
    Calls Try.prog 30 #[va, vb] w fun e w' => e = .returned (.bool true) ∧ Grow w w' := by
  obtain ⟨s1, k1, v1, rfl, ha⟩ := ha
  obtain ⟨s2, k2, v2, rfl, hb⟩ := hb
  have h1 := @SLR.run_len _ Try.prog _ _ _ _ _ _ ha.cache
  have h2 := @SLR.run_len _ Try.prog _ _ _ _ _ _ hb.cache
  have h3 := @SLR.run_len _ Try.prog _ _ _ _ _ _ ha.vols
  have h4 := @SLR.run_len _ Try.prog _ _ _ _ _ _ hb.vols
  have h5 := @SLR.run_index _ Try.prog _ _ _ _ _ _ ha.cache
  have h6 := @SLR.run_index _ Try.prog _ _ _ _ _ _ hb.cache
  have h7 := @SLR.run_index _ Try.prog _ _ _ _ _ _ ha.vols
  have h8 := @SLR.run_index _ Try.prog _ _ _ _ _ _ hb.vols
  have b1 := SLR.bound ha.cache
  have b2 := SLR.bound ha.vols
  go_enter Try.func30, Try.ntmps30
  go_wp2_with (go_at_call 71; refine (sameLists_true L1 L2 _ _ d.safe _ (ha.safe.grow (by simp [go_sem])) (hb.safe.grow (by simp [go_sem]))).mono ?_; rintro e w1 ⟨rfl, hg1⟩; obtain ⟨hc1, hf1⟩ := hg1.cells)
  obtain ⟨z1, z2⟩ : w.heap.size < w1.heap.size ∧ w.heap.size + 1 < w1.heap.size := by have := hg1.size; simp at this; omega
  have hgw : Grow w w1 := (((Grow.refl w).alloc _).alloc _).trans hg1
  clear hg1
  go_loopw [5] (fun i wr => ∃ k : Nat, k ≤ d.cache.length ∧ i = .int .i64 k ∧ Grow w1 wr) (fun i _ => d.cache.length - (intOf i).toNat)
  case atStart => exact ⟨0, by omega, rfl, Grow.refl _⟩
  case round =>
    obtain ⟨k, hk, rfl, hg⟩ := hrel
    obtain ⟨hc2, hf2⟩ := hg.cells
    obtain ⟨y1, y2⟩ : w.heap.size < wr.heap.size ∧ w.heap.size + 1 < wr.heap.size := by have := hg.size; omega
    have hgr := hgw.trans hg
    by_cases hlt : k < d.cache.length
    · obtain ⟨c1, r1, d1, e1⟩ := wr_get ha.cache k hlt
      obtain ⟨c2, r2, d2, e2⟩ := wr_get hb.cache k hlt
      have t1 := @Bytes.run_string Try.prog _ _ _ _ r1
      have t2 := @Bytes.run_string Try.prog _ _ _ _ r2
      go_wp2
      refine wp_region_grow_lit (by kernel_rfl) (by kernel_rfl) ?_
      repeat (go_big_quiet_step (fail))
      refine wpQuiet_nil ?_
      rintro _ ⟨g, rfl⟩
      go_wp2
      exact ⟨⟨k + 1, by omega, by go_num, hg.trans g.h⟩, by simp [intOf]; omega⟩
    · obtain ⟨wo, rfl⟩ : ∃ wo : World, wo = wr := ⟨_, rfl⟩
      go_wp2
      go_loopw [6] (fun i wq => ∃ k : Nat, k ≤ d.vols.length ∧ i = .int .i64 k ∧ Grow wo wq) (fun i _ => d.vols.length - (intOf i).toNat)
      case atStart => exact ⟨0, by omega, rfl, Grow.refl _⟩
      case round =>
        obtain ⟨m, hm, rfl, hq⟩ := hrel
        obtain ⟨hc3, hf3⟩ := hq.cells
        obtain ⟨x1, x2⟩ : w.heap.size < wr.heap.size ∧ w.heap.size + 1 < wr.heap.size := by have := hq.size; omega
        have hgq := hgr.trans hq
        by_cases hmt : m < d.vols.length
        · obtain ⟨c1, r1, d1, e1, f1⟩ := vol_get ha.vols m hmt
          obtain ⟨c2, r2, d2, e2, f2⟩ := vol_get hb.vols m hmt
          have t1 := @Bytes.run_string Try.prog _ _ _ _ r1
          have t2 := @Bytes.run_string Try.prog _ _ _ _ r2
          go_wp2
          refine wp_region_grow_lit (by kernel_rfl) (by kernel_rfl) ?_
          repeat (go_big_quiet_step (fail))
          refine wpQuiet_nil ?_
          rintro _ ⟨g, rfl⟩
          go_wp2
          exact ⟨⟨m + 1, by omega, by go_num, hq.trans g.h⟩, by simp [intOf]; omega⟩
        · go_wp2
          go_ret
          exact ⟨rfl, hgq⟩
end Go.Proofs.Ytmkcamfanimdoaa
