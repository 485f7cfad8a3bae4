import Derived.Test.YtmkcamfanimdoaaNew
namespace Go.Proofs.Ytmkcamfanimdoaa
open Go.RowKit
set_option linter.unusedVariables false

/-- a sector of zeros -/
def zeros : List UInt8 := List.replicate 64 0

theorem bytesV_zeros : bytesV zeros = List.replicate 64 (.int .u8 0) := by simp [bytesV, zeros]

set_option maxRecDepth 100000 in
set_option maxHeartbeats 1000000 in
theorem New_ok (g : Geo) (hok : g.ok = true) (w : World) :
    Calls Try.prog 28 #[g.val] w fun e w' => (∃ v, e = .returned (.tuple #[.agg #[v, .slice none 0 0, .slice none 0 0, .int .i64 (-1)], .int .i64 0]) ∧ RowsF w.heap.size w' v (List.replicate g.sectors zeros)) ∧ Grow w w' := by
  have hb := ok_bounds hok
  have hf : g.fault = 0 := by simp [Geo.fault, hok]
  obtain ⟨a, b, c, d, e⟩ := g
  have C1 := CheckGeometry_any ⟨a, b, c, d, e⟩
  have C2 := sectors_any ⟨a, b, c, d, e⟩ hok
  rw [hf] at C1
  have hn : (Geo.sectors ⟨a, b, c, d, e⟩ : Nat) ≤ 500 := by simp only [Geo.sectors] at hb ⊢; omega
  generalize Geo.sectors ⟨a, b, c, d, e⟩ = n at *
  unfold Geo.val Geo.cells at *
  have D1 := Lib.hid C1
  have D2 := Lib.hid C2
  clear C1 C2 hf
  go_enter Try.func28, Try.ntmps28
  go_wp2_with (first | (go_at_call 24; refine (D1.out _).mono ?_; rintro e w1 ⟨rfl, hg1⟩; obtain ⟨hc1, hf1⟩ := hg1.cells; obtain ⟨z0, z1⟩ : w.heap.size < w1.heap.size ∧ w.heap.size + 1 < w1.heap.size := by have := hg1.size; simp at this; omega) | (go_at_call 73; refine (D2.out _).mono ?_; rintro e w2 ⟨rfl, hg2⟩; obtain ⟨hc2, hf2⟩ := hg2.cells; obtain ⟨y0, y1, y2⟩ : w.heap.size < w2.heap.size ∧ w.heap.size + 1 < w2.heap.size ∧ w1.heap.size < w2.heap.size := by have := hg2.size; simp at this; omega))
  have hgw : Grow w w2 := ((((Grow.refl w).alloc _).alloc _).trans hg1).trans (((Grow.refl w1).alloc _).trans hg2)
  have e1 : w2.heap[w1.heap.size]? = some (.cells #[.slice none 0 0, .slice none 0 0, .slice none 0 0, .int .i64 (-1)] 35 (0, 0)) := by
    rw [hg2.heap (by simp)]; exact hp_new rfl
  have e2 : w2.heap[w.heap.size + 1]? = some (.cells #[.slice none 0 0, .slice none 0 0, .slice none 0 0, .int .i64 0] 35 (0, 0)) := by
    rw [hg2.heap (by simp; omega), hp_old (by omega), hg1.heap (by simp)]; exact hp_new (by simp)
  have E1 := Lib.hid e1
  have E2 := Lib.hid e2
  clear e1 e2 hc1 hf1 hc2 hf2 hg1 hg2
  go_loopw [15] (fun i wr => ∃ (k : Nat) (v : Value), k ≤ n ∧ i = .int .i64 k ∧ Grow w wr ∧ w1.heap.size < wr.heap.size ∧
     Hid (wr.heap[w1.heap.size]? = some (.cells #[v, .slice none 0 0, .slice none 0 0, .int .i64 (-1)] 35 (0, 0))) ∧
     Hid (wr.heap[w.heap.size + 1]? = some (.cells #[.slice none 0 0, .slice none 0 0, .slice none 0 0, .int .i64 0] 35 (0, 0))) ∧
     RowsF (w1.heap.size + 1) wr v (List.replicate k zeros)) (fun i _ => n - (intOf i).toNat)
  case atStart => exact ⟨0, _, by omega, rfl, hgw, y2, E1, E2, OwnR.nil⟩
  case round =>
    obtain ⟨k, v, hk, rfl, hg, hz, F1, F2, how⟩ := hrel
    by_cases hlt : k < n
    · have hc := cell_of_block F1.out
      obtain ⟨es, how, hes, hsz, hrow⟩ := how
      rw [List.length_replicate] at how hes
      go_wp2
      refine lex_enter [0, 1, 2, 3, 4, 5, 6] (fun i => decide (4 ≤ i)) (fun _ _ _ => False) (by kernel_rfl) rfl ?_
      iterate 2 (refine lex_q rfl (by kernel_rfl) rfl rfl (fun _ => trivial) ?_; go_big_quiet_op)
      obtain ⟨i5, hi5, hz5, hs5, hb5⟩ := info_parts info_u8
      obtain ⟨i6, hi6, hz6, hs6, hb6⟩ := info_parts info_bytes
      refine lex_g (fun x u => u.ownsRow wr.heap.size 5 1 x 64 (List.replicate 64 (.int .u8 0))) (fun x u u' h hg => owns_grow h hg) rfl (by kernel_rfl) (fun u hu ht => ?_) (fun x D hD hx => ?_)
      · exact valG_make _ 64 1 rfl rfl Try.underlying42 hi5 hz5 hs5 hb5 rfl rfl rfl (by omega) (by unfold maxLen; omega) hu.size
      simp only [Act.put, List.setIfInBounds_toArray, List.set_cons_succ, List.set_cons_zero]
      refine lex_g (fun y u => u.ownsRow wr.heap.size 42 1 y 1 [x]) (fun x u u' h hg => owns_grow h hg) rfl (by kernel_rfl) (fun u hu ht => ?_) (fun y D' hD' hy => ?_)
      · obtain ⟨xa, xc, rfl⟩ := owns_slice (hx u (ht 2 (by kernel_rfl)))
        refine valG_want rfl ?_
        go_simp
        exact owns_new (n := 1) (k := 1) u hu.size (by unfold maxLen; omega) rfl
      simp only [Act.put, List.setIfInBounds_toArray, List.set_cons_succ, List.set_cons_zero]
      refine lex_tail (.more rfl (.more rfl (.more rfl .nil))) (by kernel_rfl) rfl (fun u hu ht => ?_)
      have hx1 := hx u (ht 2)
      have hy1 := hy u (ht 3)
      have how1 := owns_grow how hu
      refine wpl_append rfl rfl Try.underlying31 hi6 hz6 hs6 hb6 rfl (by omega) rfl rfl how1 hy1 (by omega) (fun c hc => by simp at hc; subst hc; exact owns_one hx1) (by omega) (by omega) (by have := hu.size; omega) (fun v' w' how' hgb => ?_)
      have hob := owns_block how1
      have hot := owns_type how1
      have F3 := hp_grown hgb (hu.hp F1.out) (fun e => by have := (hob _ e).1; omega)
      have F4 := hp_grown hgb (hu.hp F2.out) (fun e => by have := (hob _ e).1; omega)
      have hcw := cell_of_block F3
      have hfw := frozen_of_block F3
      have G3 := Lib.hid F3
      have G4 := Lib.hid F4
      clear F3 F4
      obtain ⟨va, vc, rfl⟩ := owns_slice how'
      simp only [Act.put, List.setIfInBounds_toArray, List.set_cons_succ, List.set_cons_zero]
      go_wp2
      refine ⟨⟨k + 1, _, by omega, by go_num, ((hg.trans hu).grown hgb (fun b hb => by have := (hob _ hb).1; omega)).setCell (by simp; omega) _, by have := hp_lt G3.out; simpa using this, hp_set G3.out, ?_, ?_⟩, by simp [intOf]; omega⟩
      · exact (hp_set_ne (by simp; omega)).trans G4.out
      · rw [List.replicate_succ']
        have keep : ∀ z bs, BytesF (w1.heap.size + 1) u z bs → BytesF (w1.heap.size + 1) (w'.setCell ⟨w1.heap.size, 0, none⟩ (.slice va (k + 1) vc)) z bs := fun z bs hz' => ownsRow_setCell_below (owns_beside hz' hgb (fun g cs t fr hr hh => by rw [hot g cs t fr hr hh]; decide)) (by simp) _
        refine OwnR.snoc (u := u) (v := v) (T := 42) (R := RowE (w1.heap.size + 1) u) (e := #[x]) ⟨es, ?_, by simp [hes], hsz, fun i e y he hy => ?_⟩ rfl (fun e y ⟨z, he, hz'⟩ => ⟨z, he, keep z y hz'⟩) ⟨x, rfl, keep x zeros ?_⟩
        · rw [List.length_replicate]; exact ownsRow_setCell_below how' (by simp) _
        · obtain ⟨z, hz1, hz2⟩ := hrow i e y he hy
          exact ⟨z, hz1, owns_grow hz2 hu⟩
        · unfold BytesF; rw [bytesV_zeros]; exact owns_mono hx1 (by omega)
    · have hkn : k = n := by omega
      subst hkn
      have hc := cell_of_block F1.out
      have hc2 := cell_of_block F2.out
      have hf2 := frozen_of_block F2.out
      have how' := how
      obtain ⟨es, how2, _⟩ := how'
      obtain ⟨va, vc, rfl⟩ := owns_slice how2
      go_wp2
      refine bodyPost_ret (v := .tuple #[.agg #[.slice va (List.replicate k zeros).length vc, .slice none 0 0, .slice none 0 0, .int .i64 (-1)], .int .i64 0]) (by simp [results, Try.results28, go_sem, hc2]) rfl ⟨⟨_, rfl, ?_⟩, ?_⟩
      · exact how.move ((((Keeps.set (by simp; omega)).trans (Keeps.set (by simp; omega))).trans (Keeps.set (by simp; omega))).trans ((Keeps.set (by simp; omega)).trans (Keeps.mono (by omega))))
      · exact (((hg.setCell (by simp) _).setCell (by simp) _).setCell (by simp) _).setCell (by simp) _
end Go.Proofs.Ytmkcamfanimdoaa
