/- state.Latest, walked. -/
import Derived.Test.YtobbkfldjemgkaaRgL
namespace Go.Proofs.Ytobbkfldjemgkaa
open Go.RowKit Go.Shelf
set_option linter.unusedSimpArgs false
set_option linter.unusedVariables false
attribute [local go_sem] Oper.semAt_some
set_option maxRecDepth 100000 in
set_option maxHeartbeats 4000000 in
theorem latest_g (s : SttD) (hw : s.wf) (hsec : ∀ k : Nat, (s.vers[k]!).secs.length * 8 ≤ 2 ^ 47) (name key : ByteArray) : PureG Try.prog 8 [s.av, .d (.v (.string name)), .d (.v (.string key))] (lat2 s name key) := fun xs w ⟨I0, h0⟩ => by
  obtain ⟨hI0, hl, hr⟩ := id h0
  match xs, hl with
  | [vs, vn, vk], _ =>
    obtain ⟨x2, x3, x4, x5, x6, e0, r0⟩ := rep_st (hr 0 _ _ rfl rfl)
    have e1 := rep_str (hr 1 _ _ rfl rfl)
    have e2 := rep_str (hr 2 _ _ rfl rfl)
    subst e0 e1 e2
    obtain ⟨a1, cap1, c1, rfl, hl1, hc1⟩ := rows_ver r0
    have hck : PureG Try.prog 11 [s.av] (I (bif mayF s then 0 else 9)) := (check9_p s hw).g rfl (by intro c hc; simp at hc; rw [hc]; rfl)
    unfold lat2
    generalize mayF s = mf at hck ⊢
    have hcases : ∃ er : Int, PureG Try.prog 11 [s.av] (I er) ∧ ((er = 0 ∧ mf = true) ∨ (er = 9 ∧ mf = false)) := by
      cases mf
      · exact ⟨9, hck, .inr ⟨rfl, rfl⟩⟩
      · exact ⟨0, hck, .inl ⟨rfl, rfl⟩⟩
    clear hck
    obtain ⟨er, hck, her⟩ := hcases
    obtain ⟨av, hav⟩ : ∃ av : AV, av = (bif mf then optV (lastV s.vers name key s.vers.length) else .tup [.agg (verZ.row.map .d), Bo false, AV.d (.v (.int .i64 9))]) := ⟨_, rfl⟩
    rw [show (bif mf then optV (lastV s.vers name key s.vers.length) else AV.tup [.agg (verZ.row.map .d), Bo false, AV.d (.v (.int .i64 9))]) = av from hav.symm]
    have hargs : RepsI I0 w [s.av] [.agg #[.int .i64 s.next, .int .i64 s.clock, x2, .slice a1 s.vers.length cap1, x4, x5, x6]] := ⟨hI0, rfl, fun i c x hc hx => by
      match i, hc, hx with
      | 0, hc, hx => exact hr 0 c x hc hx⟩
    refine (callsIn_wide (n := 6)).1 ?_
    refine callsIn_of_wp_marks Try.func8 rfl trivial ?_ rfl
    simp only [Try.ntmps8, List.size_toArray, List.length_cons, List.length_nil, Nat.reduceAdd, Nat.reduceSub, Array.replicate_succ, Array.replicate_zero, List.push_toArray, List.append_toArray, List.nil_append, List.cons_append]
    gi_wp2
    obtain ⟨W1, hW1⟩ : ∃ W1, ((((((w.alloc (Obj.cells #[Value.int IntKind.i64 s.next, Value.int IntKind.i64 s.clock, x2, Value.slice a1 s.vers.length cap1, x4, x5, x6] 30)).alloc (Obj.cells #[Value.string name] 9)).alloc (Obj.cells #[Value.string key] 9)).alloc (Obj.cells #[Value.int IntKind.i64 0, Value.string { data := #[] }, Value.string { data := #[] }, Value.bool false, Value.bool false, Value.int IntKind.i64 0, Value.int IntKind.i64 0, Value.int IntKind.i64 0, Value.slice none 0 0, Value.int IntKind.i64 0, Value.int IntKind.i64 0, Value.int IntKind.i64 0] 37)).alloc (Obj.cells #[Value.bool false] 4)).alloc (Obj.cells #[Value.int IntKind.i64 0] 31)) = W1 := ⟨_, rfl⟩
    rw [hW1]
    have hg1 : Grow w W1 := by rw [← hW1]; exact ((((((Grow.refl w).alloc _).alloc _).alloc _).alloc _).alloc _).alloc _
    have hs1 : W1.heap.size = w.heap.size + 6 := by rw [← hW1]; simp [World.size_alloc]
    have b0 : W1.heap[w.heap.size]? = some (.cells #[Value.int IntKind.i64 s.next, Value.int IntKind.i64 s.clock, x2, Value.slice a1 s.vers.length cap1, x4, x5, x6] 30 (0, 0)) := by rw [← hW1]; exact old_blk (old_blk (old_blk (old_blk (old_blk (new_blk _ _ (by simp only [World.size_alloc])) _) _) _) _) _
    have b1 : W1.heap[w.heap.size + 1]? = some (.cells #[Value.string name] 9 (0, 0)) := by rw [← hW1]; exact old_blk (old_blk (old_blk (old_blk (new_blk _ _ (by simp only [World.size_alloc])) _) _) _) _
    have b2 : W1.heap[w.heap.size + 1 + 1]? = some (.cells #[Value.string key] 9 (0, 0)) := by rw [← hW1]; exact old_blk (old_blk (old_blk (new_blk _ _ (by simp only [World.size_alloc])) _) _) _
    have b3 : W1.heap[w.heap.size + 1 + 1 + 1]? = some (.cells #[Value.int IntKind.i64 0, Value.string { data := #[] }, Value.string { data := #[] }, Value.bool false, Value.bool false, Value.int IntKind.i64 0, Value.int IntKind.i64 0, Value.int IntKind.i64 0, Value.slice none 0 0, Value.int IntKind.i64 0, Value.int IntKind.i64 0, Value.int IntKind.i64 0] 37 (0, 0)) := by rw [← hW1]; exact old_blk (old_blk (new_blk _ _ (by simp only [World.size_alloc])) _) _
    have b4 : W1.heap[w.heap.size + 1 + 1 + 1 + 1]? = some (.cells #[Value.bool false] 4 (0, 0)) := by rw [← hW1]; exact old_blk (new_blk _ _ (by simp only [World.size_alloc])) _
    have b5 : W1.heap[w.heap.size + 1 + 1 + 1 + 1 + 1]? = some (.cells #[Value.int IntKind.i64 0] 31 (0, 0)) := by rw [← hW1]; exact new_blk _ _ (by simp only [World.size_alloc])
    clear hW1
    refine ⟨trivial, (callsIn_wide.2 (hck [_] _ ⟨I0, hargs.grow hg1⟩)).mono ?_⟩
    rintro e W2 ⟨v, rfl, hg2, hI2⟩
    obtain ⟨I2, _, hv⟩ := hI2 I0 (hargs.grow hg1)
    have hv := rep_int hv
    subst hv
    have hgw : Grow w W2 := hg1.trans hg2
    rw [← hg2.heap (by omega)] at b0 b1 b2 b3 b4 b5
    have hs2 := hg2.size
    clear hg1 hg2 hI2
    have q0 : W2.cell? ⟨w.heap.size, 3, none⟩ = some (.slice a1 s.vers.length cap1) := by simp [World.cell?, b0]
    have q4 : W2.cell? ⟨w.heap.size + 1 + 1 + 1 + 1, 0, none⟩ = some (.bool false) := by simp [World.cell?, b4]
    have q5 : W2.cell? ⟨w.heap.size + 1 + 1 + 1 + 1 + 1, 0, none⟩ = some (.int .i64 0) := by simp [World.cell?, b5]
    have q3_0 : W2.cell? ⟨w.heap.size + 1 + 1 + 1, 0, none⟩ = some (Value.int IntKind.i64 0) := by simp [World.cell?, b3]
    have q3_1 : W2.cell? ⟨w.heap.size + 1 + 1 + 1, 1, none⟩ = some (Value.string { data := #[] }) := by simp [World.cell?, b3]
    have q3_2 : W2.cell? ⟨w.heap.size + 1 + 1 + 1, 2, none⟩ = some (Value.string { data := #[] }) := by simp [World.cell?, b3]
    have q3_3 : W2.cell? ⟨w.heap.size + 1 + 1 + 1, 3, none⟩ = some (Value.bool false) := by simp [World.cell?, b3]
    have q3_4 : W2.cell? ⟨w.heap.size + 1 + 1 + 1, 4, none⟩ = some (Value.bool false) := by simp [World.cell?, b3]
    have q3_5 : W2.cell? ⟨w.heap.size + 1 + 1 + 1, 5, none⟩ = some (Value.int IntKind.i64 0) := by simp [World.cell?, b3]
    have q3_6 : W2.cell? ⟨w.heap.size + 1 + 1 + 1, 6, none⟩ = some (Value.int IntKind.i64 0) := by simp [World.cell?, b3]
    have q3_7 : W2.cell? ⟨w.heap.size + 1 + 1 + 1, 7, none⟩ = some (Value.int IntKind.i64 0) := by simp [World.cell?, b3]
    have q3_8 : W2.cell? ⟨w.heap.size + 1 + 1 + 1, 8, none⟩ = some (Value.slice none 0 0) := by simp [World.cell?, b3]
    have q3_9 : W2.cell? ⟨w.heap.size + 1 + 1 + 1, 9, none⟩ = some (Value.int IntKind.i64 0) := by simp [World.cell?, b3]
    have q3_10 : W2.cell? ⟨w.heap.size + 1 + 1 + 1, 10, none⟩ = some (Value.int IntKind.i64 0) := by simp [World.cell?, b3]
    have q3_11 : W2.cell? ⟨w.heap.size + 1 + 1 + 1, 11, none⟩ = some (Value.int IntKind.i64 0) := by simp [World.cell?, b3]
    have f3_0 : W2.frozen? ⟨w.heap.size + 1 + 1 + 1, 0, none⟩ = false := by simp [World.frozen?, b3]
    have f3_1 : W2.frozen? ⟨w.heap.size + 1 + 1 + 1, 1, none⟩ = false := by simp [World.frozen?, b3]
    have f3_2 : W2.frozen? ⟨w.heap.size + 1 + 1 + 1, 2, none⟩ = false := by simp [World.frozen?, b3]
    have f3_3 : W2.frozen? ⟨w.heap.size + 1 + 1 + 1, 3, none⟩ = false := by simp [World.frozen?, b3]
    have f3_4 : W2.frozen? ⟨w.heap.size + 1 + 1 + 1, 4, none⟩ = false := by simp [World.frozen?, b3]
    have f3_5 : W2.frozen? ⟨w.heap.size + 1 + 1 + 1, 5, none⟩ = false := by simp [World.frozen?, b3]
    have f3_6 : W2.frozen? ⟨w.heap.size + 1 + 1 + 1, 6, none⟩ = false := by simp [World.frozen?, b3]
    have f3_7 : W2.frozen? ⟨w.heap.size + 1 + 1 + 1, 7, none⟩ = false := by simp [World.frozen?, b3]
    have f3_8 : W2.frozen? ⟨w.heap.size + 1 + 1 + 1, 8, none⟩ = false := by simp [World.frozen?, b3]
    have f3_9 : W2.frozen? ⟨w.heap.size + 1 + 1 + 1, 9, none⟩ = false := by simp [World.frozen?, b3]
    have f3_10 : W2.frozen? ⟨w.heap.size + 1 + 1 + 1, 10, none⟩ = false := by simp [World.frozen?, b3]
    have f3_11 : W2.frozen? ⟨w.heap.size + 1 + 1 + 1, 11, none⟩ = false := by simp [World.frozen?, b3]
    have f4 : W2.frozen? ⟨w.heap.size + 1 + 1 + 1 + 1, 0, none⟩ = false := by simp [World.frozen?, b4]
    have f5 : W2.frozen? ⟨w.heap.size + 1 + 1 + 1 + 1 + 1, 0, none⟩ = false := by simp [World.frozen?, b5]
    have bad : ∀ (W : World) (er : Int), Grow w W → W.heap[w.heap.size + 1 + 1 + 1]? = some (.cells #[Value.int IntKind.i64 0, Value.string ⟨#[]⟩, Value.string ⟨#[]⟩, Value.bool false, Value.bool false, Value.int IntKind.i64 0, Value.int IntKind.i64 0, Value.int IntKind.i64 0, Value.slice none 0 0, Value.int IntKind.i64 0, Value.int IntKind.i64 0, Value.int IntKind.i64 0] 37 (0, 0)) → W.heap[w.heap.size + 1 + 1 + 1 + 1]? = some (.cells #[Value.bool false] 4 (0, 0)) → W.heap[w.heap.size + 1 + 1 + 1 + 1 + 1]? = some (.cells #[.int .i64 0] 31 (0, 0)) → ∀ tmps : Array Value, tmps.getD 6 undef = .pointer (some ⟨w.heap.size + 1 + 1 + 1, 0, none⟩) → tmps.getD 7 undef = .pointer (some ⟨w.heap.size + 1 + 1 + 1 + 1, 0, none⟩) → tmps.getD 8 undef = .pointer (some ⟨w.heap.size + 1 + 1 + 1 + 1 + 1, 0, none⟩) →
        ∃ v, (results Try.f8 tmps).run Try.prog (((set12 W (w.heap.size + 1 + 1 + 1) (Value.int IntKind.i64 0) (Value.string ⟨#[]⟩) (Value.string ⟨#[]⟩) (Value.bool false) (Value.bool false) (Value.int IntKind.i64 0) (Value.int IntKind.i64 0) (Value.int IntKind.i64 0) (Value.slice none 0 0) (Value.int IntKind.i64 0) (Value.int IntKind.i64 0) (Value.int IntKind.i64 0)).setCell ⟨w.heap.size + 1 + 1 + 1 + 1, 0, none⟩ (Value.bool false)).setCell ⟨w.heap.size + 1 + 1 + 1 + 1 + 1, 0, none⟩ (.int .i64 er)) = .ok v (((set12 W (w.heap.size + 1 + 1 + 1) (Value.int IntKind.i64 0) (Value.string ⟨#[]⟩) (Value.string ⟨#[]⟩) (Value.bool false) (Value.bool false) (Value.int IntKind.i64 0) (Value.int IntKind.i64 0) (Value.int IntKind.i64 0) (Value.slice none 0 0) (Value.int IntKind.i64 0) (Value.int IntKind.i64 0) (Value.int IntKind.i64 0)).setCell ⟨w.heap.size + 1 + 1 + 1 + 1, 0, none⟩ (Value.bool false)).setCell ⟨w.heap.size + 1 + 1 + 1 + 1 + 1, 0, none⟩ (.int .i64 er)) ∧ ∃ x, Ending.returned v = .returned x ∧ Grow w (((set12 W (w.heap.size + 1 + 1 + 1) (Value.int IntKind.i64 0) (Value.string ⟨#[]⟩) (Value.string ⟨#[]⟩) (Value.bool false) (Value.bool false) (Value.int IntKind.i64 0) (Value.int IntKind.i64 0) (Value.int IntKind.i64 0) (Value.slice none 0 0) (Value.int IntKind.i64 0) (Value.int IntKind.i64 0) (Value.int IntKind.i64 0)).setCell ⟨w.heap.size + 1 + 1 + 1 + 1, 0, none⟩ (Value.bool false)).setCell ⟨w.heap.size + 1 + 1 + 1 + 1 + 1, 0, none⟩ (.int .i64 er)) ∧ ∀ I, RepsI I w [s.av, .d (.v (.string name)), .d (.v (.string key))] [.agg #[.int .i64 s.next, .int .i64 s.clock, x2, .slice a1 s.vers.length cap1, x4, x5, x6], .string name, .string key] → ∃ I', UpI I I' w (((set12 W (w.heap.size + 1 + 1 + 1) (Value.int IntKind.i64 0) (Value.string ⟨#[]⟩) (Value.string ⟨#[]⟩) (Value.bool false) (Value.bool false) (Value.int IntKind.i64 0) (Value.int IntKind.i64 0) (Value.int IntKind.i64 0) (Value.slice none 0 0) (Value.int IntKind.i64 0) (Value.int IntKind.i64 0) (Value.int IntKind.i64 0)).setCell ⟨w.heap.size + 1 + 1 + 1 + 1, 0, none⟩ (Value.bool false)).setCell ⟨w.heap.size + 1 + 1 + 1 + 1 + 1, 0, none⟩ (.int .i64 er)) ∧ Rep (KI I') (((set12 W (w.heap.size + 1 + 1 + 1) (Value.int IntKind.i64 0) (Value.string ⟨#[]⟩) (Value.string ⟨#[]⟩) (Value.bool false) (Value.bool false) (Value.int IntKind.i64 0) (Value.int IntKind.i64 0) (Value.int IntKind.i64 0) (Value.slice none 0 0) (Value.int IntKind.i64 0) (Value.int IntKind.i64 0) (Value.int IntKind.i64 0)).setCell ⟨w.heap.size + 1 + 1 + 1 + 1, 0, none⟩ (Value.bool false)).setCell ⟨w.heap.size + 1 + 1 + 1 + 1 + 1, 0, none⟩ (.int .i64 er)) (.tup [.agg (verZ.row.map .d), AV.d (.v (.bool false)), AV.d (.v (.int .i64 er))]) x := fun W er hg d3 d4 d5 tmps t6 t7 t8 => by
      have l3 := (Array.getElem?_eq_some_iff.1 d3).1
      have g3 : Grow w (((set12 W (w.heap.size + 1 + 1 + 1) (Value.int IntKind.i64 0) (Value.string ⟨#[]⟩) (Value.string ⟨#[]⟩) (Value.bool false) (Value.bool false) (Value.int IntKind.i64 0) (Value.int IntKind.i64 0) (Value.int IntKind.i64 0) (Value.slice none 0 0) (Value.int IntKind.i64 0) (Value.int IntKind.i64 0) (Value.int IntKind.i64 0)).setCell ⟨w.heap.size + 1 + 1 + 1 + 1, 0, none⟩ (Value.bool false)).setCell ⟨w.heap.size + 1 + 1 + 1 + 1 + 1, 0, none⟩ (.int .i64 er)) := ((set12_grow hg (by omega) (Value.int IntKind.i64 0) (Value.string ⟨#[]⟩) (Value.string ⟨#[]⟩) (Value.bool false) (Value.bool false) (Value.int IntKind.i64 0) (Value.int IntKind.i64 0) (Value.int IntKind.i64 0) (Value.slice none 0 0) (Value.int IntKind.i64 0) (Value.int IntKind.i64 0) (Value.int IntKind.i64 0)).setCell (by simp; omega) _).setCell (by simp; omega) _
      have c3 : (((set12 W (w.heap.size + 1 + 1 + 1) (Value.int IntKind.i64 0) (Value.string ⟨#[]⟩) (Value.string ⟨#[]⟩) (Value.bool false) (Value.bool false) (Value.int IntKind.i64 0) (Value.int IntKind.i64 0) (Value.int IntKind.i64 0) (Value.slice none 0 0) (Value.int IntKind.i64 0) (Value.int IntKind.i64 0) (Value.int IntKind.i64 0)).setCell ⟨w.heap.size + 1 + 1 + 1 + 1, 0, none⟩ (Value.bool false)).setCell ⟨w.heap.size + 1 + 1 + 1 + 1 + 1, 0, none⟩ (.int .i64 er)).heap[w.heap.size + 1 + 1 + 1]? = some (.cells #[Value.int IntKind.i64 0, Value.string ⟨#[]⟩, Value.string ⟨#[]⟩, Value.bool false, Value.bool false, Value.int IntKind.i64 0, Value.int IntKind.i64 0, Value.int IntKind.i64 0, Value.slice none 0 0, Value.int IntKind.i64 0, Value.int IntKind.i64 0, Value.int IntKind.i64 0] 37 (0, 0)) := (Below.heap_setCell _ _ _ _ (by first | (simp; done) | (simp; omega))).trans ((Below.heap_setCell _ _ _ _ (by first | (simp; done) | (simp; omega))).trans (set12_own (Value.int IntKind.i64 0) (Value.string ⟨#[]⟩) (Value.string ⟨#[]⟩) (Value.bool false) (Value.bool false) (Value.int IntKind.i64 0) (Value.int IntKind.i64 0) (Value.int IntKind.i64 0) (Value.slice none 0 0) (Value.int IntKind.i64 0) (Value.int IntKind.i64 0) (Value.int IntKind.i64 0) d3))
      have c4 : (((set12 W (w.heap.size + 1 + 1 + 1) (Value.int IntKind.i64 0) (Value.string ⟨#[]⟩) (Value.string ⟨#[]⟩) (Value.bool false) (Value.bool false) (Value.int IntKind.i64 0) (Value.int IntKind.i64 0) (Value.int IntKind.i64 0) (Value.slice none 0 0) (Value.int IntKind.i64 0) (Value.int IntKind.i64 0) (Value.int IntKind.i64 0)).setCell ⟨w.heap.size + 1 + 1 + 1 + 1, 0, none⟩ (Value.bool false)).setCell ⟨w.heap.size + 1 + 1 + 1 + 1 + 1, 0, none⟩ (.int .i64 er)).heap[w.heap.size + 1 + 1 + 1 + 1]? = some (.cells #[Value.bool false] 4 (0, 0)) := (Below.heap_setCell _ _ _ _ (by first | (simp; done) | (simp; omega))).trans (one_setCell ((set12_other (Value.int IntKind.i64 0) (Value.string ⟨#[]⟩) (Value.string ⟨#[]⟩) (Value.bool false) (Value.bool false) (Value.int IntKind.i64 0) (Value.int IntKind.i64 0) (Value.int IntKind.i64 0) (Value.slice none 0 0) (Value.int IntKind.i64 0) (Value.int IntKind.i64 0) (Value.int IntKind.i64 0) (by first | (simp; done) | (simp; omega))).trans d4))
      have c5 : (((set12 W (w.heap.size + 1 + 1 + 1) (Value.int IntKind.i64 0) (Value.string ⟨#[]⟩) (Value.string ⟨#[]⟩) (Value.bool false) (Value.bool false) (Value.int IntKind.i64 0) (Value.int IntKind.i64 0) (Value.int IntKind.i64 0) (Value.slice none 0 0) (Value.int IntKind.i64 0) (Value.int IntKind.i64 0) (Value.int IntKind.i64 0)).setCell ⟨w.heap.size + 1 + 1 + 1 + 1, 0, none⟩ (Value.bool false)).setCell ⟨w.heap.size + 1 + 1 + 1 + 1 + 1, 0, none⟩ (.int .i64 er)).heap[w.heap.size + 1 + 1 + 1 + 1 + 1]? = some (.cells #[.int .i64 er] 31 (0, 0)) := one_setCell ((Below.heap_setCell _ _ _ _ (by first | (simp; done) | (simp; omega))).trans ((set12_other (Value.int IntKind.i64 0) (Value.string ⟨#[]⟩) (Value.string ⟨#[]⟩) (Value.bool false) (Value.bool false) (Value.int IntKind.i64 0) (Value.int IntKind.i64 0) (Value.int IntKind.i64 0) (Value.slice none 0 0) (Value.int IntKind.i64 0) (Value.int IntKind.i64 0) (Value.int IntKind.i64 0) (by first | (simp; done) | (simp; omega))).trans d5))
      refine ⟨_, fin_lat c3 c4 c5 tmps t6 t7 t8, _, rfl, g3, fun I hI => ⟨I, ⟨fun _ h => h, fun _ h => .inl h, fun b hb => ?_⟩, rep_three (rep_ver (ver_z I _))⟩⟩
      have := hI.1 b hb; have := g3.size; omega
    rcases her with ⟨rfl, rfl⟩ | ⟨rfl, rfl⟩
    case inr =>
      simp only [cond_false] at hav
      gi_wp2
      rw [hav]
      exact bad W2 9 hgw b3 b4 b5 _ rfl rfl rfl
    case inl =>
      simp only [cond_true] at hav
      obtain ⟨bk, hbk⟩ : ∃ bk : Nat → ByteArray, ∀ i, s.vers[i]!.bkt = bk i := ⟨fun i => s.vers[i]!.bkt, fun _ => rfl⟩
      obtain ⟨ky, hky⟩ : ∃ ky : Nat → ByteArray, ∀ i, s.vers[i]!.key = ky i := ⟨fun i => s.vers[i]!.key, fun _ => rfl⟩
      obtain ⟨n0, hn0⟩ : ∃ f : Nat → Int, ∀ i, s.vers[i]!.id = f i := ⟨fun i => s.vers[i]!.id, fun _ => rfl⟩
      obtain ⟨n3, hn3⟩ : ∃ f : Nat → Bool, ∀ i, s.vers[i]!.null = f i := ⟨fun i => s.vers[i]!.null, fun _ => rfl⟩
      obtain ⟨n4, hn4⟩ : ∃ f : Nat → Bool, ∀ i, s.vers[i]!.mark = f i := ⟨fun i => s.vers[i]!.mark, fun _ => rfl⟩
      obtain ⟨n5, hn5⟩ : ∃ f : Nat → Int, ∀ i, s.vers[i]!.size = f i := ⟨fun i => s.vers[i]!.size, fun _ => rfl⟩
      obtain ⟨n6, hn6⟩ : ∃ f : Nat → Int, ∀ i, s.vers[i]!.time = f i := ⟨fun i => s.vers[i]!.time, fun _ => rfl⟩
      obtain ⟨n7, hn7⟩ : ∃ f : Nat → Int, ∀ i, s.vers[i]!.tier = f i := ⟨fun i => s.vers[i]!.tier, fun _ => rfl⟩
      obtain ⟨f8, hf8⟩ : ∃ f : Nat → Value, ∀ i, c1 i 8 = f i := ⟨fun i => c1 i 8, fun _ => rfl⟩
      obtain ⟨n9, hn9⟩ : ∃ f : Nat → Int, ∀ i, s.vers[i]!.vol = f i := ⟨fun i => s.vers[i]!.vol, fun _ => rfl⟩
      obtain ⟨n10, hn10⟩ : ∃ f : Nat → Int, ∀ i, s.vers[i]!.pos = f i := ⟨fun i => s.vers[i]!.pos, fun _ => rfl⟩
      obtain ⟨n11, hn11⟩ : ∃ f : Nat → Int, ∀ i, s.vers[i]!.till = f i := ⟨fun i => s.vers[i]!.till, fun _ => rfl⟩
      have hcc : ∀ i, i < s.vers.length → (∀ I, VerAt I w s.vers[i]! (c1 i) → VerAt I w s.vers[i]! (c12 (fun i => .int .i64 (n0 i)) (fun i => .string (bk i)) (fun i => .string (ky i)) (fun i => .bool (n3 i)) (fun i => .bool (n4 i)) (fun i => .int .i64 (n5 i)) (fun i => .int .i64 (n6 i)) (fun i => .int .i64 (n7 i)) f8 (fun i => .int .i64 (n9 i)) (fun i => .int .i64 (n10 i)) (fun i => .int .i64 (n11 i)) i)) ∧ ∀ I, VerAt I w s.vers[i]! (c1 i) → ∀ j, j < 12 → c1 i j = c12 (fun i => .int .i64 (n0 i)) (fun i => .string (bk i)) (fun i => .string (ky i)) (fun i => .bool (n3 i)) (fun i => .bool (n4 i)) (fun i => .int .i64 (n5 i)) (fun i => .int .i64 (n6 i)) (fun i => .int .i64 (n7 i)) f8 (fun i => .int .i64 (n9 i)) (fun i => .int .i64 (n10 i)) (fun i => .int .i64 (n11 i)) i j := fun i hi => by
        refine ⟨fun I h => ?_, fun I h j hj => ?_⟩
        · obtain ⟨h0, h1, h2, h3, h4, h5, h6, h7, h8, h9, h10, h11⟩ := h
          rw [hf8] at h8
          exact ⟨congrArg (Value.int .i64) (hn0 i).symm, congrArg Value.string (hbk i).symm, congrArg Value.string (hky i).symm, congrArg Value.bool (hn3 i).symm, congrArg Value.bool (hn4 i).symm, congrArg (Value.int .i64) (hn5 i).symm, congrArg (Value.int .i64) (hn6 i).symm, congrArg (Value.int .i64) (hn7 i).symm, h8, congrArg (Value.int .i64) (hn9 i).symm, congrArg (Value.int .i64) (hn10 i).symm, congrArg (Value.int .i64) (hn11 i).symm⟩
        · match j, hj with
          | 0, _ => exact h.h0.trans (congrArg (Value.int .i64) (hn0 i))
          | 1, _ => exact h.h1.trans (congrArg Value.string (hbk i))
          | 2, _ => exact h.h2.trans (congrArg Value.string (hky i))
          | 3, _ => exact h.h3.trans (congrArg Value.bool (hn3 i))
          | 4, _ => exact h.h4.trans (congrArg Value.bool (hn4 i))
          | 5, _ => exact h.h5.trans (congrArg (Value.int .i64) (hn5 i))
          | 6, _ => exact h.h6.trans (congrArg (Value.int .i64) (hn6 i))
          | 7, _ => exact h.h7.trans (congrArg (Value.int .i64) (hn7 i))
          | 8, _ => exact hf8 i
          | 9, _ => exact h.h9.trans (congrArg (Value.int .i64) (hn9 i))
          | 10, _ => exact h.h10.trans (congrArg (Value.int .i64) (hn10 i))
          | 11, _ => exact h.h11.trans (congrArg (Value.int .i64) (hn11 i))
      have hI1 : s.vers.length = 0 ∨ ∃ (b o : Nat), a1 = some ⟨b, o, none⟩ ∧ b < w.heap.size ∧ ∀ i, i < s.vers.length → ∀ j, j < 12 → w.cell? ⟨b, o + i * 12 + j, none⟩ = some (c12 (fun i => .int .i64 (n0 i)) (fun i => .string (bk i)) (fun i => .string (ky i)) (fun i => .bool (n3 i)) (fun i => .bool (n4 i)) (fun i => .int .i64 (n5 i)) (fun i => .int .i64 (n6 i)) (fun i => .int .i64 (n7 i)) f8 (fun i => .int .i64 (n9 i)) (fun i => .int .i64 (n10 i)) (fun i => .int .i64 (n11 i)) i j) := by
        rcases hc1 with h | ⟨b, o, h1, h2, h3⟩
        · exact .inl h
        · exact .inr ⟨b, o, h1, hI0 b h2, fun i hi j hj => by rw [← (hcc i hi).2 _ (h3 i hi).2 j hj]; exact (h3 i hi).1 j hj⟩
      have hver : ∀ i, i < s.vers.length → ∀ I, RepsI I w [s.av, .d (.v (.string name)), .d (.v (.string key))] [.agg #[.int .i64 s.next, .int .i64 s.clock, x2, .slice a1 s.vers.length cap1, x4, x5, x6], .string name, .string key] → VerAt I w s.vers[i]! (c12 (fun i => .int .i64 (n0 i)) (fun i => .string (bk i)) (fun i => .string (ky i)) (fun i => .bool (n3 i)) (fun i => .bool (n4 i)) (fun i => .int .i64 (n5 i)) (fun i => .int .i64 (n6 i)) (fun i => .int .i64 (n7 i)) f8 (fun i => .int .i64 (n9 i)) (fun i => .int .i64 (n10 i)) (fun i => .int .i64 (n11 i)) i) := fun i hi I hI => by
        rcases hc1 with h | ⟨b, o, h1, h2, h3⟩
        · omega
        · have h4 := rep_st3 (hI.2.2 0 _ _ rfl rfl)
          rw [h1] at h4
          have h5 := ver_at h4 hi ((h3 i hi).1 8 (by decide))
          exact (hcc i hi).1 I { (h3 i hi).2 with h8 := h5 }
      clear hcc hc1
      gi_wp2_with (refine ⟨trivial, ?_⟩; gi_at_call 19; refine (back_in _ _ trivial rfl _ _ _ _).mono ?_; rintro e w' ⟨rfl, rfl⟩)
      have hcl : ∀ l : List Int, l.length * 8 ≤ 2 ^ 47 → PureG Try.prog 20 [.d (ints l)] (.d (ints l)) := fun l hl => (cloneL_p l hl).g rfl (by intro c hc; simp at hc; rw [hc]; rfl)
      have hs5 : (W2.alloc (.cells #[.slice a1 s.vers.length cap1] 25)).heap.size = W2.heap.size + 1 := World.size_alloc _ _
      have hg5 : Grow W2 (W2.alloc (.cells #[.slice a1 s.vers.length cap1] 25)) := (Grow.refl W2).alloc _
      have hbx := new_blk W2 (.cells #[.slice a1 s.vers.length cap1] 25) (b := W2.heap.size) rfl
      obtain ⟨W5, hW5⟩ : ∃ W5, W2.alloc (.cells #[.slice a1 s.vers.length cap1] 25) = W5 := ⟨_, rfl⟩
      rw [hW5] at hs5 hg5 hbx ⊢
      clear hW5
      have hgw5 := hgw.trans hg5
      refine wpIn_rangeFunc_ownH (α := Below1 s.vers.length) rfl (by decide) (gf := 37) (lb := #[.pointer (some ⟨W2.heap.size, 0, none⟩)]) rfl trivial (enters_of Try.func37 (by kernel_rfl) rfl)
        (back_stops12 Fence.wide 5 trivial rfl (by decide) W2.heap.size W5.heap.size (.slice a1 s.vers.length cap1) s.vers.length (fun i => .int .i64 (n0 i)) (fun i => .string (bk i)) (fun i => .string (ky i)) (fun i => .bool (n3 i)) (fun i => .bool (n4 i)) (fun i => .int .i64 (n5 i)) (fun i => .int .i64 (n6 i)) (fun i => .int .i64 (n7 i)) f8 (fun i => .int .i64 (n9 i)) (fun i => .int .i64 (n10 i)) (fun i => .int .i64 (n11 i)) W5 (by omega) (by omega) (Nat.le_refl _) (by simp [World.cell?, hbx]) ?hI5) belowK_t (belowK_b (Nat.le_refl _)) (Below.refl _ _) (fun _ => rfl)
        (fun pre W => (∀ x ∈ pre, forB s.vers[x.1]! name key = false) ∧ Below W5.heap.size W5 W)
        (fun c pre W => (c = .ret ∧ ∃ p x, pre = p ++ [x] ∧ (∀ z ∈ p, forB s.vers[z.1]! name key = false) ∧ forB s.vers[x.1]! name key = true ∧ FinL (w.heap.size + 1 + 1 + 1) (w.heap.size + 1 + 1 + 1 + 1) (w.heap.size + 1 + 1 + 1 + 1 + 1) [s.av, .d (.v (.string name)), .d (.v (.string key))] [.agg #[.int .i64 s.next, .int .i64 s.clock, x2, .slice a1 s.vers.length cap1, x4, x5, x6], .string name, .string key] w W s.vers[x.1]!))
        (OwnFrom.and (ownFrom_pure _ _) (ownFrom_below (Nat.le_refl _) (Nat.le_refl _)))
        (fun c s' X Y row hs hg hr => by
          obtain ⟨hc, p, x, h1, h2, h3, h4⟩ := hs
          exact ⟨hc, p, x, h1, h2, h3, h4.grown hg (B := W5.heap.size) (by omega) hr⟩)
        ⟨fun x hx => absurd hx (List.not_mem_nil), Below.refl _ _⟩
        (fun x a' W => ∃ Bx, W5.heap.size ≤ Bx ∧ W.heap[Bx]? = some (.cells #[.int .i64 (n0 x.1), .string (bk x.1), .string (ky x.1), .bool (n3 x.1), .bool (n4 x.1), .int .i64 (n5 x.1), .int .i64 (n6 x.1), .int .i64 (n7 x.1), f8 x.1, .int .i64 (n9 x.1), .int .i64 (n10 x.1), .int .i64 (n11 x.1)] 37 (0, 0)) ∧ a' = { tmps := #[Value.agg #[.int .i64 s.next, .int .i64 s.clock, x2, .slice a1 s.vers.length cap1, x4, x5, x6], Value.string name, Value.string key, Value.pointer (some ⟨w.heap.size, 0, none⟩), Value.pointer (some ⟨w.heap.size + 1, 0, none⟩), Value.pointer (some ⟨w.heap.size + 1 + 1, 0, none⟩), Value.pointer (some ⟨w.heap.size + 1 + 1 + 1, 0, none⟩), Value.pointer (some ⟨w.heap.size + 1 + 1 + 1 + 1, 0, none⟩), Value.pointer (some ⟨w.heap.size + 1 + 1 + 1 + 1 + 1, 0, none⟩), Value.int .i64 0, undef, Value.pointer (some ⟨Bx, 0, none⟩), Value.agg #[.int .i64 s.next, .int .i64 s.clock, x2, .slice a1 s.vers.length cap1, x4, x5, x6], Value.int .i64 0, Value.int .i64 0, Value.bool false, undef, undef, Value.pointer (some ⟨w.heap.size, 3, none⟩), Value.slice a1 s.vers.length cap1, Value.func (Fn.func 37) #[] #[Value.pointer (some ⟨W2.heap.size, 0, none⟩)], Value.int .i64 (x.1 : Int), Value.agg #[.int .i64 (n0 x.1), .string (bk x.1), .string (ky x.1), .bool (n3 x.1), .bool (n4 x.1), .int .i64 (n5 x.1), .int .i64 (n6 x.1), .int .i64 (n7 x.1), f8 x.1, .int .i64 (n9 x.1), .int .i64 (n10 x.1), .int .i64 (n11 x.1)], undef, undef, undef, undef, undef, undef, undef, undef, undef, undef, undef, undef, undef, undef, undef, undef], defers := [] }) ?hAx ?assign ?body ?done ?stop
      case hI5 =>
        rcases hI1 with h | ⟨b, o, rfl, hb, hc⟩
        · exact .inl ⟨_, _, by rw [h], h⟩
        · have hgx := hgw5.size
          exact .inr ⟨b, o, _, rfl, by omega, hl1, fun j hj i hi => (hgw5.cell (p := ⟨b, o + j * 12 + i, none⟩) hb).trans (hc j hj i hi)⟩
      case hAx =>
        intro x a' _ X Y row ⟨Bx, h1, h2, h3⟩ hg hr
        refine ⟨Bx, h1, (hg.block Bx (Array.getElem?_eq_some_iff.1 h2).1 fun e => ?_).trans h2, h3⟩
        obtain ⟨_, o, ho, hc⟩ := hr Bx e.symm
        rw [h2] at ho; cases ho; cases hc
      case assign =>
        rintro l pre x W K ⟨h1, h2⟩ hK
        obtain ⟨fa, fl, fc, hf⟩ := ints_slice (hver x.1 x.2 I0 h0).h8
        have hf : f8 x.1 = _ := hf
        simp only [hf] at hK ⊢
        gi_wp2
        exact hK _ _ ((KeepsOthers.alloc _ _).from _) ((Below.refl _ W).alloc h2.size _) ⟨h1, h2.alloc h2.size _⟩ ⟨W.heap.size, h2.size, new_blk _ _ rfl, rfl⟩
      case body =>
        rintro l pre x a' W hl ⟨r, hr⟩ ⟨hpre, hB⟩ ⟨Bx, hBx, hbx, rfl⟩ hlt
        have hs6 := hB.size
        have e1 : W.heap[w.heap.size + 1]? = some (.cells #[Value.string name] 9 (0, 0)) := (hB.block _ (by omega)).trans ((hg5.heap (by omega)).trans b1)
        have e2 : W.heap[w.heap.size + 1 + 1]? = some (.cells #[Value.string key] 9 (0, 0)) := (hB.block _ (by omega)).trans ((hg5.heap (by omega)).trans b2)
        have e3 : W.heap[w.heap.size + 1 + 1 + 1]? = some (.cells #[Value.int IntKind.i64 0, Value.string ⟨#[]⟩, Value.string ⟨#[]⟩, Value.bool false, Value.bool false, Value.int IntKind.i64 0, Value.int IntKind.i64 0, Value.int IntKind.i64 0, Value.slice none 0 0, Value.int IntKind.i64 0, Value.int IntKind.i64 0, Value.int IntKind.i64 0] 37 (0, 0)) := (hB.block _ (by omega)).trans ((hg5.heap (by omega)).trans b3)
        have e4 : W.heap[w.heap.size + 1 + 1 + 1 + 1]? = some (.cells #[Value.bool false] 4 (0, 0)) := (hB.block _ (by omega)).trans ((hg5.heap (by omega)).trans b4)
        have e5 : W.heap[w.heap.size + 1 + 1 + 1 + 1 + 1]? = some (.cells #[Value.int IntKind.i64 0] 31 (0, 0)) := (hB.block _ (by omega)).trans ((hg5.heap (by omega)).trans b5)
        have q1 : W.cell? ⟨w.heap.size + 1, 0, none⟩ = some (.string name) := by simp [World.cell?, e1]
        have q2 : W.cell? ⟨w.heap.size + 1 + 1, 0, none⟩ = some (.string key) := by simp [World.cell?, e2]
        have qx0 : W.cell? ⟨Bx, 0, none⟩ = some (.int .i64 (n0 x.1)) := by simp [World.cell?, hbx]
        have qx1 : W.cell? ⟨Bx, 1, none⟩ = some (.string (bk x.1)) := by simp [World.cell?, hbx]
        have qx2 : W.cell? ⟨Bx, 2, none⟩ = some (.string (ky x.1)) := by simp [World.cell?, hbx]
        have qx3 : W.cell? ⟨Bx, 3, none⟩ = some (.bool (n3 x.1)) := by simp [World.cell?, hbx]
        have qx4 : W.cell? ⟨Bx, 4, none⟩ = some (.bool (n4 x.1)) := by simp [World.cell?, hbx]
        have qx5 : W.cell? ⟨Bx, 5, none⟩ = some (.int .i64 (n5 x.1)) := by simp [World.cell?, hbx]
        have qx6 : W.cell? ⟨Bx, 6, none⟩ = some (.int .i64 (n6 x.1)) := by simp [World.cell?, hbx]
        have qx7 : W.cell? ⟨Bx, 7, none⟩ = some (.int .i64 (n7 x.1)) := by simp [World.cell?, hbx]
        have qx8 : W.cell? ⟨Bx, 8, none⟩ = some (f8 x.1) := by simp [World.cell?, hbx]
        have qx9 : W.cell? ⟨Bx, 9, none⟩ = some (.int .i64 (n9 x.1)) := by simp [World.cell?, hbx]
        have qx10 : W.cell? ⟨Bx, 10, none⟩ = some (.int .i64 (n10 x.1)) := by simp [World.cell?, hbx]
        have qx11 : W.cell? ⟨Bx, 11, none⟩ = some (.int .i64 (n11 x.1)) := by simp [World.cell?, hbx]
        have hno : (((bk x.1).toList == name.toList) && ((ky x.1).toList == key.toList)) = forB s.vers[x.1]! name key := by unfold forB; rw [hbk, hky]
        have skip : forB s.vers[x.1]! name key = false → ∀ z ∈ pre ++ [x], forB s.vers[z.1]! name key = false := fun hm2 z hz => by
          rcases List.mem_append.1 hz with h | h
          · exact hpre z h
          · rw [List.mem_singleton.1 h]; exact hm2
        cases h1 : ((bk x.1).toList == name.toList)
        case false =>
          rw [h1] at hno
          gi_wp2
          exact ⟨KeepsFrom.refl _ _, Below.refl _ _, skip hno.symm, hB⟩
        case true =>
          cases h2 : ((ky x.1).toList == key.toList)
          case false =>
            rw [h1, h2] at hno
            gi_wp2
            exact ⟨KeepsFrom.refl _ _, Below.refl _ _, skip hno.symm, hB⟩
          case true =>
            rw [h1, h2] at hno
            have hgW : Grow w W := hgw5.trans hB
            have hva : ∀ I, RepsI I w [s.av, .d (.v (.string name)), .d (.v (.string key))] [.agg #[.int .i64 s.next, .int .i64 s.clock, x2, .slice a1 s.vers.length cap1, x4, x5, x6], .string name, .string key] → VerAt I W s.vers[x.1]! (c12 (fun i => .int .i64 (n0 i)) (fun i => .string (bk i)) (fun i => .string (ky i)) (fun i => .bool (n3 i)) (fun i => .bool (n4 i)) (fun i => .int .i64 (n5 i)) (fun i => .int .i64 (n6 i)) (fun i => .int .i64 (n7 i)) f8 (fun i => .int .i64 (n9 i)) (fun i => .int .i64 (n10 i)) (fun i => .int .i64 (n11 i)) x.1) := fun I hI => (hver x.1 x.2 I hI).up (fun _ h => h) (Keep.of_grow hgW hI.1)
            have hR0 := reps_one (fun b hb => Nat.lt_of_lt_of_le (hI0 b hb) hgW.size) (hva I0 h0).h8
            have hcl8 := hcl s.vers[x.1]!.secs (by have := hsec x.1; omega) [f8 x.1] W ⟨I0, hR0⟩
            obtain ⟨fa, fl, fc, hf8x⟩ := ints_slice (hver x.1 x.2 I0 h0).h8
            have hf8x : f8 x.1 = _ := hf8x
            rw [hf8x] at hcl8 hbx
            gi_wp2
            refine ⟨trivial, (CallsIn.inRound l (callsIn_wide.2 hcl8)).mono ?_⟩
            rintro e W3 ⟨y, rfl, hg3, hI3⟩
            have hone : ∃ a n c, y = .slice a n c := by
              obtain ⟨I', u, hR⟩ := hI3 I0 (by rw [← hf8x]; exact hR0)
              exact ints_slice (rep_ro hR)
            obtain ⟨ya, yn, yc, rfl⟩ := hone
            have hs7 := hg3.size
            have lbx := (Array.getElem?_eq_some_iff.1 hbx).1
            have zx := (hg3.heap lbx).trans hbx
            have zq8 : W3.cell? ⟨Bx, 8, none⟩ = some (.slice fa fl fc) := by simp [World.cell?, zx]
            have zf8 : W3.frozen? ⟨Bx, 8, none⟩ = false := by simp [World.frozen?, zx]
            have yx : (W3.setCell ⟨Bx, 8, none⟩ (Value.slice ya yn yc)).heap[Bx]? = some (.cells #[Value.int .i64 (n0 x.1), Value.string (bk x.1), Value.string (ky x.1), Value.bool (n3 x.1), Value.bool (n4 x.1), Value.int .i64 (n5 x.1), Value.int .i64 (n6 x.1), Value.int .i64 (n7 x.1), .slice ya yn yc, Value.int .i64 (n9 x.1), Value.int .i64 (n10 x.1), Value.int .i64 (n11 x.1)] 37 (0, 0)) := cell_set 8 _ zx
            have yq0 : (W3.setCell ⟨Bx, 8, none⟩ (Value.slice ya yn yc)).cell? ⟨Bx, 0, none⟩ = some (Value.int .i64 (n0 x.1)) := by unfold World.cell?; rw [yx]; rfl
            have yq1 : (W3.setCell ⟨Bx, 8, none⟩ (Value.slice ya yn yc)).cell? ⟨Bx, 1, none⟩ = some (Value.string (bk x.1)) := by unfold World.cell?; rw [yx]; rfl
            have yq2 : (W3.setCell ⟨Bx, 8, none⟩ (Value.slice ya yn yc)).cell? ⟨Bx, 2, none⟩ = some (Value.string (ky x.1)) := by unfold World.cell?; rw [yx]; rfl
            have yq3 : (W3.setCell ⟨Bx, 8, none⟩ (Value.slice ya yn yc)).cell? ⟨Bx, 3, none⟩ = some (Value.bool (n3 x.1)) := by unfold World.cell?; rw [yx]; rfl
            have yq4 : (W3.setCell ⟨Bx, 8, none⟩ (Value.slice ya yn yc)).cell? ⟨Bx, 4, none⟩ = some (Value.bool (n4 x.1)) := by unfold World.cell?; rw [yx]; rfl
            have yq5 : (W3.setCell ⟨Bx, 8, none⟩ (Value.slice ya yn yc)).cell? ⟨Bx, 5, none⟩ = some (Value.int .i64 (n5 x.1)) := by unfold World.cell?; rw [yx]; rfl
            have yq6 : (W3.setCell ⟨Bx, 8, none⟩ (Value.slice ya yn yc)).cell? ⟨Bx, 6, none⟩ = some (Value.int .i64 (n6 x.1)) := by unfold World.cell?; rw [yx]; rfl
            have yq7 : (W3.setCell ⟨Bx, 8, none⟩ (Value.slice ya yn yc)).cell? ⟨Bx, 7, none⟩ = some (Value.int .i64 (n7 x.1)) := by unfold World.cell?; rw [yx]; rfl
            have yq8 : (W3.setCell ⟨Bx, 8, none⟩ (Value.slice ya yn yc)).cell? ⟨Bx, 8, none⟩ = some (.slice ya yn yc) := by unfold World.cell?; rw [yx]; rfl
            have yq9 : (W3.setCell ⟨Bx, 8, none⟩ (Value.slice ya yn yc)).cell? ⟨Bx, 9, none⟩ = some (Value.int .i64 (n9 x.1)) := by unfold World.cell?; rw [yx]; rfl
            have yq10 : (W3.setCell ⟨Bx, 8, none⟩ (Value.slice ya yn yc)).cell? ⟨Bx, 10, none⟩ = some (Value.int .i64 (n10 x.1)) := by unfold World.cell?; rw [yx]; rfl
            have yq11 : (W3.setCell ⟨Bx, 8, none⟩ (Value.slice ya yn yc)).cell? ⟨Bx, 11, none⟩ = some (Value.int .i64 (n11 x.1)) := by unfold World.cell?; rw [yx]; rfl
            have y3 : (W3.setCell ⟨Bx, 8, none⟩ (Value.slice ya yn yc)).heap[w.heap.size + 1 + 1 + 1]? = some (.cells #[Value.int IntKind.i64 0, Value.string ⟨#[]⟩, Value.string ⟨#[]⟩, Value.bool false, Value.bool false, Value.int IntKind.i64 0, Value.int IntKind.i64 0, Value.int IntKind.i64 0, Value.slice none 0 0, Value.int IntKind.i64 0, Value.int IntKind.i64 0, Value.int IntKind.i64 0] 37 (0, 0)) := (Below.heap_setCell _ _ _ _ (by show _ ≠ Bx; omega)).trans ((hg3.heap (by omega)).trans e3)
            have y4 : (W3.setCell ⟨Bx, 8, none⟩ (Value.slice ya yn yc)).heap[w.heap.size + 1 + 1 + 1 + 1]? = some (.cells #[Value.bool false] 4 (0, 0)) := (Below.heap_setCell _ _ _ _ (by show _ ≠ Bx; omega)).trans ((hg3.heap (by omega)).trans e4)
            have y5 : (W3.setCell ⟨Bx, 8, none⟩ (Value.slice ya yn yc)).heap[w.heap.size + 1 + 1 + 1 + 1 + 1]? = some (.cells #[Value.int IntKind.i64 0] 31 (0, 0)) := (Below.heap_setCell _ _ _ _ (by show _ ≠ Bx; omega)).trans ((hg3.heap (by omega)).trans e5)
            have y3_0 : (W3.setCell ⟨Bx, 8, none⟩ (Value.slice ya yn yc)).cell? ⟨w.heap.size + 1 + 1 + 1, 0, none⟩ = some (Value.int IntKind.i64 0) := by unfold World.cell?; rw [y3]; rfl
            have g3_0 : (W3.setCell ⟨Bx, 8, none⟩ (Value.slice ya yn yc)).frozen? ⟨w.heap.size + 1 + 1 + 1, 0, none⟩ = false := by unfold World.frozen?; rw [y3]; rfl
            have y3_1 : (W3.setCell ⟨Bx, 8, none⟩ (Value.slice ya yn yc)).cell? ⟨w.heap.size + 1 + 1 + 1, 1, none⟩ = some (Value.string ⟨#[]⟩) := by unfold World.cell?; rw [y3]; rfl
            have g3_1 : (W3.setCell ⟨Bx, 8, none⟩ (Value.slice ya yn yc)).frozen? ⟨w.heap.size + 1 + 1 + 1, 1, none⟩ = false := by unfold World.frozen?; rw [y3]; rfl
            have y3_2 : (W3.setCell ⟨Bx, 8, none⟩ (Value.slice ya yn yc)).cell? ⟨w.heap.size + 1 + 1 + 1, 2, none⟩ = some (Value.string ⟨#[]⟩) := by unfold World.cell?; rw [y3]; rfl
            have g3_2 : (W3.setCell ⟨Bx, 8, none⟩ (Value.slice ya yn yc)).frozen? ⟨w.heap.size + 1 + 1 + 1, 2, none⟩ = false := by unfold World.frozen?; rw [y3]; rfl
            have y3_3 : (W3.setCell ⟨Bx, 8, none⟩ (Value.slice ya yn yc)).cell? ⟨w.heap.size + 1 + 1 + 1, 3, none⟩ = some (Value.bool false) := by unfold World.cell?; rw [y3]; rfl
            have g3_3 : (W3.setCell ⟨Bx, 8, none⟩ (Value.slice ya yn yc)).frozen? ⟨w.heap.size + 1 + 1 + 1, 3, none⟩ = false := by unfold World.frozen?; rw [y3]; rfl
            have y3_4 : (W3.setCell ⟨Bx, 8, none⟩ (Value.slice ya yn yc)).cell? ⟨w.heap.size + 1 + 1 + 1, 4, none⟩ = some (Value.bool false) := by unfold World.cell?; rw [y3]; rfl
            have g3_4 : (W3.setCell ⟨Bx, 8, none⟩ (Value.slice ya yn yc)).frozen? ⟨w.heap.size + 1 + 1 + 1, 4, none⟩ = false := by unfold World.frozen?; rw [y3]; rfl
            have y3_5 : (W3.setCell ⟨Bx, 8, none⟩ (Value.slice ya yn yc)).cell? ⟨w.heap.size + 1 + 1 + 1, 5, none⟩ = some (Value.int IntKind.i64 0) := by unfold World.cell?; rw [y3]; rfl
            have g3_5 : (W3.setCell ⟨Bx, 8, none⟩ (Value.slice ya yn yc)).frozen? ⟨w.heap.size + 1 + 1 + 1, 5, none⟩ = false := by unfold World.frozen?; rw [y3]; rfl
            have y3_6 : (W3.setCell ⟨Bx, 8, none⟩ (Value.slice ya yn yc)).cell? ⟨w.heap.size + 1 + 1 + 1, 6, none⟩ = some (Value.int IntKind.i64 0) := by unfold World.cell?; rw [y3]; rfl
            have g3_6 : (W3.setCell ⟨Bx, 8, none⟩ (Value.slice ya yn yc)).frozen? ⟨w.heap.size + 1 + 1 + 1, 6, none⟩ = false := by unfold World.frozen?; rw [y3]; rfl
            have y3_7 : (W3.setCell ⟨Bx, 8, none⟩ (Value.slice ya yn yc)).cell? ⟨w.heap.size + 1 + 1 + 1, 7, none⟩ = some (Value.int IntKind.i64 0) := by unfold World.cell?; rw [y3]; rfl
            have g3_7 : (W3.setCell ⟨Bx, 8, none⟩ (Value.slice ya yn yc)).frozen? ⟨w.heap.size + 1 + 1 + 1, 7, none⟩ = false := by unfold World.frozen?; rw [y3]; rfl
            have y3_8 : (W3.setCell ⟨Bx, 8, none⟩ (Value.slice ya yn yc)).cell? ⟨w.heap.size + 1 + 1 + 1, 8, none⟩ = some (Value.slice none 0 0) := by unfold World.cell?; rw [y3]; rfl
            have g3_8 : (W3.setCell ⟨Bx, 8, none⟩ (Value.slice ya yn yc)).frozen? ⟨w.heap.size + 1 + 1 + 1, 8, none⟩ = false := by unfold World.frozen?; rw [y3]; rfl
            have y3_9 : (W3.setCell ⟨Bx, 8, none⟩ (Value.slice ya yn yc)).cell? ⟨w.heap.size + 1 + 1 + 1, 9, none⟩ = some (Value.int IntKind.i64 0) := by unfold World.cell?; rw [y3]; rfl
            have g3_9 : (W3.setCell ⟨Bx, 8, none⟩ (Value.slice ya yn yc)).frozen? ⟨w.heap.size + 1 + 1 + 1, 9, none⟩ = false := by unfold World.frozen?; rw [y3]; rfl
            have y3_10 : (W3.setCell ⟨Bx, 8, none⟩ (Value.slice ya yn yc)).cell? ⟨w.heap.size + 1 + 1 + 1, 10, none⟩ = some (Value.int IntKind.i64 0) := by unfold World.cell?; rw [y3]; rfl
            have g3_10 : (W3.setCell ⟨Bx, 8, none⟩ (Value.slice ya yn yc)).frozen? ⟨w.heap.size + 1 + 1 + 1, 10, none⟩ = false := by unfold World.frozen?; rw [y3]; rfl
            have y3_11 : (W3.setCell ⟨Bx, 8, none⟩ (Value.slice ya yn yc)).cell? ⟨w.heap.size + 1 + 1 + 1, 11, none⟩ = some (Value.int IntKind.i64 0) := by unfold World.cell?; rw [y3]; rfl
            have g3_11 : (W3.setCell ⟨Bx, 8, none⟩ (Value.slice ya yn yc)).frozen? ⟨w.heap.size + 1 + 1 + 1, 11, none⟩ = false := by unfold World.frozen?; rw [y3]; rfl
            have y4_0 : (W3.setCell ⟨Bx, 8, none⟩ (Value.slice ya yn yc)).cell? ⟨w.heap.size + 1 + 1 + 1 + 1, 0, none⟩ = some (.bool false) := by unfold World.cell?; rw [y4]; rfl
            have g4_0 : (W3.setCell ⟨Bx, 8, none⟩ (Value.slice ya yn yc)).frozen? ⟨w.heap.size + 1 + 1 + 1 + 1, 0, none⟩ = false := by unfold World.frozen?; rw [y4]; rfl
            have y5_0 : (W3.setCell ⟨Bx, 8, none⟩ (Value.slice ya yn yc)).cell? ⟨w.heap.size + 1 + 1 + 1 + 1 + 1, 0, none⟩ = some (.int .i64 0) := by unfold World.cell?; rw [y5]; rfl
            have g5_0 : (W3.setCell ⟨Bx, 8, none⟩ (Value.slice ya yn yc)).frozen? ⟨w.heap.size + 1 + 1 + 1 + 1 + 1, 0, none⟩ = false := by unfold World.frozen?; rw [y5]; rfl
            have hfin : FinL (w.heap.size + 1 + 1 + 1) (w.heap.size + 1 + 1 + 1 + 1) (w.heap.size + 1 + 1 + 1 + 1 + 1) [s.av, .d (.v (.string name)), .d (.v (.string key))] [.agg #[.int .i64 s.next, .int .i64 s.clock, x2, .slice a1 s.vers.length cap1, x4, x5, x6], .string name, .string key] w (((set12 (W3.setCell ⟨Bx, 8, none⟩ (Value.slice ya yn yc)) (w.heap.size + 1 + 1 + 1) (Value.int .i64 (n0 x.1)) (Value.string (bk x.1)) (Value.string (ky x.1)) (Value.bool (n3 x.1)) (Value.bool (n4 x.1)) (Value.int .i64 (n5 x.1)) (Value.int .i64 (n6 x.1)) (Value.int .i64 (n7 x.1)) (.slice ya yn yc) (Value.int .i64 (n9 x.1)) (Value.int .i64 (n10 x.1)) (Value.int .i64 (n11 x.1))).setCell ⟨w.heap.size + 1 + 1 + 1 + 1, 0, none⟩ (.bool true)).setCell ⟨w.heap.size + 1 + 1 + 1 + 1 + 1, 0, none⟩ (.int .i64 0)) s.vers[x.1]! :=
              fin_clone12 (c12 (fun i => .int .i64 (n0 i)) (fun i => .string (bk i)) (fun i => .string (ky i)) (fun i => .bool (n3 i)) (fun i => .bool (n4 i)) (fun i => .int .i64 (n5 i)) (fun i => .int .i64 (n6 i)) (fun i => .int .i64 (n7 i)) (fun _ => .slice ya yn yc) (fun i => .int .i64 (n9 i)) (fun i => .int .i64 (n10 i)) (fun i => .int .i64 (n11 i)) x.1) (Bx := Bx) hgW hg3 ⟨by omega, by omega⟩ ⟨by omega, by omega⟩ ⟨by omega, by omega⟩ ⟨by omega, lbx⟩ (by omega) (by omega) (by omega) y3 y4 y5
                fun I hI => by
                  have hv := hva I hI
                  obtain ⟨I', u, hR⟩ := hI3 I (reps_one (fun b hb => Nat.lt_of_lt_of_le (hI.1 b hb) hgW.size) (by rw [← hf8x]; exact hv.h8))
                  have hv3 := hv.up (I' := I') u.1 (Keep.of_grow hg3 (fun b hb => Nat.lt_of_lt_of_le (hI.1 b hb) hgW.size))
                  exact ⟨I', u, ⟨hv3.h0, hv3.h1, hv3.h2, hv3.h3, hv3.h4, hv3.h5, hv3.h6, hv3.h7, rep_ro hR, hv3.h9, hv3.h10, hv3.h11⟩⟩
            clear hver hI1 hcl hcl8 hI3 hva hR0 hck hr h0 hargs
            unfold set12 at hfin
            gi_wp2
            exact ⟨((((((((((((((((keeps_grow hg3).trans ((KeepsOthers.setCell _ _ _).from _)).trans ((KeepsOthers.setCell _ _ _).from _)).trans ((KeepsOthers.setCell _ _ _).from _)).trans ((KeepsOthers.setCell _ _ _).from _)).trans ((KeepsOthers.setCell _ _ _).from _)).trans ((KeepsOthers.setCell _ _ _).from _)).trans ((KeepsOthers.setCell _ _ _).from _)).trans ((KeepsOthers.setCell _ _ _).from _)).trans ((KeepsOthers.setCell _ _ _).from _)).trans ((KeepsOthers.setCell _ _ _).from _)).trans ((KeepsOthers.setCell _ _ _).from _)).trans ((KeepsOthers.setCell _ _ _).from _)).trans ((KeepsOthers.setCell _ _ _).from _)).trans ((KeepsOthers.setCell _ _ _).from _)).trans ((KeepsOthers.setCell _ _ _).from _)), rfl, pre, x, rfl, hpre, hno.symm, hfin⟩
      case done =>
        rintro D ys W hD hS ⟨hall, hB⟩ hK
        have hs6 := hB.size
        have hgW : Grow w W := hgw5.trans hB
        have e3 : W.heap[w.heap.size + 1 + 1 + 1]? = some (.cells #[Value.int IntKind.i64 0, Value.string ⟨#[]⟩, Value.string ⟨#[]⟩, Value.bool false, Value.bool false, Value.int IntKind.i64 0, Value.int IntKind.i64 0, Value.int IntKind.i64 0, Value.slice none 0 0, Value.int IntKind.i64 0, Value.int IntKind.i64 0, Value.int IntKind.i64 0] 37 (0, 0)) := (hB.block _ (by omega)).trans ((hg5.heap (by omega)).trans b3)
        have e4 : W.heap[w.heap.size + 1 + 1 + 1 + 1]? = some (.cells #[Value.bool false] 4 (0, 0)) := (hB.block _ (by omega)).trans ((hg5.heap (by omega)).trans b4)
        have e5 : W.heap[w.heap.size + 1 + 1 + 1 + 1 + 1]? = some (.cells #[Value.int IntKind.i64 0] 31 (0, 0)) := (hB.block _ (by omega)).trans ((hg5.heap (by omega)).trans b5)
        have hlast : lastV s.vers name key s.vers.length = none := lastV_miss hS hall
        rw [hlast] at hav
        have y3_0 : W.cell? ⟨w.heap.size + 1 + 1 + 1, 0, none⟩ = some (Value.int IntKind.i64 0) := by unfold World.cell?; rw [e3]; rfl
        have g3_0 : W.frozen? ⟨w.heap.size + 1 + 1 + 1, 0, none⟩ = false := by unfold World.frozen?; rw [e3]; rfl
        have y3_1 : W.cell? ⟨w.heap.size + 1 + 1 + 1, 1, none⟩ = some (Value.string ⟨#[]⟩) := by unfold World.cell?; rw [e3]; rfl
        have g3_1 : W.frozen? ⟨w.heap.size + 1 + 1 + 1, 1, none⟩ = false := by unfold World.frozen?; rw [e3]; rfl
        have y3_2 : W.cell? ⟨w.heap.size + 1 + 1 + 1, 2, none⟩ = some (Value.string ⟨#[]⟩) := by unfold World.cell?; rw [e3]; rfl
        have g3_2 : W.frozen? ⟨w.heap.size + 1 + 1 + 1, 2, none⟩ = false := by unfold World.frozen?; rw [e3]; rfl
        have y3_3 : W.cell? ⟨w.heap.size + 1 + 1 + 1, 3, none⟩ = some (Value.bool false) := by unfold World.cell?; rw [e3]; rfl
        have g3_3 : W.frozen? ⟨w.heap.size + 1 + 1 + 1, 3, none⟩ = false := by unfold World.frozen?; rw [e3]; rfl
        have y3_4 : W.cell? ⟨w.heap.size + 1 + 1 + 1, 4, none⟩ = some (Value.bool false) := by unfold World.cell?; rw [e3]; rfl
        have g3_4 : W.frozen? ⟨w.heap.size + 1 + 1 + 1, 4, none⟩ = false := by unfold World.frozen?; rw [e3]; rfl
        have y3_5 : W.cell? ⟨w.heap.size + 1 + 1 + 1, 5, none⟩ = some (Value.int IntKind.i64 0) := by unfold World.cell?; rw [e3]; rfl
        have g3_5 : W.frozen? ⟨w.heap.size + 1 + 1 + 1, 5, none⟩ = false := by unfold World.frozen?; rw [e3]; rfl
        have y3_6 : W.cell? ⟨w.heap.size + 1 + 1 + 1, 6, none⟩ = some (Value.int IntKind.i64 0) := by unfold World.cell?; rw [e3]; rfl
        have g3_6 : W.frozen? ⟨w.heap.size + 1 + 1 + 1, 6, none⟩ = false := by unfold World.frozen?; rw [e3]; rfl
        have y3_7 : W.cell? ⟨w.heap.size + 1 + 1 + 1, 7, none⟩ = some (Value.int IntKind.i64 0) := by unfold World.cell?; rw [e3]; rfl
        have g3_7 : W.frozen? ⟨w.heap.size + 1 + 1 + 1, 7, none⟩ = false := by unfold World.frozen?; rw [e3]; rfl
        have y3_8 : W.cell? ⟨w.heap.size + 1 + 1 + 1, 8, none⟩ = some (Value.slice none 0 0) := by unfold World.cell?; rw [e3]; rfl
        have g3_8 : W.frozen? ⟨w.heap.size + 1 + 1 + 1, 8, none⟩ = false := by unfold World.frozen?; rw [e3]; rfl
        have y3_9 : W.cell? ⟨w.heap.size + 1 + 1 + 1, 9, none⟩ = some (Value.int IntKind.i64 0) := by unfold World.cell?; rw [e3]; rfl
        have g3_9 : W.frozen? ⟨w.heap.size + 1 + 1 + 1, 9, none⟩ = false := by unfold World.frozen?; rw [e3]; rfl
        have y3_10 : W.cell? ⟨w.heap.size + 1 + 1 + 1, 10, none⟩ = some (Value.int IntKind.i64 0) := by unfold World.cell?; rw [e3]; rfl
        have g3_10 : W.frozen? ⟨w.heap.size + 1 + 1 + 1, 10, none⟩ = false := by unfold World.frozen?; rw [e3]; rfl
        have y3_11 : W.cell? ⟨w.heap.size + 1 + 1 + 1, 11, none⟩ = some (Value.int IntKind.i64 0) := by unfold World.cell?; rw [e3]; rfl
        have g3_11 : W.frozen? ⟨w.heap.size + 1 + 1 + 1, 11, none⟩ = false := by unfold World.frozen?; rw [e3]; rfl
        have y4_0 : W.cell? ⟨w.heap.size + 1 + 1 + 1 + 1, 0, none⟩ = some (.bool false) := by unfold World.cell?; rw [e4]; rfl
        have g4_0 : W.frozen? ⟨w.heap.size + 1 + 1 + 1 + 1, 0, none⟩ = false := by unfold World.frozen?; rw [e4]; rfl
        have y5_0 : W.cell? ⟨w.heap.size + 1 + 1 + 1 + 1 + 1, 0, none⟩ = some (.int .i64 0) := by unfold World.cell?; rw [e5]; rfl
        have g5_0 : W.frozen? ⟨w.heap.size + 1 + 1 + 1 + 1 + 1, 0, none⟩ = false := by unfold World.frozen?; rw [e5]; rfl
        clear hver hI1 hcl hck hr h0 hargs
        obtain ⟨hK3, hfn⟩ := fin_none (args := [s.av, .d (.v (.string name)), .d (.v (.string key))]) (xs := [.agg #[.int .i64 s.next, .int .i64 s.clock, x2, .slice a1 s.vers.length cap1, x4, x5, x6], .string name, .string key]) hgW (n3 := w.heap.size + 1 + 1 + 1) (n4 := w.heap.size + 1 + 1 + 1 + 1) (n5 := w.heap.size + 1 + 1 + 1 + 1 + 1) (D := D) (by omega) (by omega) (by omega) (by omega) (by omega) (by omega) (by omega) (by omega) (by omega) (by omega) e3 e4 e5 hK
        unfold set12 at hK3 hfn
        gi_wp2
        refine ⟨by simp, .inl ⟨_, _, rfl, run_takeDeferred hK3, ?_⟩⟩
        rw [hav]
        exact hfn _ (grownBy_putObj' _ D (.deferred none)) _ rfl rfl rfl
      case stop =>
        rintro D c pre W hD ⟨k, hk, hmap⟩ ⟨rfl, p, x, rfl, hz, hx, hfin⟩ hK
        have hf2 := hfin.grown (grownBy_putObj' W D (.deferred none)) (B := W5.heap.size) (by omega) fun r e => by cases e; exact ⟨hD, _, hK, rfl⟩
        have hlast : lastV s.vers name key s.vers.length = some s.vers[x.1]! := lastV_hit2 hk hmap hz hx
        rw [hlast] at hav
        clear hver hI1 hcl hck hr h0 hargs
        gi_wp2
        refine ⟨by simp, .inl ⟨_, _, rfl, run_takeDeferred hK, ?_⟩⟩
        obtain ⟨c', p3, p4, p5, hgf, hIf⟩ := hf2
        refine ⟨_, fin_lat p3 p4 p5 _ rfl rfl rfl, _, rfl, hgf, fun I hI => ?_⟩
        obtain ⟨I', u, _, hR⟩ := hIf I hI
        refine ⟨I', u, ?_⟩
        rw [hav]
        exact rep_three (rep_ver hR)
end Go.Proofs.Ytobbkfldjemgkaa
