/- The hand of one who writes: what it puts, flushes and tells at the end. -/
import Derived.Test.YtkcfnhfbdcnhjaaDone
import Derived.Test.YtkcfnhfbdcnhjaaCodeHand
namespace Go.Proofs.Ytkcfnhfbdcnhjaa
open Go.RowKit
set_option maxHeartbeats 4000000
set_option maxRecDepth 20000
attribute [local irreducible] SW SWL SWLn SWD SEcall SEcallv SDv SE SO1 SOg ACalls ACallv Wk EndV
set_option linter.unusedSimpArgs false
set_option linter.unusedVariables false
/-- nil for an empty slice, where a function is called -/
theorem ACalls.nz {P : Program} {f : FuncId} {args : List AV} {σ : Sto} {B : Nat} {T : List Nat} {R : AV → Sto → Prop} (h : ACalls P f (args.map AV.nz) σ B T R) : ACalls P f args σ B T R := by
  unfold ACalls at h ⊢
  have up : ∀ xs w K, Pre args σ B xs w K → Pre (args.map AV.nz) σ B xs w K := fun xs w K ⟨h1, h2, h3, h4⟩ => ⟨h1, h2, by simpa using h3, fun i c x hc hx => by
    rw [List.getElem?_map] at hc
    cases hci : args[i]? with
    | none => simp [hci] at hc
    | some c0 => simp only [hci, Option.map_some, Option.some.injEq] at hc; subst hc; exact (h4 i c0 x hci hx).nz⟩
  intro xs w ⟨K, hK⟩
  refine (h xs w ⟨K, up _ _ _ hK⟩).mono ?_
  rintro e w' ⟨x, v, σ', h1, h2, h3⟩
  exact ⟨x, v, σ', h1, h2, fun K hK => h3 K (up _ _ _ hK)⟩
theorem Pure.nz {P : Program} {f : FuncId} {args : List AV} {v : AV} (h : Pure P f (args.map AV.nz) v) : Pure P f args v := by
  unfold Pure at h ⊢
  intro B σ; exact (h B σ).nz
theorem pureY_ofC {C : Sto → Prop} {P : Program} {f : FuncId} {fn : Func} {args : List AV} {v : AV} {sc : SC} {rs : List ResultVar} (hm : P.follows .mixedOrders = true) (hf : P.funcs[f]? = some fn) (hc : annC fn = some sc) (hr : fn.results.toList = rs) (hn : args.length ≤ fn.ntmps)
    (h : ∀ B σ, C σ → ClosedS B σ → (∀ c ∈ args, c.sz) → SW P B [] σ sc (HQ (EndY P B σ rs fun v' σ' => v' = v ∧ σ' = σ)) (entry 0 args) []) : PureC C P f args v := by
  unfold PureC
  intro B σ hC
  refine own_of hm hf hc hr hn fun hcl hsz => ?_
  unfold HQ
  refine SW_mono sc (fun e a l h => ?_) (h B σ hC hcl hsz)
  unfold HQ at h
  unfold EndW
  cases e
  · exact ⟨_, _, Wk.nzL _ _ _ _ _, h⟩
  · exact ⟨_, _, Wk.nzL _ _ _ _ _, h⟩
  · exact h
/-- what a hand holds -/
def handO (g : GeoD) (s : DevD × Int) : AO := .box [I g.ring, I g.area, I g.hot, I g.volume, I g.volumes, .d (.ro (s.1.safe.map secRow)), .d (.ro (s.1.cache.map WrD.row)), .d (.ro (s.1.vols.map VolD.row)), I s.1.fuel, I s.2]
theorem handO_eq {g : GeoD} {s : DevD × Int} {x : DevD} {e : Int} (h : s = (x, e)) : AO.box [I g.ring, I g.area, I g.hot, I g.volume, I g.volumes, .d (.ro (x.safe.map secRow)), .d (.ro (x.cache.map WrD.row)), .d (.ro (x.vols.map VolD.row)), I x.fuel, I e] = handO g s := by subst h; rfl
theorem sto_same {n : Nat} {o o' : AO} {σ : Sto} (h : σ n = o) (h2 : o = o') : σ = sto [(n, o')] σ := by
  funext m
  simp only [sto]
  split
  · rename_i e; subst e; rw [h, h2]
  · rfl
theorem step_stop {g : GeoD} {s : DevD × Int} {t : TodD} (h : (s.2 != 0) = true) : stepF g s t = s := by unfold stepF; rw [h]; rfl
theorem step_go {g : GeoD} {d : DevD} {t : TodD} {e e0 : Int} (h : (e0 != 0) = false) (he : stepE g d t = e) (h0 : (e == 0) = true) : stepF g (d, e0) t = (stepD g d t, e) := by
  have : e = 0 := by simpa using h0
  subst this
  have : e0 = 0 := by simpa using h
  subst this
  unfold stepF; simp only [he]; rfl
theorem step_no {g : GeoD} {d : DevD} {t : TodD} {e e0 : Int} (h : (e0 != 0) = false) (he : stepE g d t = e) (h0 : (e == 0) = false) : stepF g (d, e0) t = (d, e) := by
  have : e0 = 0 := by simpa using h
  subst this
  unfold stepF; simp only [he, h0]; rfl
theorem hput_p (g : GeoD) (s : DevD × Int) (at_ : Int) (b : List UInt8) (hw : s.1.fit) (B : Nat) (σ : Sto) (n : Nat) (hn : n < B) (hσ : σ n = handO g s) : ACalls Try.prog 49 [.lp n 0, I at_, .d (bytes b)] σ B [] (fun v σ' => v = .tup [] ∧ σ' = sto [(n, handO g (stepF g s ⟨false, at_, b⟩))] σ) := by
  refine own_of follows Try.func49 c49_eq r49 (Nat.le_of_ble_eq_true rfl) fun hcl hsz => ?_
  clear hsz
  obtain ⟨d, e0⟩ := s
  have y1 : ∀ s, (n = B + s) = False := fun s => by simp; omega
  have y2 : ∀ s, (B + s = n) = False := fun s => by simp; omega
  have y3 : (n < B) = True := eq_true hn
  have y4 : decide (n < B) = true := by simpa using hn
  have hσ' := hσ
  unfold handO at hσ'
  simp only at hσ' hw
  clear hσ
  have y5 : decide (n < B + 100000) = true := by simp; omega
  repeat' (first | (simp -implicitDefEqProofs only [*, contN, contC, Nat.reduceBEq, Bool.or_false, Bool.or_true, Bool.false_or, Bool.true_or, Bool.not_true, Bool.not_false, w_skip, w_ret, w_exit, w_reg, w_dreg, w_seq, SK_n, SK_r, SK_x, w_keep, w_block, w_cond, w_nil, w_cons, w_consg, w_nnil, w_ncons, w_dnil, w_dcons, w_dconsg, HK_app, HD_app, HQ_n, HQ_r, HQ_x, HQ_bn, HQ_br, HQ_bx, HQ_en, HQ_er, HQ_ex, CondB_true, CondB_false, SO1, w_sdv, SDe_alloc, SDe_box, SDe_bslice, SDe_app, true_imp_iff, false_imp_iff, and_false, false_and, not_false_eq_true, not_true_eq_false, addN, mkNames, killT, killD, killO, List.foldl_nil, List.foldl_cons, List.append_nil, List.nil_append, List.cons_append, GuardS_true, GuardS_false, GuardD_true, GuardD_false, DK_true, DK_false, lt_self_add, le_self_add, decide_true, decide_false, Bool.false_eq_true, Bool.true_eq_false, Nat.add_left_cancel_iff, SE, SEalloc, SEbox, SEstore, w_bs, SEbl, SEfz, SEbs0, fzName, osOf, AV.fz1, w_app, w_mk, aev, opd, Fr.get, putO, Fr.norm, List.map_cons, List.map_nil, with1, with2, onInt, AV.lit, entry, ↓reduceIte, Nat.reduceEqDiff, Nat.reduceAdd, reduceCtorEq, true_and, and_true, Option.map_some, Option.map_none, Option.bind_some, Option.bind_none, cond_true, cond_false, binV, unV, fieldV, loadV, sto, cellsAV, newF, newL, Fr.map, Loc.kill, Loc.set, AO.kill, AV.kill, AV.mapN, AV.mapNL, List.filter_nil, List.filter_cons, allP, EndV, retV, resV, resL, frz, dropL, AV.pick, nilV, tupV, imp_self, ne_eq, Int.cast_ofNat_Int, Int.reduceLT, Int.reduceToNat, List.getD_cons_zero, List.getD_cons_succ, bsliceV, buildV, afill, repl, chunk, rvs, AV.rv, RV.nrm, List.getElem?_nil, List.append_assoc, Nat.reduceMul, Nat.reducePow, Nat.zero_lt_succ, Nat.zero_add, Nat.add_zero, List.length_cons, List.length_nil, Nat.reduceLeDiff, Nat.le_refl, List.take_succ_cons, List.take_zero, List.drop_succ_cons, List.drop_zero, indexV, lenV, rowOf_mapD, rowOf_mapI, rowOf_mapA, List.length_map, Int.toNat_natCast, List.getElem?_cons_zero, List.getElem?_cons_succ, and_self, implies_true, if_true, if_false, HQ_zn, HQ_zr, HQ_wn, HQ_wr, AV.nz, AV.nzL, RV.nrm, SEbin, SEnil, nilK, srcV, dstV, appName, List.length_append, Nat.mul_one, take_map_len, take_map_app, List.getElem?_cons_zero, List.map_append, c49, r49, u49_1, v49_2, v49_3, v49_4, v49_5, m49_5, u49_6, u49_7, u49_8, u49_9, u49_10, ty78, ty30, ty23, ty28, y1, y2, y3, y4, GeoD.av, DevD.av, bytes, bne_self_eq_false]) | (with_reducible refine And.intro ?_ ?_) | (refine call_ro e45 ( put_p g d at_ b hw) rfl ?_ ?_ ?_ ?_) | (refine gcall_ro e45 ( put_p g d at_ b hw) rfl ?_ ?_ ?_ ?_) | (refine dcall_ro e45 ( put_p g d at_ b hw) rfl ?_ ?_ ?_ ?_) | (refine gdcall_ro rfl e45 ( put_p g d at_ b hw) rfl ?_ ?_ ?_ ?_) | (refine EndX.plain ?_) | (refine nil_split (fun hn => ?_) (fun hn => ?_)) | (refine gcall_no not_false ?_) | (refine gdcall_no not_false ?_) | (refine GuardS_of _ _ _ _ _ _ (fun hg => ?_) (fun hg => ?_)) | (refine GuardD_of _ _ _ _ (fun hg => ?_) (fun hg => ?_)) | (refine CondB_of _ _ _ _ _ _ _ ?_ (fun hg => ?_) (fun hg => ?_)))
  all_goals (try (first | ((first | unfold noN | unfold Fr.below | unfold Loc.below); simp [Fr.allN, AV.allN, AV.allNL, AO.allN]; done) | rfl | trivial | assumption | (intro row hrow; simp only [List.mem_map] at hrow; obtain ⟨x, _, rfl⟩ := hrow; rfl) | (refine Wk.keep hcl ?_ ?_ ?_; (focus (simp [Fr.get, y1, y2, y3, y4, GeoD.av, DevD.av, bytes, bne_self_eq_false] <;> fail)); (focus (simp [sto, y1, y2, y3, y4, GeoD.av, DevD.av, bytes, bne_self_eq_false] <;> fail)); (focus (simp <;> fail))) | (simp [allP, opd, Fr.get, Fr.below, Fr.allN, AV.allN, AV.allNL, Loc.below, AO.allN, noN, killO, killT, killD, mkNames, AO.kill, AV.kill, AV.mapN, AV.mapNL]; done) | (with_reducible exact ltD (by assumption)) | omega | (simp only [decide_eq_true_eq, decide_eq_false_iff_not] at *; omega)))
  all_goals (try (first
    | (simp [avName, loadNames, opd, Fr.get, y1, y2]; done)
    | (simp [noN, Fr.below, Loc.below, Fr.allN, AV.allN, AV.allNL, AO.allN, y5, y1]; done)))
  all_goals first
    | (rw [step_stop (by assumption)]; exact sto_same hσ' rfl)
    | (rw [step_go (by assumption) rfl (by assumption)]; rfl)
    | (rw [step_no (by assumption) rfl (by assumption)]; rfl)
theorem hflush_p (g : GeoD) (s : DevD × Int) (hw : s.1.fit) (B : Nat) (σ : Sto) (n : Nat) (hn : n < B) (hσ : σ n = handO g s) : ACalls Try.prog 51 [.lp n 0] σ B [] (fun v σ' => v = .tup [] ∧ σ' = sto [(n, handO g (stepF g s ⟨true, 0, []⟩))] σ) := by
  refine own_of follows Try.func51 c51_eq r51 (Nat.le_of_ble_eq_true rfl) fun hcl hsz => ?_
  clear hsz
  obtain ⟨d, e0⟩ := s
  have y1 : ∀ s, (n = B + s) = False := fun s => by simp; omega
  have y2 : ∀ s, (B + s = n) = False := fun s => by simp; omega
  have y3 : (n < B) = True := eq_true hn
  have y4 : decide (n < B) = true := by simpa using hn
  have hσ' := hσ
  unfold handO at hσ'
  simp only at hσ' hw
  clear hσ
  have y5 : decide (n < B + 100000) = true := by simp; omega
  repeat' (first | (simp -implicitDefEqProofs only [*, contN, contC, Nat.reduceBEq, Bool.or_false, Bool.or_true, Bool.false_or, Bool.true_or, Bool.not_true, Bool.not_false, w_skip, w_ret, w_exit, w_reg, w_dreg, w_seq, SK_n, SK_r, SK_x, w_keep, w_block, w_cond, w_nil, w_cons, w_consg, w_nnil, w_ncons, w_dnil, w_dcons, w_dconsg, HK_app, HD_app, HQ_n, HQ_r, HQ_x, HQ_bn, HQ_br, HQ_bx, HQ_en, HQ_er, HQ_ex, CondB_true, CondB_false, SO1, w_sdv, SDe_alloc, SDe_box, SDe_bslice, SDe_app, true_imp_iff, false_imp_iff, and_false, false_and, not_false_eq_true, not_true_eq_false, addN, mkNames, killT, killD, killO, List.foldl_nil, List.foldl_cons, List.append_nil, List.nil_append, List.cons_append, GuardS_true, GuardS_false, GuardD_true, GuardD_false, DK_true, DK_false, lt_self_add, le_self_add, decide_true, decide_false, Bool.false_eq_true, Bool.true_eq_false, Nat.add_left_cancel_iff, SE, SEalloc, SEbox, SEstore, w_bs, SEbl, SEfz, SEbs0, fzName, osOf, AV.fz1, w_app, w_mk, aev, opd, Fr.get, putO, Fr.norm, List.map_cons, List.map_nil, with1, with2, onInt, AV.lit, entry, ↓reduceIte, Nat.reduceEqDiff, Nat.reduceAdd, reduceCtorEq, true_and, and_true, Option.map_some, Option.map_none, Option.bind_some, Option.bind_none, cond_true, cond_false, binV, unV, fieldV, loadV, sto, cellsAV, newF, newL, Fr.map, Loc.kill, Loc.set, AO.kill, AV.kill, AV.mapN, AV.mapNL, List.filter_nil, List.filter_cons, allP, EndV, retV, resV, resL, frz, dropL, AV.pick, nilV, tupV, imp_self, ne_eq, Int.cast_ofNat_Int, Int.reduceLT, Int.reduceToNat, List.getD_cons_zero, List.getD_cons_succ, bsliceV, buildV, afill, repl, chunk, rvs, AV.rv, RV.nrm, List.getElem?_nil, List.append_assoc, Nat.reduceMul, Nat.reducePow, Nat.zero_lt_succ, Nat.zero_add, Nat.add_zero, List.length_cons, List.length_nil, Nat.reduceLeDiff, Nat.le_refl, List.take_succ_cons, List.take_zero, List.drop_succ_cons, List.drop_zero, indexV, lenV, rowOf_mapD, rowOf_mapI, rowOf_mapA, List.length_map, Int.toNat_natCast, List.getElem?_cons_zero, List.getElem?_cons_succ, and_self, implies_true, if_true, if_false, HQ_zn, HQ_zr, HQ_wn, HQ_wr, AV.nz, AV.nzL, RV.nrm, SEbin, SEnil, nilK, srcV, dstV, appName, List.length_append, Nat.mul_one, take_map_len, take_map_app, List.getElem?_cons_zero, List.map_append, c51, r51, u51_1, v51_2, v51_3, v51_4, v51_5, m51_5, u51_6, u51_7, u51_8, u51_9, u51_10, ty78, ty30, ty23, ty28, y1, y2, y3, y4, GeoD.av, DevD.av, bytes, bne_self_eq_false]) | (with_reducible refine And.intro ?_ ?_) | (refine call_ro e46 ( flush_p g d hw) rfl ?_ ?_ ?_ ?_) | (refine gcall_ro e46 ( flush_p g d hw) rfl ?_ ?_ ?_ ?_) | (refine dcall_ro e46 ( flush_p g d hw) rfl ?_ ?_ ?_ ?_) | (refine gdcall_ro rfl e46 ( flush_p g d hw) rfl ?_ ?_ ?_ ?_) | (refine EndX.plain ?_) | (refine nil_split (fun hn => ?_) (fun hn => ?_)) | (refine gcall_no not_false ?_) | (refine gdcall_no not_false ?_) | (refine GuardS_of _ _ _ _ _ _ (fun hg => ?_) (fun hg => ?_)) | (refine GuardD_of _ _ _ _ (fun hg => ?_) (fun hg => ?_)) | (refine CondB_of _ _ _ _ _ _ _ ?_ (fun hg => ?_) (fun hg => ?_)))
  all_goals (try (first | ((first | unfold noN | unfold Fr.below | unfold Loc.below); simp [Fr.allN, AV.allN, AV.allNL, AO.allN]; done) | rfl | trivial | assumption | (intro row hrow; simp only [List.mem_map] at hrow; obtain ⟨x, _, rfl⟩ := hrow; rfl) | (refine Wk.keep hcl ?_ ?_ ?_; (focus (simp [Fr.get, y1, y2, y3, y4, GeoD.av, DevD.av, bytes, bne_self_eq_false] <;> fail)); (focus (simp [sto, y1, y2, y3, y4, GeoD.av, DevD.av, bytes, bne_self_eq_false] <;> fail)); (focus (simp <;> fail))) | (simp [allP, opd, Fr.get, Fr.below, Fr.allN, AV.allN, AV.allNL, Loc.below, AO.allN, noN, killO, killT, killD, mkNames, AO.kill, AV.kill, AV.mapN, AV.mapNL]; done) | (with_reducible exact ltD (by assumption)) | omega | (simp only [decide_eq_true_eq, decide_eq_false_iff_not] at *; omega)))
  all_goals (try (first
    | (simp [avName, loadNames, opd, Fr.get, y1, y2]; done)
    | (simp [noN, Fr.below, Loc.below, Fr.allN, AV.allN, AV.allNL, AO.allN, y5, y1]; done)))
  all_goals first
    | (rw [step_stop (by assumption)]; exact sto_same hσ' rfl)
    | (rw [step_go (by assumption) rfl (by assumption)]; rfl)
    | (rw [step_no (by assumption) rfl (by assumption)]; rfl)
theorem hend_p (g : GeoD) (s : DevD × Int) (j : JrnD) (n : Nat) : PureC (fun σ => σ n = handO g s) Try.prog 52 [.lp n 0, .agg [I j.gen, I j.epoch, I j.area, I j.length, I j.start, I j.first, I j.place, I j.next, I j.used]] (doneV s j) := by
  refine pureY_ofC follows Try.func52 c52_eq r52 (Nat.le_of_ble_eq_true rfl) fun B σ hC hcl _ => ?_
  have hn : n < B := by
    rcases Nat.lt_or_ge n B with h | h
    · exact h
    · rw [(hcl n).2 h] at hC; cases hC
  have y1 : ∀ s, (n = B + s) = False := fun s => by simp; omega
  have y2 : ∀ s, (B + s = n) = False := fun s => by simp; omega
  have y3 : (n < B) = True := eq_true hn
  obtain ⟨d, e0⟩ := s
  unfold handO at hC
  simp only at hC
  have y5 : decide (n < B + 100000) = true := by simp; omega
  repeat' (first | (simp -implicitDefEqProofs only [*, contN, contC, Nat.reduceBEq, Bool.or_false, Bool.or_true, Bool.false_or, Bool.true_or, Bool.not_true, Bool.not_false, w_skip, w_ret, w_exit, w_reg, w_dreg, w_seq, SK_n, SK_r, SK_x, w_keep, w_block, w_cond, w_nil, w_cons, w_consg, w_nnil, w_ncons, w_dnil, w_dcons, w_dconsg, HK_app, HD_app, HQ_n, HQ_r, HQ_x, HQ_bn, HQ_br, HQ_bx, HQ_en, HQ_er, HQ_ex, CondB_true, CondB_false, SO1, w_sdv, SDe_alloc, SDe_box, SDe_bslice, SDe_app, true_imp_iff, false_imp_iff, and_false, false_and, not_false_eq_true, not_true_eq_false, addN, mkNames, killT, killD, killO, List.foldl_nil, List.foldl_cons, List.append_nil, List.nil_append, List.cons_append, GuardS_true, GuardS_false, GuardD_true, GuardD_false, DK_true, DK_false, lt_self_add, le_self_add, decide_true, decide_false, Bool.false_eq_true, Bool.true_eq_false, Nat.add_left_cancel_iff, SE, SEalloc, SEbox, SEstore, w_bs, SEbl, SEfz, SEbs0, fzName, osOf, AV.fz1, w_app, w_mk, aev, opd, Fr.get, putO, Fr.norm, List.map_cons, List.map_nil, with1, with2, onInt, AV.lit, entry, ↓reduceIte, Nat.reduceEqDiff, Nat.reduceAdd, reduceCtorEq, true_and, and_true, Option.map_some, Option.map_none, Option.bind_some, Option.bind_none, cond_true, cond_false, binV, unV, fieldV, loadV, sto, cellsAV, newF, newL, Fr.map, Loc.kill, Loc.set, AO.kill, AV.kill, AV.mapN, AV.mapNL, List.filter_nil, List.filter_cons, allP, EndV, retV, resV, resL, frz, dropL, AV.pick, nilV, tupV, imp_self, ne_eq, Int.cast_ofNat_Int, Int.reduceLT, Int.reduceToNat, List.getD_cons_zero, List.getD_cons_succ, bsliceV, buildV, afill, repl, chunk, rvs, AV.rv, RV.nrm, List.getElem?_nil, List.append_assoc, Nat.reduceMul, Nat.reducePow, Nat.zero_lt_succ, Nat.zero_add, Nat.add_zero, List.length_cons, List.length_nil, Nat.reduceLeDiff, Nat.le_refl, List.take_succ_cons, List.take_zero, List.drop_succ_cons, List.drop_zero, indexV, lenV, rowOf_mapD, rowOf_mapI, rowOf_mapA, List.length_map, Int.toNat_natCast, List.getElem?_cons_zero, List.getElem?_cons_succ, and_self, implies_true, if_true, if_false, HQ_zn, HQ_zr, HQ_wn, HQ_wr, AV.nz, AV.nzL, RV.nrm, SEbin, SEnil, nilK, srcV, dstV, appName, List.length_append, Nat.mul_one, take_map_len, take_map_app, List.getElem?_cons_zero, List.map_append, c52, r52, u52_1, v52_2, u52_3, u52_4, u52_5, u52_6, u52_7, u52_8, u52_9, ty47, ty28, ty78, ty30, y1, y2, y3, GeoD.av, DevD.av, bytes, bne_self_eq_false, HQ_yn, HQ_yr, Loc.nz, AO.nz]) | (with_reducible refine And.intro ?_ ?_) | (refine EndX.plain ?_) | (refine nil_split (fun hn => ?_) (fun hn => ?_)) | (refine gcall_no not_false ?_) | (refine gdcall_no not_false ?_) | (refine GuardS_of _ _ _ _ _ _ (fun hg => ?_) (fun hg => ?_)) | (refine GuardD_of _ _ _ _ (fun hg => ?_) (fun hg => ?_)) | (refine CondB_of _ _ _ _ _ _ _ ?_ (fun hg => ?_) (fun hg => ?_)))
  all_goals (try (first | ((first | unfold noN | unfold Fr.below | unfold Loc.below); simp [Fr.allN, AV.allN, AV.allNL, AO.allN]; done) | rfl | trivial | assumption | (intro row hrow; simp only [List.mem_map] at hrow; obtain ⟨x, _, rfl⟩ := hrow; rfl) | (refine Wk.keep hcl ?_ ?_ ?_; (focus (simp [Fr.get, y1, y2, y3, GeoD.av, DevD.av, bytes, bne_self_eq_false, HQ_yn, HQ_yr, Loc.nz, AO.nz] <;> fail)); (focus (simp [sto, y1, y2, y3, GeoD.av, DevD.av, bytes, bne_self_eq_false, HQ_yn, HQ_yr, Loc.nz, AO.nz] <;> fail)); (focus (simp <;> fail))) | (simp [allP, opd, Fr.get, Fr.below, Fr.allN, AV.allN, AV.allNL, Loc.below, AO.allN, noN, killO, killT, killD, mkNames, AO.kill, AV.kill, AV.mapN, AV.mapNL]; done) | (with_reducible exact ltD (by assumption)) | omega | (simp only [decide_eq_true_eq, decide_eq_false_iff_not] at *; omega)))
  all_goals (try (first
    | (simp [avName, loadNames, opd, Fr.get, y1, y2]; done)
    | (simp [noN, Fr.below, Loc.below, Fr.allN, AV.allN, AV.allNL, AO.allN, y5, y1]; done)))
  all_goals first
    | (have h0 : e0 = 0 := by simpa using (by assumption : (e0 == 0) = true)
       subst h0; rfl)
    | (have h0 : e0 = 10 := by simpa using (by assumption : (e0 == 10) = true)
       subst h0; rfl)
    | exact done_e rfl (by assumption) (by simpa using (by assumption : (e0 == 0) = false))
theorem handO_allN (g : GeoD) (s : DevD × Int) (q : Nat → Bool) : (handO g s).allN q = true := rfl
theorem handO_kill (g : GeoD) (s : DevD × Int) (n : Nat) : (handO g s).kill n = handO g s := rfl
theorem handO_nz (g : GeoD) (s : DevD × Int) : (handO g s).nz = handO g s := rfl
end Go.Proofs.Ytkcfnhfbdcnhjaa
