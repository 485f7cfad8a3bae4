/- dev.Fetch and the reference's. -/
import Derived.Test.YtgjjpjeagkaiaaaVol
import Derived.Test.YtgjjpjeagkaiaaaBytes
import Derived.Test.YtgjjpjeagkaiaaaCodeFetch
namespace Go.Proofs.Ytgjjpjeagkaiaaa
open Go.RowKit
set_option maxHeartbeats 4000000
set_option maxRecDepth 20000
attribute [local irreducible] SW SWL SWLn SWD SEcall SEcallv SDv SE SO1 SOg ACalls ACallv Wk EndV
set_option linter.unusedSimpArgs false
set_option linter.unusedVariables false
theorem devF_or (g : GeoD) (d : DevD) : devF g d = 0 ∨ ((devF g d == 0) = false ∧ (devF g d != 0) = true) := by
  by_cases h : devF g d = 0
  · exact .inl h
  · exact .inr ⟨by simpa using h, by simpa using h⟩
theorem vol_sz {d : DevD} (h : d.av.sz) {i : Nat} (hi : i < d.vols.length) : (d.vols[i]!).data.length ≤ 2 ^ 47 := by
  simp only [DevD.av, AV.sz] at h
  have h3 := h (.d (.ro (d.vols.map VolD.row))) (by simp)
  have := (Sized.cell h3 (r := VolD.row d.vols[i]!) (List.mem_map.2 ⟨d.vols[i]!, by simp [hi], rfl⟩) (c := bytes (d.vols[i]!).data) (by simp [VolD.row])).len
  simpa using this
def outB (len : Nat) (a n : Int) : Bool := decide (a < 0) || (decide (n < 0) || (decide (a > (len : Int)) || decide (n > IntKind.i64.wrap ((len : Int) - a))))
def fetchE (g : GeoD) (d : DevD) (v a n : Int) : Int := bif devF g d != 0 then devF g d else bif !volB d v then 6 else bif outB (d.vols[v.toNat]!).data.length a n then 2 else 0
def fetchB (g : GeoD) (d : DevD) (v a n : Int) : List UInt8 := bif fetchE g d v a n == 0 then ((d.vols[v.toNat]!).data.drop a.toNat).take n.toNat else []
theorem fetch_err {g : GeoD} {d : DevD} {v a n e : Int} (h : fetchE g d v a n = e) (he : (e == 0) = false) : AV.tup [.d (.ro []), I e] = AV.tup [.d (.ro ((fetchB g d v a n).map by_)), I (fetchE g d v a n)] := by
  subst h; simp only [fetchB, he, cond_false, List.map_nil]
theorem fetch_ok {g : GeoD} {d : DevD} {v a n : Int} (h : fetchE g d v a n = 0) {l : List UInt8} (hl : l = ((d.vols[v.toNat]!).data.drop a.toNat).take n.toNat) : AV.tup [.d (.ro (l.map by_)), I 0] = AV.tup [.d (.ro ((fetchB g d v a n).map by_)), I (fetchE g d v a n)] := by
  subst hl; simp only [fetchB, h]; rfl
theorem Rows_by (l : List UInt8) : Rows (l.map by_) 1 = True := by
  refine eq_true ?_
  intro r hr
  simp only [List.mem_map] at hr; obtain ⟨x, _, rfl⟩ := hr; rfl
theorem fetch_p (g : GeoD) (d : DevD) (v a n : Int) : Pure Try.prog 6 [g.av, d.av, I v, I a, I n] (.tup [.d (bytes (fetchB g d v a n)), I (fetchE g d v a n)]) := by
  refine pureZ_of follows Try.func6 c6_eq r6 (Nat.le_of_ble_eq_true rfl) fun B σ hcl hsz => ?_
  obtain ⟨z1, z2, z3⟩ := dev_sz (hsz d.av (by simp))
  have hv : volB d v = true → (d.vols[v.toNat]!).data.length ≤ 2 ^ 47 := fun h => vol_sz (hsz d.av (by simp)) (by have := volB_row h; omega)
  clear hsz
  rcases volB_or d v with hb | ⟨hb, h0, h1, hr⟩
  repeat' (first | (simp -implicitDefEqProofs only [*, contN, contC, Nat.reduceBEq, Bool.or_false, Bool.or_true, Bool.false_or, Bool.true_or, Bool.not_true, Bool.not_false, w_skip, w_ret, w_exit, w_reg, w_dreg, w_seq, SK_n, SK_r, SK_x, w_keep, w_block, w_cond, w_nil, w_cons, w_consg, w_nnil, w_ncons, w_dnil, w_dcons, w_dconsg, HK_app, HD_app, HQ_n, HQ_r, HQ_x, HQ_bn, HQ_br, HQ_bx, HQ_en, HQ_er, HQ_ex, CondB_true, CondB_false, SO1, w_sdv, SDe_alloc, SDe_box, SDe_bslice, SDe_app, true_imp_iff, false_imp_iff, and_false, false_and, not_false_eq_true, not_true_eq_false, addN, mkNames, killT, killD, killO, List.foldl_nil, List.foldl_cons, List.append_nil, List.nil_append, List.cons_append, GuardS_true, GuardS_false, GuardD_true, GuardD_false, DK_true, DK_false, lt_self_add, le_self_add, decide_true, decide_false, Bool.false_eq_true, Bool.true_eq_false, Nat.add_left_cancel_iff, SE, SEalloc, SEbox, SEstore, w_bs, SEbl, SEfz, SEbs0, fzName, osOf, AV.fz1, w_app, w_mk, aev, opd, Fr.get, putO, Fr.norm, List.map_cons, List.map_nil, with1, with2, onInt, AV.lit, entry, ↓reduceIte, Nat.reduceEqDiff, Nat.reduceAdd, reduceCtorEq, true_and, and_true, Option.map_some, Option.map_none, Option.bind_some, Option.bind_none, cond_true, cond_false, binV, unV, fieldV, loadV, sto, cellsAV, newF, newL, Fr.map, Loc.kill, Loc.set, AO.kill, AV.kill, AV.mapN, AV.mapNL, List.filter_nil, List.filter_cons, allP, EndV, retV, resV, resL, frz, dropL, AV.pick, nilV, tupV, imp_self, ne_eq, Int.cast_ofNat_Int, Int.reduceLT, Int.reduceToNat, List.getD_cons_zero, List.getD_cons_succ, bsliceV, buildV, afill, repl, chunk, rvs, AV.rv, RV.nrm, List.getElem?_nil, List.append_assoc, Nat.reduceMul, Nat.reducePow, Nat.zero_lt_succ, Nat.zero_add, Nat.add_zero, List.length_cons, List.length_nil, Nat.reduceLeDiff, Nat.le_refl, List.take_succ_cons, List.take_zero, List.drop_succ_cons, List.drop_zero, indexV, lenV, rowOf_mapD, rowOf_mapI, rowOf_mapA, List.length_map, Int.toNat_natCast, List.getElem?_cons_zero, List.getElem?_cons_succ, and_self, implies_true, if_true, if_false, HQ_zn, HQ_zr, HQ_wn, HQ_wr, AV.nz, AV.nzL, RV.nrm, SEbin, SEnil, nilK, srcV, dstV, appName, List.length_append, Nat.mul_one, take_map_len, take_map_app, List.getElem?_cons_zero, List.map_append, c6, r6, u6_1, u6_2, u6_3, u6_4, u6_5, v6_6, v6_7, v6_8, v6_9, v6_10, u6_11, u6_12, v6_13, v6_14, u6_15, u6_16, u6_17, u6_18, u6_19, ty23, ty28, ty32, ty26, ty43, ty31, ty3, ty5, GeoD.av, DevD.av, VolD.row, bytes, ← List.map_take, ← List.map_drop, bnd, sliceV, Option.getD_some, Option.getD_none, Rows_by]) | (with_reducible refine And.intro ?_ ?_) | (refine call_ro e12 ( check_p g d) rfl ?_ ?_ ?_ ?_) | (refine gcall_ro e12 ( check_p g d) rfl ?_ ?_ ?_ ?_) | (refine dcall_ro e12 ( check_p g d) rfl ?_ ?_ ?_ ?_) | (refine gdcall_ro rfl e12 ( check_p g d) rfl ?_ ?_ ?_ ?_) | (refine call_ro e13 ( volume_p d v) rfl ?_ ?_ ?_ ?_) | (refine gcall_ro e13 ( volume_p d v) rfl ?_ ?_ ?_ ?_) | (refine dcall_ro e13 ( volume_p d v) rfl ?_ ?_ ?_ ?_) | (refine gdcall_ro rfl e13 ( volume_p d v) rfl ?_ ?_ ?_ ?_) | (refine call_ro e14 ( clone_p _) rfl ?_ ?_ ?_ ?_) | (refine gcall_ro e14 ( clone_p _) rfl ?_ ?_ ?_ ?_) | (refine dcall_ro e14 ( clone_p _) rfl ?_ ?_ ?_ ?_) | (refine gdcall_ro rfl e14 ( clone_p _) rfl ?_ ?_ ?_ ?_) | (refine EndX.plain ?_) | (refine nil_split (fun hn => ?_) (fun hn => ?_)) | (refine gcall_no not_false ?_) | (refine gdcall_no not_false ?_) | (refine GuardS_of _ _ _ _ _ _ (fun hg => ?_) (fun hg => ?_)) | (refine GuardD_of _ _ _ _ (fun hg => ?_) (fun hg => ?_)) | (refine CondB_of _ _ _ _ _ _ _ ?_ (fun hg => ?_) (fun hg => ?_)))
  all_goals (try (first | ((first | unfold noN | unfold Fr.below | unfold Loc.below); simp [Fr.allN, AV.allN, AV.allNL, AO.allN]; done) | rfl | trivial | assumption | (intro row hrow; simp only [List.mem_map] at hrow; obtain ⟨x, _, rfl⟩ := hrow; rfl) | (refine Wk.keep hcl ?_ ?_ ?_; (focus (simp [Fr.get, GeoD.av, DevD.av, VolD.row, bytes, ← List.map_take, ← List.map_drop, bnd, sliceV, Option.getD_some, Option.getD_none, Rows_by] <;> fail)); (focus (simp [sto, GeoD.av, DevD.av, VolD.row, bytes, ← List.map_take, ← List.map_drop, bnd, sliceV, Option.getD_some, Option.getD_none, Rows_by] <;> fail)); (focus (simp <;> fail))) | (simp [allP, opd, Fr.get, Fr.below, Fr.allN, AV.allN, AV.allNL, Loc.below, AO.allN, noN, killO, killT, killD, mkNames, AO.kill, AV.kill, AV.mapN, AV.mapNL]; done) | (with_reducible exact ltD (by assumption)) | omega | (simp only [decide_eq_true_eq, decide_eq_false_iff_not] at *; omega)))
  all_goals (try (refine fetch_err ?_ ?_))
  all_goals (try (first | (simp only [fetchE, *, Bool.false_or, Bool.true_or, Bool.or_true, Bool.or_false, Bool.and_true, Bool.true_and, Bool.false_and, Bool.and_false, Bool.not_true, Bool.not_false, cond_true, cond_false]; done) | (simp only [fetchE]; grind [outB]) | grind))
  all_goals (
    have hv := hv hb
    have ho : outB (d.vols[v.toNat]!).data.length a n = false := by grind [outB]
    have ho' := ho
    simp only [outB, Bool.or_eq_false_iff, decide_eq_false_iff_not] at ho'
    have hz : IntKind.i64.wrap (((d.vols[v.toNat]!).data.length : Int) - a) = ((d.vols[v.toNat]!).data.length : Int) - a := IntWalk.i64_in _ (by omega)
    rw [hz] at ho'
    have hw : IntKind.i64.wrap (a + n) = a + n := IntWalk.i64_in _ (by omega)
    rw [hw]
    first
    | omega
    | (refine fetch_ok ?_ ?_
       · simp only [fetchE, ho, *, Bool.false_or, Bool.true_or, Bool.or_true, Bool.or_false, Bool.and_true, Bool.true_and, Bool.false_and, Bool.and_false, Bool.not_true, Bool.not_false, cond_true, cond_false]
       · congr 1; omega))
theorem sz_take {l : List UInt8} (h : l.length ≤ 2 ^ 47) (a n : Nat) : [List.take n (List.drop a l)].flatten.length ≤ 2 ^ 47 := by
  simp only [List.flatten_cons, List.flatten_nil, List.append_nil, List.length_take, List.length_drop]; omega
theorem fetchedOf_p (g : GeoD) (d : DevD) (v a n : Int) : Pure Try.prog 10 [g.av, d.av, I v, I a, I n] (.tup [.d (bytes (fetchB g d v a n)), I (fetchE g d v a n)]) := by
  refine pureZ_of follows Try.func10 c10_eq r10 (Nat.le_of_ble_eq_true rfl) fun B σ hcl hsz => ?_
  obtain ⟨z1, z2, z3⟩ := dev_sz (hsz d.av (by simp))
  have hv : volB d v = true → (d.vols[v.toNat]!).data.length ≤ 2 ^ 47 := fun h => vol_sz (hsz d.av (by simp)) (by have := volB_row h; omega)
  clear hsz
  rcases devF_or g d with he | ⟨he, he'⟩
  all_goals rcases volB_or d v with hb | ⟨hb, h0, h1, hr⟩
  repeat' (first | (simp -implicitDefEqProofs only [*, contN, contC, Nat.reduceBEq, Bool.or_false, Bool.or_true, Bool.false_or, Bool.true_or, Bool.not_true, Bool.not_false, w_skip, w_ret, w_exit, w_reg, w_dreg, w_seq, SK_n, SK_r, SK_x, w_keep, w_block, w_cond, w_nil, w_cons, w_consg, w_nnil, w_ncons, w_dnil, w_dcons, w_dconsg, HK_app, HD_app, HQ_n, HQ_r, HQ_x, HQ_bn, HQ_br, HQ_bx, HQ_en, HQ_er, HQ_ex, CondB_true, CondB_false, SO1, w_sdv, SDe_alloc, SDe_box, SDe_bslice, SDe_app, true_imp_iff, false_imp_iff, and_false, false_and, not_false_eq_true, not_true_eq_false, addN, mkNames, killT, killD, killO, List.foldl_nil, List.foldl_cons, List.append_nil, List.nil_append, List.cons_append, GuardS_true, GuardS_false, GuardD_true, GuardD_false, DK_true, DK_false, lt_self_add, le_self_add, decide_true, decide_false, Bool.false_eq_true, Bool.true_eq_false, Nat.add_left_cancel_iff, SE, SEalloc, SEbox, SEstore, w_bs, SEbl, SEfz, SEbs0, fzName, osOf, AV.fz1, w_app, w_mk, aev, opd, Fr.get, putO, Fr.norm, List.map_cons, List.map_nil, with1, with2, onInt, AV.lit, entry, ↓reduceIte, Nat.reduceEqDiff, Nat.reduceAdd, reduceCtorEq, true_and, and_true, Option.map_some, Option.map_none, Option.bind_some, Option.bind_none, cond_true, cond_false, binV, unV, fieldV, loadV, sto, cellsAV, newF, newL, Fr.map, Loc.kill, Loc.set, AO.kill, AV.kill, AV.mapN, AV.mapNL, List.filter_nil, List.filter_cons, allP, EndV, retV, resV, resL, frz, dropL, AV.pick, nilV, tupV, imp_self, ne_eq, Int.cast_ofNat_Int, Int.reduceLT, Int.reduceToNat, List.getD_cons_zero, List.getD_cons_succ, bsliceV, buildV, afill, repl, chunk, rvs, AV.rv, RV.nrm, List.getElem?_nil, List.append_assoc, Nat.reduceMul, Nat.reducePow, Nat.zero_lt_succ, Nat.zero_add, Nat.add_zero, List.length_cons, List.length_nil, Nat.reduceLeDiff, Nat.le_refl, List.take_succ_cons, List.take_zero, List.drop_succ_cons, List.drop_zero, indexV, lenV, rowOf_mapD, rowOf_mapI, rowOf_mapA, List.length_map, Int.toNat_natCast, List.getElem?_cons_zero, List.getElem?_cons_succ, and_self, implies_true, if_true, if_false, HQ_zn, HQ_zr, HQ_wn, HQ_wr, AV.nz, AV.nzL, RV.nrm, SEbin, SEnil, nilK, srcV, dstV, appName, List.length_append, Nat.mul_one, take_map_len, take_map_app, List.getElem?_cons_zero, List.map_append, c10, r10, v10_1, u10_2, u10_3, u10_4, v10_5, v10_6, v10_7, v10_8, u10_9, u10_10, v10_11, v10_12, u10_13, u10_14, u10_15, u10_16, u10_17, u10_18, ty23, ty28, ty32, ty26, ty43, ty31, ty3, ty24, ty5, GeoD.av, DevD.av, VolD.row, secRow, bytes, ← List.map_take, ← List.map_drop, bnd, sliceV, Option.getD_some, Option.getD_none, Rows_by]) | (with_reducible refine And.intro ?_ ?_) | (refine call_ro e15 ( devFault_p g d) rfl ?_ ?_ ?_ ?_) | (refine gcall_ro e15 ( devFault_p g d) rfl ?_ ?_ ?_ ?_) | (refine dcall_ro e15 ( devFault_p g d) rfl ?_ ?_ ?_ ?_) | (refine gdcall_ro rfl e15 ( devFault_p g d) rfl ?_ ?_ ?_ ?_) | (refine call_ro e16 ( volumeMay_p d v) rfl ?_ ?_ ?_ ?_) | (refine gcall_ro e16 ( volumeMay_p d v) rfl ?_ ?_ ?_ ?_) | (refine dcall_ro e16 ( volumeMay_p d v) rfl ?_ ?_ ?_ ?_) | (refine gdcall_ro rfl e16 ( volumeMay_p d v) rfl ?_ ?_ ?_ ?_) | (refine call_ro e9 ( In_p _ _ _) rfl ?_ ?_ ?_ ?_) | (refine gcall_ro e9 ( In_p _ _ _) rfl ?_ ?_ ?_ ?_) | (refine dcall_ro e9 ( In_p _ _ _) rfl ?_ ?_ ?_ ?_) | (refine gdcall_ro rfl e9 ( In_p _ _ _) rfl ?_ ?_ ?_ ?_) | (refine call_ro e17 ( joined_p [_] (sz_take (hv hb) _ _)) rfl ?_ ?_ ?_ ?_) | (refine gcall_ro e17 ( joined_p [_] (sz_take (hv hb) _ _)) rfl ?_ ?_ ?_ ?_) | (refine dcall_ro e17 ( joined_p [_] (sz_take (hv hb) _ _)) rfl ?_ ?_ ?_ ?_) | (refine gdcall_ro rfl e17 ( joined_p [_] (sz_take (hv hb) _ _)) rfl ?_ ?_ ?_ ?_) | (refine EndX.plain ?_) | (refine nil_split (fun hn => ?_) (fun hn => ?_)) | (refine gcall_no not_false ?_) | (refine gdcall_no not_false ?_) | (refine GuardS_of _ _ _ _ _ _ (fun hg => ?_) (fun hg => ?_)) | (refine GuardD_of _ _ _ _ (fun hg => ?_) (fun hg => ?_)) | (refine CondB_of _ _ _ _ _ _ _ ?_ (fun hg => ?_) (fun hg => ?_)))
  all_goals (try (first | ((first | unfold noN | unfold Fr.below | unfold Loc.below); simp [Fr.allN, AV.allN, AV.allNL, AO.allN]; done) | rfl | trivial | assumption | (intro row hrow; simp only [List.mem_map] at hrow; obtain ⟨x, _, rfl⟩ := hrow; rfl) | (refine Wk.keep hcl ?_ ?_ ?_; (focus (simp [Fr.get, GeoD.av, DevD.av, VolD.row, secRow, bytes, ← List.map_take, ← List.map_drop, bnd, sliceV, Option.getD_some, Option.getD_none, Rows_by] <;> fail)); (focus (simp [sto, GeoD.av, DevD.av, VolD.row, secRow, bytes, ← List.map_take, ← List.map_drop, bnd, sliceV, Option.getD_some, Option.getD_none, Rows_by] <;> fail)); (focus (simp <;> fail))) | (simp [allP, opd, Fr.get, Fr.below, Fr.allN, AV.allN, AV.allNL, Loc.below, AO.allN, noN, killO, killT, killD, mkNames, AO.kill, AV.kill, AV.mapN, AV.mapNL]; done) | (with_reducible exact ltD (by assumption)) | omega | (simp only [decide_eq_true_eq, decide_eq_false_iff_not] at *; omega)))
  all_goals (try (refine fetch_err ?_ ?_))
  all_goals (try (first | (simp only [fetchE, *, Bool.false_or, Bool.true_or, Bool.or_true, Bool.or_false, Bool.and_true, Bool.true_and, Bool.false_and, Bool.and_false, Bool.not_true, Bool.not_false, cond_true, cond_false]; done) | (simp only [fetchE]; grind [outB, inR]) | grind))
  all_goals (
    have hv := hv hb
    have ho : outB (d.vols[v.toNat]!).data.length a n = false := by grind [outB, inR]
    have ho' := ho
    simp only [outB, Bool.or_eq_false_iff, decide_eq_false_iff_not] at ho'
    have hz : IntKind.i64.wrap (((d.vols[v.toNat]!).data.length : Int) - a) = ((d.vols[v.toNat]!).data.length : Int) - a := IntWalk.i64_in _ (by omega)
    rw [hz] at ho'
    have hw : IntKind.i64.wrap (a + n) = a + n := IntWalk.i64_in _ (by omega)
    try rw [hw]
    first
    | omega
    | (refine fetch_ok ?_ ?_
       · simp only [fetchE, ho, *, Bool.false_or, Bool.true_or, Bool.or_true, Bool.or_false, Bool.and_true, Bool.true_and, Bool.false_and, Bool.and_false, Bool.not_true, Bool.not_false, cond_true, cond_false]
       · simp only [List.flatten_cons, List.flatten_nil, List.append_nil]; congr 1; omega))
end Go.Proofs.Ytgjjpjeagkaiaaa
