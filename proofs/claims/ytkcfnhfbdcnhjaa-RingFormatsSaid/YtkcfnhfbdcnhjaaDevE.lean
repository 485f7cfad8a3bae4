/- Devices that may be: the reference's check. -/
import Derived.Test.YtkcfnhfbdcnhjaaDevD
import Derived.Test.YtkcfnhfbdcnhjaaCodeDevE
namespace Go.Proofs.Ytkcfnhfbdcnhjaa
open Go.RowKit
set_option maxHeartbeats 4000000
set_option maxRecDepth 20000
attribute [local irreducible] SW SWL SWLn SWD SEcall SEcallv SDv SE SO1 SOg ACalls ACallv Wk EndV
set_option linter.unusedSimpArgs false
set_option linter.unusedVariables false
theorem any_of {α : Type} [Inhabited α] {xs : List α} {p : α → Bool} {k : Nat} (h : k < xs.length) (hp : p xs[k]! = true) : xs.any p = true := by
  rw [List.any_eq_true]; exact ⟨xs[k]!, by simp [h], hp⟩
theorem any_no {α : Type} [Inhabited α] {xs : List α} {p : α → Bool} {k : Nat} (h : xs.length ≤ k) (hF : ∀ i, i < k → p xs[i]! = false) : xs.any p = false := by
  rw [List.any_eq_false]
  intro x hx
  obtain ⟨i, hi, rfl⟩ := List.mem_iff_getElem.1 hx
  have := hF i (by omega)
  simp [hi] at this; simp [this]
theorem all_next {α : Type} [Inhabited α] {xs : List α} {p : α → Bool} {k : Nat} (hF : ∀ i, i < k → p xs[i]! = false) (hp : p xs[k]! = false) : ∀ i, i < k + 1 → p xs[i]! = false := by
  intro i hi
  rcases Nat.lt_or_ge i k with h | h
  · exact hF i h
  · have : i = k := by omega
    subst this; exact hp
theorem dev_sz {d : DevD} (h : d.av.sz) : d.safe.length ≤ 2 ^ 47 ∧ d.cache.length ≤ 2 ^ 47 ∧ d.vols.length ≤ 2 ^ 47 := by
  simp only [DevD.av, AV.sz] at h
  have h1 := h (.d (.ro (d.safe.map secRow))) (by simp)
  have h2 := h (.d (.ro (d.cache.map WrD.row))) (by simp)
  have h3 := h (.d (.ro (d.vols.map VolD.row))) (by simp)
  exact ⟨by simpa using Sized.len h1, by simpa using Sized.len h2, by simpa using Sized.len h3⟩
theorem devFault_p (g : GeoD) (d : DevD) : Pure Try.prog 35 [g.av, d.av] (I (devF g d)) := by
  refine pure_of follows Try.func35 c35_eq r35 (Nat.le_of_ble_eq_true rfl) fun B σ hcl hsz => ?_
  obtain ⟨z1, z2, z3⟩ := dev_sz (hsz d.av (by simp))
  clear hsz
  have hw1 : IntKind.i64.wrap ((d.safe.length : Int) - 1) = (d.safe.length : Int) - 1 := IntWalk.i64_in _ (by omega)
  repeat' (first | (simp -implicitDefEqProofs only [*, contN, contC, Nat.reduceBEq, Bool.or_false, Bool.or_true, Bool.false_or, Bool.true_or, Bool.not_true, Bool.not_false, w_skip, w_ret, w_exit, w_reg, w_dreg, w_seq, SK_n, SK_r, SK_x, w_keep, w_block, w_cond, w_nil, w_cons, w_consg, w_nnil, w_ncons, w_dnil, w_dcons, w_dconsg, HK_app, HD_app, HQ_n, HQ_r, HQ_x, HQ_bn, HQ_br, HQ_bx, HQ_en, HQ_er, HQ_ex, CondB_true, CondB_false, SO1, w_sdv, SDe_alloc, SDe_box, SDe_bslice, SDe_app, true_imp_iff, false_imp_iff, and_false, false_and, not_false_eq_true, not_true_eq_false, addN, mkNames, killT, killD, killO, List.foldl_nil, List.foldl_cons, List.append_nil, List.nil_append, List.cons_append, GuardS_true, GuardS_false, GuardD_true, GuardD_false, DK_true, DK_false, lt_self_add, le_self_add, decide_true, decide_false, Bool.false_eq_true, Bool.true_eq_false, Nat.add_left_cancel_iff, SE, SEalloc, SEbox, SEstore, w_bs, SEbl, SEfz, SEbs0, fzName, osOf, AV.fz1, w_app, w_mk, aev, opd, Fr.get, putO, Fr.norm, List.map_cons, List.map_nil, with1, with2, onInt, AV.lit, entry, ↓reduceIte, Nat.reduceEqDiff, Nat.reduceAdd, reduceCtorEq, true_and, and_true, Option.map_some, Option.map_none, Option.bind_some, Option.bind_none, cond_true, cond_false, binV, unV, fieldV, loadV, sto, cellsAV, newF, newL, Fr.map, Loc.kill, Loc.set, AO.kill, AV.kill, AV.mapN, AV.mapNL, List.filter_nil, List.filter_cons, allP, EndV, retV, resV, resL, frz, dropL, AV.pick, nilV, tupV, imp_self, ne_eq, Int.cast_ofNat_Int, Int.reduceLT, Int.reduceToNat, List.getD_cons_zero, List.getD_cons_succ, bsliceV, buildV, afill, repl, chunk, rvs, AV.rv, RV.nrm, List.getElem?_nil, List.append_assoc, Nat.reduceMul, Nat.reducePow, Nat.zero_lt_succ, Nat.zero_add, Nat.add_zero, List.length_cons, List.length_nil, Nat.reduceLeDiff, Nat.le_refl, List.take_succ_cons, List.take_zero, List.drop_succ_cons, List.drop_zero, indexV, lenV, rowOf_mapD, rowOf_mapI, rowOf_mapA, List.length_map, Int.toNat_natCast, List.getElem?_cons_zero, List.getElem?_cons_succ, and_self, implies_true, if_true, if_false, HQ_zn, HQ_zr, HQ_wn, HQ_wr, AV.nz, AV.nzL, RV.nrm, SEbin, SEnil, nilK, srcV, dstV, appName, List.length_append, Nat.mul_one, take_map_len, take_map_app, List.getElem?_cons_zero, List.map_append, c35, r35, u35_1, u35_2, v35_3, v35_4, v35_5, v35_6, v35_7, v35_8, v35_9, m35_9, u35_10, u35_11, u35_12, v35_13, u35_14, u35_15, u35_16, u35_17, u35_18, u35_19, u35_20, v35_21, v35_22, v35_23, v35_24, v35_25, v35_26, m35_26, u35_27, u35_28, u35_29, u35_30, u35_31, u35_32, u35_33, v35_34, v35_35, v35_36, v35_37, v35_38, v35_39, v35_40, u35_41, u35_42, u35_43, u35_44, u35_45, u35_46, u35_47, u35_48, u35_49, u35_50, u35_51, u35_52, u35_53, u35_54, ty23, ty28, ty30, ty24, ty3, ty25, ty26, ty29, ty61, ty65, ty4, ty5, GeoD.av, DevD.av, GeoD.cells, DevD.cells, noN, geoOk_of, secRow, bytes, WrD.row, VolD.row]) | (with_reducible refine And.intro ?_ ?_) | (refine call_ro e73 ( geoFault_p g) rfl ?_ ?_ ?_ ?_) | (refine gcall_ro e73 ( geoFault_p g) rfl ?_ ?_ ?_ ?_) | (refine dcall_ro e73 ( geoFault_p g) rfl ?_ ?_ ?_ ?_) | (refine gdcall_ro rfl e73 ( geoFault_p g) rfl ?_ ?_ ?_ ?_) | (refine call_ro e74 ( sectorsOf_p g) rfl ?_ ?_ ?_ ?_) | (refine gcall_ro e74 ( sectorsOf_p g) rfl ?_ ?_ ?_ ?_) | (refine dcall_ro e74 ( sectorsOf_p g) rfl ?_ ?_ ?_ ?_) | (refine gdcall_ro rfl e74 ( sectorsOf_p g) rfl ?_ ?_ ?_ ?_) | (refine call_ro e36 ( In_p _ _ _) rfl ?_ ?_ ?_ ?_) | (refine gcall_ro e36 ( In_p _ _ _) rfl ?_ ?_ ?_ ?_) | (refine dcall_ro e36 ( In_p _ _ _) rfl ?_ ?_ ?_ ?_) | (refine gdcall_ro rfl e36 ( In_p _ _ _) rfl ?_ ?_ ?_ ?_) | (refine loop_nat (d.safe.length) (fun k => ∀ i, i < k → badS d.safe[i]! = false) (fun k => [(6, I k), (2, .lp (B + 2) 0), (3, .lp (B + 3) 0)]) (fun k => [(B + 2, .box g.cells), (B + 3, .box d.cells)]) ?_ (Wk.keep hcl ?_ ?_ ?_) fun k hk hF => ?_; rotate_left 1; (focus (simp [Fr.get, newF, Fr.map, AV.kill, AV.mapN, GeoD.av, DevD.av, GeoD.cells, DevD.cells, noN, geoOk_of, secRow, bytes, WrD.row, VolD.row] <;> fail)); (focus (simp [sto, newL, Loc.kill, Loc.set, AO.kill, AV.kill, AV.mapN, GeoD.av, DevD.av, GeoD.cells, DevD.cells, noN, geoOk_of, secRow, bytes, WrD.row, VolD.row] <;> fail)); (focus (simp [newL, Loc.kill, Loc.set, GeoD.av, DevD.av, GeoD.cells, DevD.cells, noN, geoOk_of, secRow, bytes, WrD.row, VolD.row] <;> fail)); (try have hw : IntKind.i64.wrap ((k : Int) + 1) = (k : Int) + 1 := IntWalk.i64_in _ (by omega))) | (refine loop_nat (d.cache.length) (fun k => ∀ i, i < k → badW d.safe.length d.cache[i]! = false) (fun k => [(7, I k), (2, .lp (B + 2) 0), (3, .lp (B + 3) 0)]) (fun k => [(B + 2, .box g.cells), (B + 3, .box d.cells)]) ?_ (Wk.keep hcl ?_ ?_ ?_) fun k hk hF => ?_; rotate_left 1; (focus (simp [Fr.get, newF, Fr.map, AV.kill, AV.mapN, GeoD.av, DevD.av, GeoD.cells, DevD.cells, noN, geoOk_of, secRow, bytes, WrD.row, VolD.row] <;> fail)); (focus (simp [sto, newL, Loc.kill, Loc.set, AO.kill, AV.kill, AV.mapN, GeoD.av, DevD.av, GeoD.cells, DevD.cells, noN, geoOk_of, secRow, bytes, WrD.row, VolD.row] <;> fail)); (focus (simp [newL, Loc.kill, Loc.set, GeoD.av, DevD.av, GeoD.cells, DevD.cells, noN, geoOk_of, secRow, bytes, WrD.row, VolD.row] <;> fail)); (try have hw : IntKind.i64.wrap ((k : Int) + 1) = (k : Int) + 1 := IntWalk.i64_in _ (by omega))) | (refine loop_nat (d.vols.length) (fun k => ∀ i, i < k → badV g d.vols[i]! = false) (fun k => [(8, I k), (2, .lp (B + 2) 0), (3, .lp (B + 3) 0)]) (fun k => [(B + 2, .box g.cells), (B + 3, .box d.cells)]) ?_ (Wk.keep hcl ?_ ?_ ?_) fun k hk hF => ?_; rotate_left 1; (focus (simp [Fr.get, newF, Fr.map, AV.kill, AV.mapN, GeoD.av, DevD.av, GeoD.cells, DevD.cells, noN, geoOk_of, secRow, bytes, WrD.row, VolD.row] <;> fail)); (focus (simp [sto, newL, Loc.kill, Loc.set, AO.kill, AV.kill, AV.mapN, GeoD.av, DevD.av, GeoD.cells, DevD.cells, noN, geoOk_of, secRow, bytes, WrD.row, VolD.row] <;> fail)); (focus (simp [newL, Loc.kill, Loc.set, GeoD.av, DevD.av, GeoD.cells, DevD.cells, noN, geoOk_of, secRow, bytes, WrD.row, VolD.row] <;> fail)); (try have hw : IntKind.i64.wrap ((k : Int) + 1) = (k : Int) + 1 := IntWalk.i64_in _ (by omega))) | (refine EndX.plain ?_) | (refine nil_split (fun hn => ?_) (fun hn => ?_)) | (refine gcall_no not_false ?_) | (refine gdcall_no not_false ?_) | (refine GuardS_of _ _ _ _ _ _ (fun hg => ?_) (fun hg => ?_)) | (refine GuardD_of _ _ _ _ (fun hg => ?_) (fun hg => ?_)) | (refine CondB_of _ _ _ _ _ _ _ ?_ (fun hg => ?_) (fun hg => ?_)))
  all_goals (try (first | ((first | unfold noN | unfold Fr.below | unfold Loc.below); simp [Fr.allN, AV.allN, AV.allNL, AO.allN]; done) | rfl | trivial | assumption | (intro row hrow; simp only [List.mem_map] at hrow; obtain ⟨x, _, rfl⟩ := hrow; rfl) | (refine Wk.keep hcl ?_ ?_ ?_; (focus (simp [Fr.get, GeoD.av, DevD.av, GeoD.cells, DevD.cells, noN, geoOk_of, secRow, bytes, WrD.row, VolD.row] <;> fail)); (focus (simp [sto, GeoD.av, DevD.av, GeoD.cells, DevD.cells, noN, geoOk_of, secRow, bytes, WrD.row, VolD.row] <;> fail)); (focus (simp <;> fail))) | (simp [allP, opd, Fr.get, Fr.below, Fr.allN, AV.allN, AV.allNL, Loc.below, AO.allN, noN, killO, killT, killD, mkNames, AO.kill, AV.kill, AV.mapN, AV.mapNL]; done) | (with_reducible exact ltD (by assumption)) | omega | (simp only [decide_eq_true_eq, decide_eq_false_iff_not] at *; omega)))
  all_goals (try (refine all_next hF ?_; (grind [badS, badW, badV, inR])))
  all_goals (try (
    congr 3
    have s1 : d.safe.any badS = false := any_no (geD (by assumption)) (by assumption)
    have s2 : d.cache.any (badW d.safe.length) = false := any_no (geD (by assumption)) (by assumption)
    have s3 : d.vols.any (badV g) = false := any_no (geD (by assumption)) (by assumption)
    have hs := sec_eq (g := g) (by grind)
    simp only [devF, s1, s2, s3, badD, hs]
    (grind [inR])))
  all_goals (try (
    congr 3
    have s1 : d.safe.any badS = false := any_no (geD (by assumption)) (by assumption)
    have s2 : d.cache.any (badW d.safe.length) = false := any_no (geD (by assumption)) (by assumption)
    have s3 : d.vols.any (badV g) = true := any_of (k := k) (ltD (by assumption)) (by grind [badV, inR])
    simp only [devF, s1, s2, s3]
    (grind)))
  all_goals (try (
    congr 3
    have s1 : d.safe.any badS = false := any_no (geD (by assumption)) (by assumption)
    have s2 : d.cache.any (badW d.safe.length) = true := any_of (k := k) (ltD (by assumption)) (by grind [badW, inR])
    simp only [devF, s1, s2]
    (grind)))
  all_goals (try (
    congr 3
    have s1 : d.safe.any badS = true := any_of (k := k) (ltD (by assumption)) (by grind [badS])
    simp only [devF, s1]
    (grind)))
  all_goals (try (
    congr 3
    simp only [devF, badD]
    have hs := sec_eq (g := g)
    (grind [inR, geoF])))
end Go.Proofs.Ytkcfnhfbdcnhjaa
