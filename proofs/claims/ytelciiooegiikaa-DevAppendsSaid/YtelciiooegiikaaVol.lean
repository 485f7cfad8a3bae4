/- Volumes that are there. -/
import Derived.Test.YtelciiooegiikaaDevE
import Derived.Test.YtelciiooegiikaaTypes
namespace Go.Proofs.Ytelciiooegiikaa
open Go.RowKit
set_option maxRecDepth 100000
def o11_1 : List SO := ((SO.mk (some 21) (.un .not (.tmp 20)) (some (14 , true))) :: (SO.mk (some 22) (.pick (.tmp 14) (.tmp 21) (.const (Value.bool false))) none) :: (SO.mk (some 4) (.move (.tmp 22)) none) :: [])
theorem v11_1 : type_of% (@swl _ _ o11_1.eq_1) := @swl _ _ o11_1.eq_1
def o11_2 : List SO := ((SO.mk (some 17) (.move (.tmp 1)) (some (14 , true))) :: (SO.mk (some 18) (.iaddr 26 (.tmp 16) (.tmp 17)) (some (14 , true))) :: (SO.mk (some 19) (.faddr 41 (.tmp 18) 2) (some (14 , true))) :: (SO.mk (some 20) (.load 4 (.tmp 19)) (some (14 , true))) :: o11_1)
theorem v11_2 : type_of% (@swl _ _ o11_2.eq_1) := @swl _ _ o11_2.eq_1
def o11_3 : List SO := ((SO.mk (some 13) (.pick (.tmp 7) (.tmp 12) (.const (Value.bool false))) none) :: (SO.mk (some 14) (.move (.tmp 13)) none) :: (SO.mk (some 15) (.faddr 28 (.tmp 2) 2) (some (14 , true))) :: (SO.mk (some 16) (.load 26 (.tmp 15)) (some (14 , true))) :: o11_2)
theorem v11_3 : type_of% (@swl _ _ o11_3.eq_1) := @swl _ _ o11_3.eq_1
def o11_4 : List SO := ((SO.mk (some 9) (.faddr 28 (.tmp 2) 2) (some (7 , true))) :: (SO.mk (some 10) (.load 26 (.tmp 9)) (some (7 , true))) :: (SO.mk (some 11) (.len 26 (.tmp 10)) (some (7 , true))) :: (SO.mk (some 12) (.bin .lss 3 (.tmp 8) (.tmp 11)) (some (7 , true))) :: o11_3)
theorem v11_4 : type_of% (@swl _ _ o11_4.eq_1) := @swl _ _ o11_4.eq_1
def c11_5 : SC := (.seq (.reg ((SO.mk (some 5) (.move (.tmp 1)) none) :: (SO.mk (some 6) (.bin .geq 3 (.tmp 5) (.const (Value.int .i64 0))) none) :: (SO.mk (some 7) (.move (.tmp 6)) none) :: (SO.mk (some 8) (.move (.tmp 1)) (some (7 , true))) :: o11_4)) (.keep [4] .ret))
theorem u11_5 : type_of% (@swc _ _ c11_5.eq_1) := @swc _ _ c11_5.eq_1
def c11 : SC := (.seq (.reg [SO.mk (some 2) (.box 28 (.tmp 0)) none, SO.mk (some 4) (.move (.const (Value.bool false))) none]) (.keep [2, 1] c11_5))
theorem c11_eq : annC Try.f11 = some c11 := by kernel_rfl
theorem r11 : Try.f11.results.toList = [.tmp 4] := by kernel_rfl
theorem e11 : enters Try.prog 11 = true := by kernel_rfl
def o14_1 : List SO := ((SO.mk (some 17) (.load 4 (.tmp 16)) (some (11 , true))) :: (SO.mk (some 18) (.un .not (.tmp 17)) (some (11 , true))) :: (SO.mk (some 19) (.pick (.tmp 11) (.tmp 18) (.const (Value.bool false))) none) :: (SO.mk (some 4) (.move (.tmp 19)) none) :: [])
theorem v14_1 : type_of% (@swl _ _ o14_1.eq_1) := @swl _ _ o14_1.eq_1
def o14_2 : List SO := ((SO.mk (some 13) (.load 26 (.tmp 12)) (some (11 , true))) :: (SO.mk (some 14) (.move (.tmp 1)) (some (11 , true))) :: (SO.mk (some 15) (.iaddr 26 (.tmp 13) (.tmp 14)) (some (11 , true))) :: (SO.mk (some 16) (.faddr 41 (.tmp 15) 2) (some (11 , true))) :: o14_1)
theorem v14_2 : type_of% (@swl _ _ o14_2.eq_1) := @swl _ _ o14_2.eq_1
def o14_3 : List SO := ((SO.mk (some 9) (.bin .sub 3 (.tmp 8) (.const (Value.int .i64 1))) none) :: (SO.mk (some 10) (.call 28 [(.tmp 5), (.const (Value.int .i64 0)), (.tmp 9)]) none) :: (SO.mk (some 11) (.move (.tmp 10)) none) :: (SO.mk (some 12) (.faddr 28 (.tmp 2) 2) (some (11 , true))) :: o14_2)
theorem v14_3 : type_of% (@swl _ _ o14_3.eq_1) := @swl _ _ o14_3.eq_1
def c14_4 : SC := (.seq (.reg ((SO.mk (some 5) (.move (.tmp 1)) none) :: (SO.mk (some 6) (.faddr 28 (.tmp 2) 2) none) :: (SO.mk (some 7) (.load 26 (.tmp 6)) none) :: (SO.mk (some 8) (.len 26 (.tmp 7)) none) :: o14_3)) (.keep [4] .ret))
theorem u14_4 : type_of% (@swc _ _ c14_4.eq_1) := @swc _ _ c14_4.eq_1
def c14 : SC := (.seq (.reg [SO.mk (some 2) (.box 28 (.tmp 0)) none, SO.mk (some 4) (.move (.const (Value.bool false))) none]) (.keep [2, 1] c14_4))
theorem c14_eq : annC Try.f14 = some c14 := by kernel_rfl
theorem r14 : Try.f14.results.toList = [.tmp 4] := by kernel_rfl
theorem e14 : enters Try.prog 14 = true := by kernel_rfl
end Go.Proofs.Ytelciiooegiikaa
namespace Go.Proofs.Ytelciiooegiikaa
open Go.RowKit
set_option maxHeartbeats 4000000
set_option maxRecDepth 20000
attribute [local irreducible] SW OSW SWL SWLn SWD SEcall SEcallv SDv SE SO1 SOg ACalls ACallv Wk EndV
set_option linter.unusedSimpArgs false
set_option linter.unusedVariables false
def volB (d : DevD) (v : Int) : Bool := decide (v ≥ 0) && (decide (v < d.vols.length) && !(d.vols[v.toNat]!).gone)
theorem volB_row {d : DevD} {v : Int} (h : volB d v = true) : 0 ≤ v ∧ v < d.vols.length ∧ rowOf (d.vols.map VolD.row) v.toNat = VolD.row d.vols[v.toNat]! := by
  simp only [volB, Bool.and_eq_true, decide_eq_true_eq] at h
  exact ⟨h.1, h.2.1, rowOf_map _ _ _ (by omega)⟩
theorem volB_or (d : DevD) (v : Int) : volB d v = false ∨ (volB d v = true ∧ 0 ≤ v ∧ v < d.vols.length ∧ rowOf (d.vols.map VolD.row) v.toNat = VolD.row d.vols[v.toNat]!) := by
  rcases Bool.eq_false_or_eq_true (volB d v) with h | h
  · exact .inr ⟨h, volB_row h⟩
  · exact .inl h
theorem volume_p (d : DevD) (v : Int) : Pure Try.prog 11 [d.av, I v] (Bo (volB d v)) := by
  refine pureZ_of follows Try.func11 c11_eq r11 (Nat.le_of_ble_eq_true rfl) fun B σ hcl hsz => ?_
  obtain ⟨z1, z2, z3⟩ := dev_sz (hsz d.av (by simp))
  clear hsz
  repeat' (first | (simp -implicitDefEqProofs only [*, contN, contC, Nat.reduceBEq, Bool.or_false, Bool.or_true, Bool.false_or, Bool.true_or, Bool.not_true, Bool.not_false, SEconv, w_skip, w_ret, w_exit, w_reg, w_dreg, w_oreg, HO_app, w_odone, w_onil, w_ofst, w_obr, w_seq, SK_n, SK_r, SK_x, w_keep, w_block, w_cond, w_nil, w_cons, w_consg, w_nnil, w_ncons, w_dnil, w_dcons, w_dconsg, HK_app, HD_app, HQ_n, HQ_r, HQ_x, HQ_bn, HQ_br, HQ_bx, HQ_en, HQ_er, HQ_ex, CondB_true, CondB_false, SO1, w_sdv, SDe_alloc, SDe_box, SDe_bslice, SDe_app, true_imp_iff, false_imp_iff, and_false, false_and, not_false_eq_true, not_true_eq_false, addN, mkNames, killT, killD, killO, List.foldl_nil, List.foldl_cons, List.append_nil, List.nil_append, List.cons_append, GuardS_true, GuardS_false, GuardD_true, GuardD_false, DK_true, DK_false, lt_self_add, le_self_add, decide_true, decide_false, Bool.false_eq_true, Bool.true_eq_false, Nat.add_left_cancel_iff, SE, SEalloc, SEbox, SEstore, w_bs, SEbl, SEfz, SEbs0, fzName, osOf, AV.fz1, w_app, w_mk, aev, opd, Fr.get, putO, Fr.norm, List.map_cons, List.map_nil, with1, with2, onInt, AV.lit, entry, ↓reduceIte, Nat.reduceEqDiff, Nat.reduceAdd, reduceCtorEq, true_and, and_true, Option.map_some, Option.map_none, Option.bind_some, Option.bind_none, cond_true, cond_false, binV, unV, fieldV, loadV, sto, cellsAV, newF, newL, Fr.map, Loc.kill, Loc.set, AO.kill, AV.kill, AV.mapN, AV.mapNL, List.filter_nil, List.filter_cons, allP, EndV, retV, resV, resL, frz, dropL, AV.pick, nilV, tupV, imp_self, ne_eq, Int.cast_ofNat_Int, Int.reduceLT, Int.reduceToNat, List.getD_cons_zero, List.getD_cons_succ, bsliceV, buildV, afill, repl, chunk, rvs, AV.rv, RV.nrm, List.getElem?_nil, List.append_assoc, Nat.reduceMul, Nat.reducePow, Nat.zero_lt_succ, Nat.zero_add, Nat.add_zero, List.length_cons, List.length_nil, Nat.reduceLeDiff, Nat.le_refl, List.take_succ_cons, List.take_zero, List.drop_succ_cons, List.drop_zero, indexV, lenV, rowOf_mapD, rowOf_mapI, rowOf_mapA, List.length_map, Int.toNat_natCast, List.getElem?_cons_zero, List.getElem?_cons_succ, and_self, implies_true, if_true, if_false, HQ_zn, HQ_zr, HQ_wn, HQ_wr, AV.nz, AV.nzL, RV.nrm, SEbin, SEnil, nilK, srcV, dstV, appName, List.length_append, Nat.mul_one, take_map_len, take_map_app, List.getElem?_cons_zero, List.map_append, SEmkmap, SEmset, mgetV, kvOf, getM, setM, w_bsH, SEapA, SEapB, bsliceA, c11, r11, v11_1, v11_2, v11_3, v11_4, u11_5, ty28, ty3, ty26, ty41, ty4, DevD.av, VolD.row]) | (with_reducible refine And.intro ?_ ?_) | (refine EndX.plain ?_) | (refine nil_split (fun hn => ?_) (fun hn => ?_)) | (refine gcall_no not_false ?_) | (refine gdcall_no not_false ?_) | (refine GuardS_of _ _ _ _ _ _ (fun hg => ?_) (fun hg => ?_)) | (refine GuardD_of _ _ _ _ (fun hg => ?_) (fun hg => ?_)) | (refine CondB_of _ _ _ _ _ _ _ ?_ (fun hg => ?_) (fun hg => ?_)))
  all_goals (try (first | ((first | unfold noN | unfold Fr.below | unfold Loc.below); simp [Fr.allN, AV.allN, AV.allNL, AO.allN]; done) | rfl | trivial | assumption | (intro row hrow; simp only [List.mem_map] at hrow; obtain ⟨x, _, rfl⟩ := hrow; rfl) | (refine Wk.keep hcl ?_ ?_ ?_; (focus (simp [Fr.get, DevD.av, VolD.row] <;> fail)); (focus (simp [sto, DevD.av, VolD.row] <;> fail)); (focus (simp <;> fail))) | (simp [allP, opd, Fr.get, Fr.below, Fr.allN, AV.allN, AV.allNL, Loc.below, AO.allN, noN, killO, killT, killD, mkNames, AO.kill, AV.kill, AV.mapN, AV.mapNL]; done) | (with_reducible exact ltD (by assumption)) | omega | (simp only [decide_eq_true_eq, decide_eq_false_iff_not] at *; omega)))
  all_goals (try (simp only [Bool.not_eq_true', Bool.not_eq_false'] at *))
  all_goals (try (simp only [volB, *, Bool.false_or, Bool.true_or, Bool.or_true, Bool.or_false, Bool.and_true, Bool.true_and, Bool.false_and, Bool.and_false, Bool.not_true, Bool.not_false, cond_true, cond_false, reduceIte]; done))
theorem In_idx (v : Int) (n : Nat) (hn : n ≤ 2 ^ 47) : Pure Try.prog 28 [I v, I 0, I (IntKind.i64.wrap ((n : Int) - 1))] (Bo (decide (v ≥ 0) && decide (v < n))) := by
  have h := In_p v 0 (IntKind.i64.wrap ((n : Int) - 1))
  rw [IntWalk.i64_in _ (by omega)] at h ⊢
  have e : inR v 0 ((n : Int) - 1) = (decide (v ≥ 0) && decide (v < n)) := by
    unfold inR; congr 1; exact decide_eq_decide.2 (by omega)
  rw [e] at h; exact h
theorem volumeMay_p (d : DevD) (v : Int) : Pure Try.prog 14 [d.av, I v] (Bo (volB d v)) := by
  refine pureZ_of follows Try.func14 c14_eq r14 (Nat.le_of_ble_eq_true rfl) fun B σ hcl hsz => ?_
  obtain ⟨z1, z2, z3⟩ := dev_sz (hsz d.av (by simp))
  clear hsz
  repeat' (first | (simp -implicitDefEqProofs only [*, contN, contC, Nat.reduceBEq, Bool.or_false, Bool.or_true, Bool.false_or, Bool.true_or, Bool.not_true, Bool.not_false, SEconv, w_skip, w_ret, w_exit, w_reg, w_dreg, w_oreg, HO_app, w_odone, w_onil, w_ofst, w_obr, w_seq, SK_n, SK_r, SK_x, w_keep, w_block, w_cond, w_nil, w_cons, w_consg, w_nnil, w_ncons, w_dnil, w_dcons, w_dconsg, HK_app, HD_app, HQ_n, HQ_r, HQ_x, HQ_bn, HQ_br, HQ_bx, HQ_en, HQ_er, HQ_ex, CondB_true, CondB_false, SO1, w_sdv, SDe_alloc, SDe_box, SDe_bslice, SDe_app, true_imp_iff, false_imp_iff, and_false, false_and, not_false_eq_true, not_true_eq_false, addN, mkNames, killT, killD, killO, List.foldl_nil, List.foldl_cons, List.append_nil, List.nil_append, List.cons_append, GuardS_true, GuardS_false, GuardD_true, GuardD_false, DK_true, DK_false, lt_self_add, le_self_add, decide_true, decide_false, Bool.false_eq_true, Bool.true_eq_false, Nat.add_left_cancel_iff, SE, SEalloc, SEbox, SEstore, w_bs, SEbl, SEfz, SEbs0, fzName, osOf, AV.fz1, w_app, w_mk, aev, opd, Fr.get, putO, Fr.norm, List.map_cons, List.map_nil, with1, with2, onInt, AV.lit, entry, ↓reduceIte, Nat.reduceEqDiff, Nat.reduceAdd, reduceCtorEq, true_and, and_true, Option.map_some, Option.map_none, Option.bind_some, Option.bind_none, cond_true, cond_false, binV, unV, fieldV, loadV, sto, cellsAV, newF, newL, Fr.map, Loc.kill, Loc.set, AO.kill, AV.kill, AV.mapN, AV.mapNL, List.filter_nil, List.filter_cons, allP, EndV, retV, resV, resL, frz, dropL, AV.pick, nilV, tupV, imp_self, ne_eq, Int.cast_ofNat_Int, Int.reduceLT, Int.reduceToNat, List.getD_cons_zero, List.getD_cons_succ, bsliceV, buildV, afill, repl, chunk, rvs, AV.rv, RV.nrm, List.getElem?_nil, List.append_assoc, Nat.reduceMul, Nat.reducePow, Nat.zero_lt_succ, Nat.zero_add, Nat.add_zero, List.length_cons, List.length_nil, Nat.reduceLeDiff, Nat.le_refl, List.take_succ_cons, List.take_zero, List.drop_succ_cons, List.drop_zero, indexV, lenV, rowOf_mapD, rowOf_mapI, rowOf_mapA, List.length_map, Int.toNat_natCast, List.getElem?_cons_zero, List.getElem?_cons_succ, and_self, implies_true, if_true, if_false, HQ_zn, HQ_zr, HQ_wn, HQ_wr, AV.nz, AV.nzL, RV.nrm, SEbin, SEnil, nilK, srcV, dstV, appName, List.length_append, Nat.mul_one, take_map_len, take_map_app, List.getElem?_cons_zero, List.map_append, SEmkmap, SEmset, mgetV, kvOf, getM, setM, w_bsH, SEapA, SEapB, bsliceA, c14, r14, v14_1, v14_2, v14_3, u14_4, ty28, ty26, ty3, ty41, ty4, DevD.av, VolD.row]) | (with_reducible refine And.intro ?_ ?_) | (refine call_ro e28 ( In_idx _ _ z3) rfl ?_ ?_ ?_ ?_) | (refine gcall_ro e28 ( In_idx _ _ z3) rfl ?_ ?_ ?_ ?_) | (refine dcall_ro e28 ( In_idx _ _ z3) rfl ?_ ?_ ?_ ?_) | (refine gdcall_ro rfl e28 ( In_idx _ _ z3) rfl ?_ ?_ ?_ ?_) | (refine EndX.plain ?_) | (refine nil_split (fun hn => ?_) (fun hn => ?_)) | (refine gcall_no not_false ?_) | (refine gdcall_no not_false ?_) | (refine GuardS_of _ _ _ _ _ _ (fun hg => ?_) (fun hg => ?_)) | (refine GuardD_of _ _ _ _ (fun hg => ?_) (fun hg => ?_)) | (refine CondB_of _ _ _ _ _ _ _ ?_ (fun hg => ?_) (fun hg => ?_)))
  all_goals (try (first | ((first | unfold noN | unfold Fr.below | unfold Loc.below); simp [Fr.allN, AV.allN, AV.allNL, AO.allN]; done) | rfl | trivial | assumption | (intro row hrow; simp only [List.mem_map] at hrow; obtain ⟨x, _, rfl⟩ := hrow; rfl) | (refine Wk.keep hcl ?_ ?_ ?_; (focus (simp [Fr.get, DevD.av, VolD.row] <;> fail)); (focus (simp [sto, DevD.av, VolD.row] <;> fail)); (focus (simp <;> fail))) | (simp [allP, opd, Fr.get, Fr.below, Fr.allN, AV.allN, AV.allNL, Loc.below, AO.allN, noN, killO, killT, killD, mkNames, AO.kill, AV.kill, AV.mapN, AV.mapNL]; done) | (with_reducible exact ltD (by assumption)) | omega | (simp only [decide_eq_true_eq, decide_eq_false_iff_not] at *; omega)))
  all_goals (try (simp only [Bool.and_eq_true, decide_eq_true_eq] at hg; omega))
  all_goals (simp only [volB]; simp_all)
end Go.Proofs.Ytelciiooegiikaa
