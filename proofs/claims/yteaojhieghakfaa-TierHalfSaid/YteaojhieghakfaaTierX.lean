/- The laws of what is half empty, and of what is free, walked. -/
import Derived.Test.YteaojhieghakfaaTierM
import Derived.Test.YteaojhieghakfaaHalfOf
import Derived.Test.YteaojhieghakfaaFree
import Derived.Test.YteaojhieghakfaaTypes
namespace Go.Proofs.Yteaojhieghakfaa
open Go.RowKit
set_option maxRecDepth 100000
def o7_1 : List SO := ((SO.mk (some 5) (.move (.tmp 16)) none) :: (SO.mk (some 6) (.move (.tmp 17)) none) :: (SO.mk (some 7) (.move (.tmp 18)) none) :: [])
theorem v7_1 : type_of% (@swd _ _ o7_1.eq_1) := @swd _ _ o7_1.eq_1
def o7_2 : List SO := ((SO.mk (some 11) (.move (.tmp 15)) none) :: (SO.mk (some 16) (.extract (.tmp 11) 0) none) :: (SO.mk (some 17) (.extract (.tmp 11) 1) none) :: (SO.mk (some 18) (.extract (.tmp 11) 2) none) :: o7_1)
theorem v7_2 : type_of% (@swd _ _ o7_2.eq_1) := @swd _ _ o7_2.eq_1
def o7_3 : List SO := ((SO.mk (some 12) (.load 30 (.tmp 2)) none) :: (SO.mk (some 13) (.move (.tmp 1)) none) :: (SO.mk (some 14) (.call 9 [(.tmp 13)]) none) :: (SO.mk (some 15) (.call 18 [(.tmp 12), (.tmp 14)]) none) :: o7_2)
theorem v7_3 : type_of% (@swd _ _ o7_3.eq_1) := @swd _ _ o7_3.eq_1
theorem m7_3 (B : Nat) : mkNames B o7_3 = [] := (rfl)
def o7_4 : List SO := ((SO.mk (some 9) (.move (.tmp 24)) none) :: (SO.mk (some 10) (.move (.tmp 25)) none) :: [])
theorem v7_4 : type_of% (@swl _ _ o7_4.eq_1) := @swl _ _ o7_4.eq_1
def o7_5 : List SO := ((SO.mk (some 23) (.extract (.tmp 19) 0) none) :: (SO.mk (some 24) (.extract (.tmp 19) 1) none) :: (SO.mk (some 25) (.extract (.tmp 19) 2) none) :: (SO.mk (some 8) (.move (.tmp 23)) none) :: o7_4)
theorem v7_5 : type_of% (@swl _ _ o7_5.eq_1) := @swl _ _ o7_5.eq_1
def o7_6 : List SO := ((SO.mk (some 38) (.pick (.tmp 34) (.tmp 37) (.const (Value.bool false))) none) :: (SO.mk (some 4) (.move (.tmp 38)) none) :: [])
theorem v7_6 : type_of% (@swl _ _ o7_6.eq_1) := @swl _ _ o7_6.eq_1
def o7_7 : List SO := ((SO.mk (some 34) (.move (.tmp 33)) none) :: (SO.mk (some 35) (.move (.tmp 6)) (some (34 , true))) :: (SO.mk (some 36) (.move (.tmp 9)) (some (34 , true))) :: (SO.mk (some 37) (.call 13 [(.tmp 35), (.tmp 36)]) (some (34 , true))) :: o7_6)
theorem v7_7 : type_of% (@swl _ _ o7_7.eq_1) := @swl _ _ o7_7.eq_1
def o7_8 : List SO := ((SO.mk (some 30) (.move (.tmp 5)) (some (29 , true))) :: (SO.mk (some 31) (.move (.tmp 8)) (some (29 , true))) :: (SO.mk (some 32) (.bin .eql 3 (.tmp 30) (.tmp 31)) (some (29 , true))) :: (SO.mk (some 33) (.pick (.tmp 29) (.tmp 32) (.const (Value.bool false))) none) :: o7_7)
theorem v7_8 : type_of% (@swl _ _ o7_8.eq_1) := @swl _ _ o7_8.eq_1
def c7_9 : SC := (.seq (.reg ((SO.mk (some 26) (.move (.tmp 7)) none) :: (SO.mk (some 27) (.move (.tmp 10)) none) :: (SO.mk (some 28) (.bin .eql 31 (.tmp 26) (.tmp 27)) none) :: (SO.mk (some 29) (.move (.tmp 28)) none) :: o7_8)) (.keep [4] .ret))
theorem u7_9 : type_of% (@swc _ _ c7_9.eq_1) := @swc _ _ c7_9.eq_1
def c7_10 : SC := (.seq (.reg ((SO.mk (some 20) (.load 30 (.tmp 2)) none) :: (SO.mk (some 21) (.move (.tmp 1)) none) :: (SO.mk (some 22) (.call 19 [(.tmp 20), (.tmp 21)]) none) :: (SO.mk (some 19) (.move (.tmp 22)) none) :: o7_5)) (.keep [7, 10, 5, 8, 6, 9] c7_9))
theorem u7_10 : type_of% (@swc _ _ c7_10.eq_1) := @swc _ _ c7_10.eq_1
def c7_11 : SC := (.seq (.dreg false o7_3 []) (.keep [2, 1, 7, 5, 6] c7_10))
theorem u7_11 : type_of% (@swc _ _ c7_11.eq_1) := @swc _ _ c7_11.eq_1
def c7 : SC := (.seq (.reg [SO.mk (some 2) (.box 30 (.tmp 0)) none, SO.mk (some 4) (.move (.const (Value.bool false))) none]) (.keep [2, 1] c7_11))
theorem c7_eq : annC Try.f7 = some c7 := by kernel_rfl
theorem r7 : Try.f7.results.toList = [.tmp 4] := by kernel_rfl
theorem r6 : Try.f6.results.toList = [.tmp 4] := by kernel_rfl
end Go.Proofs.Yteaojhieghakfaa
namespace Go.Proofs.Yteaojhieghakfaa
open Go.RowKit
set_option maxHeartbeats 4000000
set_option maxRecDepth 20000
attribute [local irreducible] SW SWL SWLn SWD SEcall SEcallv SDv SE SO1 SOg ACalls ACallv Wk EndV
set_option linter.unusedSimpArgs false
set_option linter.unusedVariables false
theorem half_three (s : SttD) (l : List Int) : ∃ (u v : Int) (m : List Int), halfV s l = .tup [I u, .d (ints m), I v] := by
  unfold halfV
  cases mayF s <;> cases (decide ((l.length : Int) > 8) || l.any outP) <;> cases decide (halfI s l < 0) <;> first | exact ⟨_, _, _, rfl⟩ | exact ⟨_, _, [], rfl⟩
theorem tierHalf_p (s : SttD) (hw : s.wf) (l : List Int) (hb : l.length * 8 ≤ 2 ^ 47) : Pure Try.prog 7 [s.av, .d (ints l)] (Bo true) := by
  refine pure_of follows Try.func7 c7_eq r7 (Nat.le_of_ble_eq_true rfl) fun B σ hcl hsz => ?_
  clear hsz
  have h1 := half_p s hw l
  have h2 := halfOf_p s (st_fit hw) (may_p s) l
  obtain ⟨u, v, m, hp⟩ := half_three s l
  rw [hp] at h1 h2
  clear hp
  repeat' (first | (simp -implicitDefEqProofs only [*, contN, contC, Nat.reduceBEq, Bool.or_false, Bool.or_true, Bool.false_or, Bool.true_or, Bool.not_true, Bool.not_false, w_skip, w_ret, w_exit, w_reg, w_dreg, w_seq, SK_n, SK_r, SK_x, w_keep, w_block, w_cond, w_nil, w_cons, w_consg, w_nnil, w_ncons, w_dnil, w_dcons, w_dconsg, HK_app, HD_app, HQ_n, HQ_r, HQ_x, HQ_bn, HQ_br, HQ_bx, HQ_en, HQ_er, HQ_ex, CondB_true, CondB_false, SO1, w_sdv, SDe_alloc, SDe_box, SDe_bslice, SDe_app, true_imp_iff, false_imp_iff, and_false, false_and, not_false_eq_true, not_true_eq_false, addN, mkNames, killT, killD, killO, List.foldl_nil, List.foldl_cons, List.append_nil, List.nil_append, List.cons_append, GuardS_true, GuardS_false, GuardD_true, GuardD_false, DK_true, DK_false, lt_self_add, le_self_add, decide_true, decide_false, Bool.false_eq_true, Bool.true_eq_false, Nat.add_left_cancel_iff, SE, SEalloc, SEbox, SEstore, w_bs, SEbl, SEfz, SEbs0, fzName, osOf, AV.fz1, w_app, w_mk, aev, opd, Fr.get, putO, Fr.norm, List.map_cons, List.map_nil, with1, with2, onInt, AV.lit, entry, ↓reduceIte, Nat.reduceEqDiff, Nat.reduceAdd, reduceCtorEq, true_and, and_true, Option.map_some, Option.map_none, Option.bind_some, Option.bind_none, cond_true, cond_false, binV, unV, fieldV, loadV, sto, cellsAV, newF, newL, Fr.map, Loc.kill, Loc.set, AO.kill, AV.kill, AV.mapN, AV.mapNL, List.filter_nil, List.filter_cons, allP, EndV, retV, resV, resL, frz, dropL, AV.pick, nilV, tupV, imp_self, ne_eq, Int.cast_ofNat_Int, Int.reduceLT, Int.reduceToNat, List.getD_cons_zero, List.getD_cons_succ, bsliceV, buildV, afill, repl, chunk, rvs, AV.rv, RV.nrm, List.getElem?_nil, List.append_assoc, Nat.reduceMul, Nat.reducePow, Nat.zero_lt_succ, Nat.zero_add, Nat.add_zero, List.length_cons, List.length_nil, Nat.reduceLeDiff, Nat.le_refl, List.take_succ_cons, List.take_zero, List.drop_succ_cons, List.drop_zero, indexV, lenV, rowOf_mapD, rowOf_mapI, rowOf_mapA, List.length_map, Int.toNat_natCast, List.getElem?_cons_zero, List.getElem?_cons_succ, and_self, implies_true, if_true, if_false, HQ_zn, HQ_zr, HQ_wn, HQ_wr, AV.nz, AV.nzL, RV.nrm, SEbin, SEnil, nilK, srcV, dstV, appName, List.length_append, Nat.mul_one, take_map_len, take_map_app, List.getElem?_cons_zero, List.map_append, SEmkmap, SEmset, mgetV, kvOf, getM, setM, c7, r7, v7_1, v7_2, v7_3, m7_3, v7_4, v7_5, v7_6, v7_7, v7_8, u7_9, u7_10, u7_11, ty30, ty31, ty3, SttD.av, SttD.cells, ints, bne_self_eq_false, beq_self_eq_true]) | (with_reducible refine And.intro ?_ ?_) | (refine call_ro e18 ( h1) rfl ?_ ?_ ?_ ?_) | (refine gcall_ro e18 ( h1) rfl ?_ ?_ ?_ ?_) | (refine dcall_ro e18 ( h1) rfl ?_ ?_ ?_ ?_) | (refine gdcall_ro rfl e18 ( h1) rfl ?_ ?_ ?_ ?_) | (refine call_ro e19 ( h2) rfl ?_ ?_ ?_ ?_) | (refine gcall_ro e19 ( h2) rfl ?_ ?_ ?_ ?_) | (refine dcall_ro e19 ( h2) rfl ?_ ?_ ?_ ?_) | (refine gdcall_ro rfl e19 ( h2) rfl ?_ ?_ ?_ ?_) | (refine call_ro e9 ( ints_p l hb) rfl ?_ ?_ ?_ ?_) | (refine gcall_ro e9 ( ints_p l hb) rfl ?_ ?_ ?_ ?_) | (refine dcall_ro e9 ( ints_p l hb) rfl ?_ ?_ ?_ ?_) | (refine gdcall_ro rfl e9 ( ints_p l hb) rfl ?_ ?_ ?_ ?_) | (refine call_ro e13 ( sameInts_self m) rfl ?_ ?_ ?_ ?_) | (refine gcall_ro e13 ( sameInts_self m) rfl ?_ ?_ ?_ ?_) | (refine dcall_ro e13 ( sameInts_self m) rfl ?_ ?_ ?_ ?_) | (refine gdcall_ro rfl e13 ( sameInts_self m) rfl ?_ ?_ ?_ ?_) | (refine EndX.plain ?_) | (refine nil_split (fun hn => ?_) (fun hn => ?_)) | (refine gcall_no not_false ?_) | (refine gdcall_no not_false ?_) | (refine GuardS_of _ _ _ _ _ _ (fun hg => ?_) (fun hg => ?_)) | (refine GuardD_of _ _ _ _ (fun hg => ?_) (fun hg => ?_)) | (refine CondB_of _ _ _ _ _ _ _ ?_ (fun hg => ?_) (fun hg => ?_)))
  all_goals (try (first | ((first | unfold noN | unfold Fr.below | unfold Loc.below); simp [Fr.allN, AV.allN, AV.allNL, AO.allN]; done) | rfl | trivial | assumption | (intro row hrow; simp only [List.mem_map] at hrow; obtain ⟨x, _, rfl⟩ := hrow; rfl) | (refine Wk.keep hcl ?_ ?_ ?_; (focus (simp [Fr.get, SttD.av, SttD.cells, ints, bne_self_eq_false, beq_self_eq_true] <;> fail)); (focus (simp [sto, SttD.av, SttD.cells, ints, bne_self_eq_false, beq_self_eq_true] <;> fail)); (focus (simp <;> fail))) | (simp [allP, opd, Fr.get, Fr.below, Fr.allN, AV.allN, AV.allNL, Loc.below, AO.allN, noN, killO, killT, killD, mkNames, AO.kill, AV.kill, AV.mapN, AV.mapNL]; done) | (with_reducible exact ltD (by assumption)) | omega | (simp only [decide_eq_true_eq, decide_eq_false_iff_not] at *; omega)))
end Go.Proofs.Yteaojhieghakfaa
