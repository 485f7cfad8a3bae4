/- The laws of what is half empty, and of what is free, walked. -/
import Derived.Test.YteaojhieghakfaaTierM
import Derived.Test.YteaojhieghakfaaHalfOf
import Derived.Test.YteaojhieghakfaaFree
import Derived.Test.YteaojhieghakfaaTypes
namespace Go.Proofs.Yteaojhieghakfaa
open Go.RowKit
set_option maxRecDepth 100000
theorem r7 : Try.f7.results.toList = [.tmp 4] := by kernel_rfl
def o6_1 : List SO := ((SO.mk (some 13) (.extract (.tmp 9) 0) none) :: (SO.mk (some 14) (.extract (.tmp 9) 1) none) :: (SO.mk (some 5) (.move (.tmp 13)) none) :: (SO.mk (some 6) (.move (.tmp 14)) none) :: [])
theorem v6_1 : type_of% (@swl _ _ o6_1.eq_1) := @swl _ _ o6_1.eq_1
def o6_2 : List SO := ((SO.mk (some 19) (.extract (.tmp 15) 0) none) :: (SO.mk (some 20) (.extract (.tmp 15) 1) none) :: (SO.mk (some 7) (.move (.tmp 19)) none) :: (SO.mk (some 8) (.move (.tmp 20)) none) :: [])
theorem v6_2 : type_of% (@swl _ _ o6_2.eq_1) := @swl _ _ o6_2.eq_1
def o6_3 : List SO := ((SO.mk (some 4) (.move (.tmp 28)) none) :: [])
theorem v6_3 : type_of% (@swl _ _ o6_3.eq_1) := @swl _ _ o6_3.eq_1
def o6_4 : List SO := ((SO.mk (some 25) (.move (.tmp 5)) (some (24 , true))) :: (SO.mk (some 26) (.move (.tmp 7)) (some (24 , true))) :: (SO.mk (some 27) (.call 13 [(.tmp 25), (.tmp 26)]) (some (24 , true))) :: (SO.mk (some 28) (.pick (.tmp 24) (.tmp 27) (.const (Value.bool false))) none) :: o6_3)
theorem v6_4 : type_of% (@swl _ _ o6_4.eq_1) := @swl _ _ o6_4.eq_1
def c6_5 : SC := (.seq (.reg ((SO.mk (some 21) (.move (.tmp 6)) none) :: (SO.mk (some 22) (.move (.tmp 8)) none) :: (SO.mk (some 23) (.bin .eql 31 (.tmp 21) (.tmp 22)) none) :: (SO.mk (some 24) (.move (.tmp 23)) none) :: o6_4)) (.keep [4] .ret))
theorem u6_5 : type_of% (@swc _ _ c6_5.eq_1) := @swc _ _ c6_5.eq_1
def c6_6 : SC := (.seq (.reg ((SO.mk (some 16) (.load 30 (.tmp 2)) none) :: (SO.mk (some 17) (.move (.tmp 1)) none) :: (SO.mk (some 18) (.call 17 [(.tmp 16), (.tmp 17)]) none) :: (SO.mk (some 15) (.move (.tmp 18)) none) :: o6_2)) (.keep [6, 8, 5, 7] c6_5))
theorem u6_6 : type_of% (@swc _ _ c6_6.eq_1) := @swc _ _ c6_6.eq_1
def c6_7 : SC := (.seq (.reg ((SO.mk (some 10) (.load 30 (.tmp 2)) none) :: (SO.mk (some 11) (.move (.tmp 1)) none) :: (SO.mk (some 12) (.call 16 [(.tmp 10), (.tmp 11)]) none) :: (SO.mk (some 9) (.move (.tmp 12)) none) :: o6_1)) (.keep [2, 1, 6, 5] c6_6))
theorem u6_7 : type_of% (@swc _ _ c6_7.eq_1) := @swc _ _ c6_7.eq_1
def c6 : SC := (.seq (.reg [SO.mk (some 2) (.box 30 (.tmp 0)) none, SO.mk (some 4) (.move (.const (Value.bool false))) none]) (.keep [2, 1] c6_7))
theorem c6_eq : annC Try.f6 = some c6 := by kernel_rfl
theorem r6 : Try.f6.results.toList = [.tmp 4] := by kernel_rfl
end Go.Proofs.Yteaojhieghakfaa
namespace Go.Proofs.Yteaojhieghakfaa
open Go.RowKit
set_option maxHeartbeats 4000000
set_option maxRecDepth 20000
attribute [local irreducible] SW SWL SWLn SWD SEcall SEcallv SDv SE SO1 SOg ACalls ACallv Wk EndV
set_option linter.unusedSimpArgs false
set_option linter.unusedVariables false
theorem fs_two (s : SttD) (many : Int) : ∃ (v : Int) (m : List Int), fsV s many = .tup [.d (ints m), I v] := by
  unfold fsV
  cases mayF s <;> cases inR many 0 200 <;> first | exact ⟨_, _, rfl⟩ | exact ⟨_, [], rfl⟩
theorem stateFree_p (s : SttD) (hw : s.wf) (many : Int) : Pure Try.prog 6 [s.av, I many] (Bo true) := by
  refine pure_of follows Try.func6 c6_eq r6 (Nat.le_of_ble_eq_true rfl) fun B σ hcl hsz => ?_
  clear hsz
  have h1 := free_p s hw many
  have h2 := freeOf_p s (may_p s) many
  obtain ⟨v, m, hp⟩ := fs_two s many
  rw [hp] at h1 h2
  clear hp
  repeat' (first | (simp -implicitDefEqProofs only [*, contN, contC, Nat.reduceBEq, Bool.or_false, Bool.or_true, Bool.false_or, Bool.true_or, Bool.not_true, Bool.not_false, w_skip, w_ret, w_exit, w_reg, w_dreg, w_seq, SK_n, SK_r, SK_x, w_keep, w_block, w_cond, w_nil, w_cons, w_consg, w_nnil, w_ncons, w_dnil, w_dcons, w_dconsg, HK_app, HD_app, HQ_n, HQ_r, HQ_x, HQ_bn, HQ_br, HQ_bx, HQ_en, HQ_er, HQ_ex, CondB_true, CondB_false, SO1, w_sdv, SDe_alloc, SDe_box, SDe_bslice, SDe_app, true_imp_iff, false_imp_iff, and_false, false_and, not_false_eq_true, not_true_eq_false, addN, mkNames, killT, killD, killO, List.foldl_nil, List.foldl_cons, List.append_nil, List.nil_append, List.cons_append, GuardS_true, GuardS_false, GuardD_true, GuardD_false, DK_true, DK_false, lt_self_add, le_self_add, decide_true, decide_false, Bool.false_eq_true, Bool.true_eq_false, Nat.add_left_cancel_iff, SE, SEalloc, SEbox, SEstore, w_bs, SEbl, SEfz, SEbs0, fzName, osOf, AV.fz1, w_app, w_mk, aev, opd, Fr.get, putO, Fr.norm, List.map_cons, List.map_nil, with1, with2, onInt, AV.lit, entry, ↓reduceIte, Nat.reduceEqDiff, Nat.reduceAdd, reduceCtorEq, true_and, and_true, Option.map_some, Option.map_none, Option.bind_some, Option.bind_none, cond_true, cond_false, binV, unV, fieldV, loadV, sto, cellsAV, newF, newL, Fr.map, Loc.kill, Loc.set, AO.kill, AV.kill, AV.mapN, AV.mapNL, List.filter_nil, List.filter_cons, allP, EndV, retV, resV, resL, frz, dropL, AV.pick, nilV, tupV, imp_self, ne_eq, Int.cast_ofNat_Int, Int.reduceLT, Int.reduceToNat, List.getD_cons_zero, List.getD_cons_succ, bsliceV, buildV, afill, repl, chunk, rvs, AV.rv, RV.nrm, List.getElem?_nil, List.append_assoc, Nat.reduceMul, Nat.reducePow, Nat.zero_lt_succ, Nat.zero_add, Nat.add_zero, List.length_cons, List.length_nil, Nat.reduceLeDiff, Nat.le_refl, List.take_succ_cons, List.take_zero, List.drop_succ_cons, List.drop_zero, indexV, lenV, rowOf_mapD, rowOf_mapI, rowOf_mapA, List.length_map, Int.toNat_natCast, List.getElem?_cons_zero, List.getElem?_cons_succ, and_self, implies_true, if_true, if_false, HQ_zn, HQ_zr, HQ_wn, HQ_wr, AV.nz, AV.nzL, RV.nrm, SEbin, SEnil, nilK, srcV, dstV, appName, List.length_append, Nat.mul_one, take_map_len, take_map_app, List.getElem?_cons_zero, List.map_append, SEmkmap, SEmset, mgetV, kvOf, getM, setM, c6, r6, v6_1, v6_2, v6_3, v6_4, u6_5, u6_6, u6_7, ty30, ty31, SttD.av, SttD.cells, ints, bne_self_eq_false, beq_self_eq_true]) | (with_reducible refine And.intro ?_ ?_) | (refine call_ro e16 ( h1) rfl ?_ ?_ ?_ ?_) | (refine gcall_ro e16 ( h1) rfl ?_ ?_ ?_ ?_) | (refine dcall_ro e16 ( h1) rfl ?_ ?_ ?_ ?_) | (refine gdcall_ro rfl e16 ( h1) rfl ?_ ?_ ?_ ?_) | (refine call_ro e17 ( h2) rfl ?_ ?_ ?_ ?_) | (refine gcall_ro e17 ( h2) rfl ?_ ?_ ?_ ?_) | (refine dcall_ro e17 ( h2) rfl ?_ ?_ ?_ ?_) | (refine gdcall_ro rfl e17 ( h2) rfl ?_ ?_ ?_ ?_) | (refine call_ro e13 ( sameInts_self m) rfl ?_ ?_ ?_ ?_) | (refine gcall_ro e13 ( sameInts_self m) rfl ?_ ?_ ?_ ?_) | (refine dcall_ro e13 ( sameInts_self m) rfl ?_ ?_ ?_ ?_) | (refine gdcall_ro rfl e13 ( sameInts_self m) rfl ?_ ?_ ?_ ?_) | (refine EndX.plain ?_) | (refine nil_split (fun hn => ?_) (fun hn => ?_)) | (refine gcall_no not_false ?_) | (refine gdcall_no not_false ?_) | (refine GuardS_of _ _ _ _ _ _ (fun hg => ?_) (fun hg => ?_)) | (refine GuardD_of _ _ _ _ (fun hg => ?_) (fun hg => ?_)) | (refine CondB_of _ _ _ _ _ _ _ ?_ (fun hg => ?_) (fun hg => ?_)))
  all_goals (try (first | ((first | unfold noN | unfold Fr.below | unfold Loc.below); simp [Fr.allN, AV.allN, AV.allNL, AO.allN]; done) | rfl | trivial | assumption | (intro row hrow; simp only [List.mem_map] at hrow; obtain ⟨x, _, rfl⟩ := hrow; rfl) | (refine Wk.keep hcl ?_ ?_ ?_; (focus (simp [Fr.get, SttD.av, SttD.cells, ints, bne_self_eq_false, beq_self_eq_true] <;> fail)); (focus (simp [sto, SttD.av, SttD.cells, ints, bne_self_eq_false, beq_self_eq_true] <;> fail)); (focus (simp <;> fail))) | (simp [allP, opd, Fr.get, Fr.below, Fr.allN, AV.allN, AV.allNL, Loc.below, AO.allN, noN, killO, killT, killD, mkNames, AO.kill, AV.kill, AV.mapN, AV.mapNL]; done) | (with_reducible exact ltD (by assumption)) | omega | (simp only [decide_eq_true_eq, decide_eq_false_iff_not] at *; omega)))
end Go.Proofs.Yteaojhieghakfaa
