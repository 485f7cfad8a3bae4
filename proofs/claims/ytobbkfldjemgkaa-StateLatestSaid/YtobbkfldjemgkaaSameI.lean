/- Numbers are the same as themselves. -/
import Derived.Test.YtobbkfldjemgkaaBase
import Derived.Test.YtobbkfldjemgkaaTypes
namespace Go.Proofs.Ytobbkfldjemgkaa
open Go.RowKit
set_option maxRecDepth 100000
def c22_1 : SC := (.seq (.reg [SO.mk (some 4) (.move (.const (Value.bool false))) none]) (.keep [4] .ret))
theorem u22_1 : type_of% (@swc _ _ c22_1.eq_1) := @swc _ _ c22_1.eq_1
def c22_2 : SC := (.cond (.tmp 10) c22_1 .skip)
theorem u22_2 : type_of% (@swc _ _ c22_2.eq_1) := @swc _ _ c22_2.eq_1
def c22_3 : SC := (.cond (.tmp 14) .skip (.exit 0))
theorem u22_3 : type_of% (@swc _ _ c22_3.eq_1) := @swc _ _ c22_3.eq_1
def o22_4 : List SO := ((SO.mk (some 25) (.bin .neq 3 (.tmp 20) (.tmp 24)) none) :: [])
theorem v22_4 : type_of% (@swd _ _ o22_4.eq_1) := @swd _ _ o22_4.eq_1
def o22_5 : List SO := ((SO.mk (some 21) (.move (.tmp 1)) none) :: (SO.mk (some 22) (.move (.tmp 5)) none) :: (SO.mk (some 23) (.iaddr 28 (.tmp 21) (.tmp 22)) none) :: (SO.mk (some 24) (.load 3 (.tmp 23)) none) :: o22_4)
theorem v22_5 : type_of% (@swd _ _ o22_5.eq_1) := @swd _ _ o22_5.eq_1
def o22_6 : List SO := ((SO.mk (some 17) (.move (.tmp 0)) none) :: (SO.mk (some 18) (.move (.tmp 5)) none) :: (SO.mk (some 19) (.iaddr 28 (.tmp 17) (.tmp 18)) none) :: (SO.mk (some 20) (.load 3 (.tmp 19)) none) :: o22_5)
theorem v22_6 : type_of% (@swd _ _ o22_6.eq_1) := @swd _ _ o22_6.eq_1
theorem m22_6 (B : Nat) : mkNames B o22_6 = [] := (rfl)
def c22_7 : SC := (.seq (.reg [SO.mk (some 4) (.move (.const (Value.bool false))) none]) (.keep [4] .ret))
theorem u22_7 : type_of% (@swc _ _ c22_7.eq_1) := @swc _ _ c22_7.eq_1
def c22_8 : SC := (.cond (.tmp 25) c22_7 .skip)
theorem u22_8 : type_of% (@swc _ _ c22_8.eq_1) := @swc _ _ c22_8.eq_1
def c22_9 : SC := (.reg [SO.mk (some 15) (.move (.tmp 5)) none, SO.mk (some 16) (.bin .add 3 (.tmp 15) (.const (Value.int .i64 1))) none, SO.mk (some 5) (.move (.tmp 16)) none])
theorem u22_9 : type_of% (@swc _ _ c22_9.eq_1) := @swc _ _ c22_9.eq_1
def c22_10 : SC := (.seq (.block 1 (.seq (.dreg false o22_6 []) (.keep [25, 5, 1, 0] c22_8))) (.keep [5, 1, 0] c22_9))
theorem u22_10 : type_of% (@swc _ _ c22_10.eq_1) := @swc _ _ c22_10.eq_1
def c22_11 : SC := (.seq (.seq (.reg [SO.mk (some 11) (.move (.tmp 5)) none, SO.mk (some 12) (.move (.tmp 0)) none, SO.mk (some 13) (.len 28 (.tmp 12)) none, SO.mk (some 14) (.bin .lss 3 (.tmp 11) (.tmp 13)) none]) (.keep [14, 0, 1, 5] c22_3)) (.keep [5, 1, 0] c22_10))
theorem u22_11 : type_of% (@swc _ _ c22_11.eq_1) := @swc _ _ c22_11.eq_1
def c22_12 : SC := (.block 0 (.loop (.keep [0, 1, 5] c22_11)))
theorem u22_12 : type_of% (@swc _ _ c22_12.eq_1) := @swc _ _ c22_12.eq_1
def c22_13 : SC := (.seq (.reg [SO.mk (some 4) (.move (.const (Value.bool true))) none]) (.keep [4] .ret))
theorem u22_13 : type_of% (@swc _ _ c22_13.eq_1) := @swc _ _ c22_13.eq_1
def c22_14 : SC := (.seq (.seq (.reg [SO.mk (some 5) (.move (.const (Value.int .i64 0))) none]) (.keep [0, 1, 5] c22_12)) (.keep [] c22_13))
theorem u22_14 : type_of% (@swc _ _ c22_14.eq_1) := @swc _ _ c22_14.eq_1
def c22_15 : SC := (.seq (.seq (.reg [SO.mk (some 6) (.move (.tmp 0)) none, SO.mk (some 7) (.len 28 (.tmp 6)) none, SO.mk (some 8) (.move (.tmp 1)) none, SO.mk (some 9) (.len 28 (.tmp 8)) none, SO.mk (some 10) (.bin .neq 3 (.tmp 7) (.tmp 9)) none]) (.keep [10, 0, 1] c22_2)) (.keep [0, 1] c22_14))
theorem u22_15 : type_of% (@swc _ _ c22_15.eq_1) := @swc _ _ c22_15.eq_1
def c22 : SC := (.seq (.reg [SO.mk (some 4) (.move (.const (Value.bool false))) none]) (.keep [0, 1] c22_15))
theorem c22_eq : annC Try.f22 = some c22 := by kernel_rfl
theorem r22 : Try.f22.results.toList = [.tmp 4] := by kernel_rfl
theorem e22 : enters Try.prog 22 = true := by kernel_rfl
end Go.Proofs.Ytobbkfldjemgkaa
namespace Go.Proofs.Ytobbkfldjemgkaa
open Go.RowKit
set_option maxHeartbeats 4000000
set_option maxRecDepth 20000
attribute [local irreducible] SW SWL SWLn SWD SEcall SEcallv SDv SE SO1 SOg ACalls ACallv Wk EndV
set_option linter.unusedSimpArgs false
set_option linter.unusedVariables false
theorem sameInts_self (l : List Int) : Pure Try.prog 22 [.d (ints l), .d (ints l)] (Bo true) := by
  refine pure_of follows Try.func22 c22_eq r22 (Nat.le_of_ble_eq_true rfl) fun B σ hcl hsz => ?_
  have hlen : l.length ≤ 2 ^ 47 := by simpa using (show Sized (ints l) from hsz (.d (ints l)) (by simp)).len
  clear hsz
  repeat' (first | (simp -implicitDefEqProofs only [*, contN, contC, Nat.reduceBEq, Bool.or_false, Bool.or_true, Bool.false_or, Bool.true_or, Bool.not_true, Bool.not_false, w_skip, w_ret, w_exit, w_reg, w_dreg, w_seq, SK_n, SK_r, SK_x, w_keep, w_block, w_cond, w_nil, w_cons, w_consg, w_nnil, w_ncons, w_dnil, w_dcons, w_dconsg, HK_app, HD_app, HQ_n, HQ_r, HQ_x, HQ_bn, HQ_br, HQ_bx, HQ_en, HQ_er, HQ_ex, CondB_true, CondB_false, SO1, w_sdv, SDe_alloc, SDe_box, SDe_bslice, SDe_app, true_imp_iff, false_imp_iff, and_false, false_and, not_false_eq_true, not_true_eq_false, addN, mkNames, killT, killD, killO, List.foldl_nil, List.foldl_cons, List.append_nil, List.nil_append, List.cons_append, GuardS_true, GuardS_false, GuardD_true, GuardD_false, DK_true, DK_false, lt_self_add, le_self_add, decide_true, decide_false, Bool.false_eq_true, Bool.true_eq_false, Nat.add_left_cancel_iff, SE, SEalloc, SEbox, SEstore, w_bs, SEbl, SEfz, SEbs0, fzName, osOf, AV.fz1, w_app, w_mk, aev, opd, Fr.get, putO, Fr.norm, List.map_cons, List.map_nil, with1, with2, onInt, AV.lit, entry, ↓reduceIte, Nat.reduceEqDiff, Nat.reduceAdd, reduceCtorEq, true_and, and_true, Option.map_some, Option.map_none, Option.bind_some, Option.bind_none, cond_true, cond_false, binV, unV, fieldV, loadV, sto, cellsAV, newF, newL, Fr.map, Loc.kill, Loc.set, AO.kill, AV.kill, AV.mapN, AV.mapNL, List.filter_nil, List.filter_cons, allP, EndV, retV, resV, resL, frz, dropL, AV.pick, nilV, tupV, imp_self, ne_eq, Int.cast_ofNat_Int, Int.reduceLT, Int.reduceToNat, List.getD_cons_zero, List.getD_cons_succ, bsliceV, buildV, afill, repl, chunk, rvs, AV.rv, RV.nrm, List.getElem?_nil, List.append_assoc, Nat.reduceMul, Nat.reducePow, Nat.zero_lt_succ, Nat.zero_add, Nat.add_zero, List.length_cons, List.length_nil, Nat.reduceLeDiff, Nat.le_refl, List.take_succ_cons, List.take_zero, List.drop_succ_cons, List.drop_zero, indexV, lenV, rowOf_mapD, rowOf_mapI, rowOf_mapA, List.length_map, Int.toNat_natCast, List.getElem?_cons_zero, List.getElem?_cons_succ, and_self, implies_true, if_true, if_false, HQ_zn, HQ_zr, HQ_wn, HQ_wr, AV.nz, AV.nzL, RV.nrm, SEbin, SEnil, nilK, srcV, dstV, appName, List.length_append, Nat.mul_one, take_map_len, take_map_app, List.getElem?_cons_zero, List.map_append, SEmkmap, SEmset, mgetV, kvOf, getM, setM, c22, r22, u22_1, u22_2, u22_3, v22_4, v22_5, v22_6, m22_6, u22_7, u22_8, u22_9, u22_10, u22_11, u22_12, u22_13, u22_14, u22_15, ty28, ty3, ints, int_, bne_self_eq_false, beq_self_eq_true]) | (with_reducible refine And.intro ?_ ?_) | (refine loop_nat (l.length) (fun _ => True) (fun k => [(0, .d (ints l)), (1, .d (ints l)), (5, I k)]) (fun k => []) ?_ (Wk.keep hcl ?_ ?_ ?_) fun k hk hF => ?_; rotate_left 1; (focus (simp [Fr.get, newF, Fr.map, AV.kill, AV.mapN, ints, int_, bne_self_eq_false, beq_self_eq_true] <;> fail)); (focus (simp [sto, newL, Loc.kill, Loc.set, AO.kill, AV.kill, AV.mapN, ints, int_, bne_self_eq_false, beq_self_eq_true] <;> fail)); (focus (simp [newL, Loc.kill, Loc.set, ints, int_, bne_self_eq_false, beq_self_eq_true] <;> fail)); (try have hw : IntKind.i64.wrap ((k : Int) + 1) = (k : Int) + 1 := IntWalk.i64_in _ (by omega))) | (refine EndX.plain ?_) | (refine nil_split (fun hn => ?_) (fun hn => ?_)) | (refine gcall_no not_false ?_) | (refine gdcall_no not_false ?_) | (refine GuardS_of _ _ _ _ _ _ (fun hg => ?_) (fun hg => ?_)) | (refine GuardD_of _ _ _ _ (fun hg => ?_) (fun hg => ?_)) | (refine CondB_of _ _ _ _ _ _ _ ?_ (fun hg => ?_) (fun hg => ?_)))
  all_goals (try (first | ((first | unfold noN | unfold Fr.below | unfold Loc.below); simp [Fr.allN, AV.allN, AV.allNL, AO.allN]; done) | rfl | trivial | assumption | (intro row hrow; simp only [List.mem_map] at hrow; obtain ⟨x, _, rfl⟩ := hrow; rfl) | (refine Wk.keep hcl ?_ ?_ ?_; (focus (simp [Fr.get, ints, int_, bne_self_eq_false, beq_self_eq_true] <;> fail)); (focus (simp [sto, ints, int_, bne_self_eq_false, beq_self_eq_true] <;> fail)); (focus (simp <;> fail))) | (simp [allP, opd, Fr.get, Fr.below, Fr.allN, AV.allN, AV.allNL, Loc.below, AO.allN, noN, killO, killT, killD, mkNames, AO.kill, AV.kill, AV.mapN, AV.mapNL]; done) | (with_reducible exact ltD (by assumption)) | omega | (simp only [decide_eq_true_eq, decide_eq_false_iff_not] at *; omega)))
end Go.Proofs.Ytobbkfldjemgkaa
