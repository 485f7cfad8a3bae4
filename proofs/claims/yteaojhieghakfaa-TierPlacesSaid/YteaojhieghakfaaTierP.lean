/- Tiers: a place for a piece. -/
import Derived.Test.YteaojhieghakfaaTierI
import Derived.Test.YteaojhieghakfaaChkP
import Derived.Test.YteaojhieghakfaaMayP
import Derived.Test.YteaojhieghakfaaTypes
namespace Go.Proofs.Yteaojhieghakfaa
open Go.RowKit
set_option maxRecDepth 100000
def o41_1 : List SO := ((SO.mk (some 15) (.load 3 (.tmp 14)) none) :: (SO.mk (some 16) (.callv (.tmp 11) [(.tmp 15)]) none) :: [])
theorem v41_1 : type_of% (@swl _ _ o41_1.eq_1) := @swl _ _ o41_1.eq_1
def c41_2 : SC := (.seq (.reg [SO.mk (some 17) (.move (.tmp 5)) none, SO.mk (some 4) (.move (.tmp 17)) none]) (.keep [4] .ret))
theorem u41_2 : type_of% (@swc _ _ c41_2.eq_1) := @swc _ _ c41_2.eq_1
def c41_3 : SC := (.cond (.tmp 16) c41_2 .skip)
theorem u41_3 : type_of% (@swc _ _ c41_3.eq_1) := @swc _ _ c41_3.eq_1
def c41_4 : SC := (.seq (.reg ((SO.mk (some 11) (.move (.tmp 1)) none) :: (SO.mk (some 12) (.move (.tmp 0)) none) :: (SO.mk (some 13) (.move (.tmp 5)) none) :: (SO.mk (some 14) (.iaddr 28 (.tmp 12) (.tmp 13)) none) :: o41_1)) (.keep [16, 5, 8, 7, 0, 1] c41_3))
theorem u41_4 : type_of% (@swc _ _ c41_4.eq_1) := @swc _ _ c41_4.eq_1
def c41_5 : SC := (.reg [SO.mk (some 18) (.bin .add 3 (.tmp 8) (.const (Value.int .i64 1))) none, SO.mk (some 8) (.move (.tmp 18)) none])
theorem u41_5 : type_of% (@swc _ _ c41_5.eq_1) := @swc _ _ c41_5.eq_1
def c41_6 : SC := (.seq (.block 1 (.seq (.reg [SO.mk (some 10) (.move (.tmp 8)) none, SO.mk (some 5) (.move (.tmp 10)) none]) (.keep [5, 8, 7, 0, 1] c41_4))) (.keep [8, 7, 0, 1] c41_5))
theorem u41_6 : type_of% (@swc _ _ c41_6.eq_1) := @swc _ _ c41_6.eq_1
def c41_7 : SC := (.seq (.cond (.tmp 9) .skip (.exit 0)) (.keep [8, 7, 0, 1] c41_6))
theorem u41_7 : type_of% (@swc _ _ c41_7.eq_1) := @swc _ _ c41_7.eq_1
def c41_8 : SC := (.seq (.reg [SO.mk (some 9) (.bin .lss 3 (.tmp 8) (.tmp 7)) none]) (.keep [9, 1, 0, 7, 8] c41_7))
theorem u41_8 : type_of% (@swc _ _ c41_8.eq_1) := @swc _ _ c41_8.eq_1
def c41_9 : SC := (.block 0 (.loop (.keep [1, 0, 7, 8] c41_8)))
theorem u41_9 : type_of% (@swc _ _ c41_9.eq_1) := @swc _ _ c41_9.eq_1
def c41_10 : SC := (.seq (.reg [SO.mk (some 4) (.move (.const (Value.int .i64 (-1)))) none]) (.keep [4] .ret))
theorem u41_10 : type_of% (@swc _ _ c41_10.eq_1) := @swc _ _ c41_10.eq_1
def c41_11 : SC := (.seq (.seq (.reg [SO.mk (some 6) (.move (.tmp 0)) none, SO.mk (some 7) (.len 28 (.tmp 6)) none, SO.mk (some 8) (.move (.const (Value.int .i64 0))) none]) (.keep [1, 0, 7, 8] c41_9)) (.keep [] c41_10))
theorem u41_11 : type_of% (@swc _ _ c41_11.eq_1) := @swc _ _ c41_11.eq_1
def c41 : SC := (.seq (.reg [SO.mk (some 4) (.move (.const (Value.int .i64 0))) none]) (.keep [1, 0] c41_11))
theorem c41_eq : annC Try.f41 = some c41 := by kernel_rfl
theorem r41 : Try.f41.results.toList = [.tmp 4] := by kernel_rfl
theorem e41 : enters Try.prog 41 = true := by kernel_rfl
def c21_1 : SC := (.seq (.reg [SO.mk (some 5) (.move (.tmp 0)) none, SO.mk (some 6) (.move (.tmp 1)) none, SO.mk (some 7) (.call 41 [(.tmp 5), (.tmp 6)]) none, SO.mk (some 8) (.bin .geq 3 (.tmp 7) (.const (Value.int .i64 0))) none, SO.mk (some 4) (.move (.tmp 8)) none]) (.keep [4] .ret))
theorem u21_1 : type_of% (@swc _ _ c21_1.eq_1) := @swc _ _ c21_1.eq_1
def c21 : SC := (.seq (.reg [SO.mk (some 4) (.move (.const (Value.bool false))) none]) (.keep [0, 1] c21_1))
theorem c21_eq : annC Try.f21 = some c21 := by kernel_rfl
theorem r21 : Try.f21.results.toList = [.tmp 4] := by kernel_rfl
theorem e21 : enters Try.prog 21 = true := by kernel_rfl
def o22_1 : List SO := ((SO.mk (some 7) (.bin .gtr 3 (.tmp 6) (.const (Value.int .i64 4000))) (some (5 , false))) :: (SO.mk (some 8) (.pick (.tmp 5) (.const (Value.bool true)) (.tmp 7)) none) :: (SO.mk (some 2) (.move (.tmp 8)) none) :: [])
theorem v22_1 : type_of% (@swl _ _ o22_1.eq_1) := @swl _ _ o22_1.eq_1
def c22_2 : SC := (.seq (.reg ((SO.mk (some 3) (.move (.tmp 0)) none) :: (SO.mk (some 4) (.bin .lss 3 (.tmp 3) (.const (Value.int .i64 0))) none) :: (SO.mk (some 5) (.move (.tmp 4)) none) :: (SO.mk (some 6) (.move (.tmp 0)) (some (5 , false))) :: o22_1)) (.keep [2] .ret))
theorem u22_2 : type_of% (@swc _ _ c22_2.eq_1) := @swc _ _ c22_2.eq_1
def c22 : SC := (.seq (.reg [SO.mk (some 2) (.move (.const (Value.bool false))) none]) (.keep [0] c22_2))
theorem c22_eq : annC Try.f22 = some c22 := by kernel_rfl
theorem r22 : Try.f22.results.toList = [.tmp 2] := by kernel_rfl
theorem e22 : enters Try.prog 22 = true := by kernel_rfl
def c25_1 : SC := (.cond (.tmp 9) .skip (.exit 0))
theorem u25_1 : type_of% (@swc _ _ c25_1.eq_1) := @swc _ _ c25_1.eq_1
def o25_2 : List SO := ((SO.mk (some 16) (.move (.tmp 0)) none) :: (SO.mk (some 17) (.call 26 [(.tmp 15), (.const (Value.int .i64 0)), (.tmp 16)]) none) :: (SO.mk (some 18) (.un .not (.tmp 17)) none) :: [])
theorem v25_2 : type_of% (@swl _ _ o25_2.eq_1) := @swl _ _ o25_2.eq_1
def c25_3 : SC := (.seq (.reg [SO.mk (some 4) (.move (.const (Value.bool false))) none]) (.keep [4] .ret))
theorem u25_3 : type_of% (@swc _ _ c25_3.eq_1) := @swc _ _ c25_3.eq_1
def c25_4 : SC := (.cond (.tmp 18) c25_3 .skip)
theorem u25_4 : type_of% (@swc _ _ c25_4.eq_1) := @swc _ _ c25_4.eq_1
def c25_5 : SC := (.reg [SO.mk (some 10) (.move (.tmp 5)) none, SO.mk (some 11) (.bin .add 3 (.tmp 10) (.const (Value.int .i64 1))) none, SO.mk (some 5) (.move (.tmp 11)) none])
theorem u25_5 : type_of% (@swc _ _ c25_5.eq_1) := @swc _ _ c25_5.eq_1
def c25_6 : SC := (.seq (.block 1 (.seq (.reg ((SO.mk (some 12) (.move (.tmp 1)) none) :: (SO.mk (some 13) (.move (.tmp 5)) none) :: (SO.mk (some 14) (.iaddr 28 (.tmp 12) (.tmp 13)) none) :: (SO.mk (some 15) (.load 3 (.tmp 14)) none) :: o25_2)) (.keep [18, 5, 0, 1] c25_4))) (.keep [5, 0, 1] c25_5))
theorem u25_6 : type_of% (@swc _ _ c25_6.eq_1) := @swc _ _ c25_6.eq_1
def c25_7 : SC := (.seq (.seq (.reg [SO.mk (some 6) (.move (.tmp 5)) none, SO.mk (some 7) (.move (.tmp 1)) none, SO.mk (some 8) (.len 28 (.tmp 7)) none, SO.mk (some 9) (.bin .lss 3 (.tmp 6) (.tmp 8)) none]) (.keep [9, 1, 0, 5] c25_1)) (.keep [5, 0, 1] c25_6))
theorem u25_7 : type_of% (@swc _ _ c25_7.eq_1) := @swc _ _ c25_7.eq_1
def c25_8 : SC := (.block 0 (.loop (.keep [1, 0, 5] c25_7)))
theorem u25_8 : type_of% (@swc _ _ c25_8.eq_1) := @swc _ _ c25_8.eq_1
def c25_9 : SC := (.seq (.reg [SO.mk (some 4) (.move (.const (Value.bool true))) none]) (.keep [4] .ret))
theorem u25_9 : type_of% (@swc _ _ c25_9.eq_1) := @swc _ _ c25_9.eq_1
def c25_10 : SC := (.seq (.seq (.reg [SO.mk (some 5) (.move (.const (Value.int .i64 0))) none]) (.keep [1, 0, 5] c25_8)) (.keep [] c25_9))
theorem u25_10 : type_of% (@swc _ _ c25_10.eq_1) := @swc _ _ c25_10.eq_1
def c25 : SC := (.seq (.reg [SO.mk (some 4) (.move (.const (Value.bool false))) none]) (.keep [1, 0] c25_10))
theorem c25_eq : annC Try.f25 = some c25 := by kernel_rfl
theorem r25 : Try.f25.results.toList = [.tmp 4] := by kernel_rfl
theorem e25 : enters Try.prog 25 = true := by kernel_rfl
end Go.Proofs.Yteaojhieghakfaa
namespace Go.Proofs.Yteaojhieghakfaa
open Go.RowKit
set_option maxHeartbeats 4000000
set_option maxRecDepth 20000
attribute [local irreducible] SW SWL SWLn SWD SEcall SEcallv SDv SE SO1 SOg ACalls ACallv Wk EndV
set_option linter.unusedSimpArgs false
set_option linter.unusedVariables false
theorem indexF_p (xs : List Int) (g : FuncId) (p : Int → Bool) (hf : ∀ i, i < xs.length → Purev Try.prog (.clo (.func g) [] []) [I xs[i]!] (Bo (p xs[i]!))) :
    Pure Try.prog 41 [.d (ints xs), .clo (.func g) [] []] (I (idxI xs p)) := by
  refine pure_of follows Try.func41 c41_eq r41 (Nat.le_of_ble_eq_true rfl) fun B σ hcl hsz => ?_
  have hlen : xs.length ≤ 2 ^ 47 := by simpa using (show Sized (ints xs) from hsz (.d (ints xs)) (by simp)).len
  clear hsz
  repeat' (first | (simp -implicitDefEqProofs only [*, contN, contC, Nat.reduceBEq, Bool.or_false, Bool.or_true, Bool.false_or, Bool.true_or, Bool.not_true, Bool.not_false, w_skip, w_ret, w_exit, w_reg, w_dreg, w_seq, SK_n, SK_r, SK_x, w_keep, w_block, w_cond, w_nil, w_cons, w_consg, w_nnil, w_ncons, w_dnil, w_dcons, w_dconsg, HK_app, HD_app, HQ_n, HQ_r, HQ_x, HQ_bn, HQ_br, HQ_bx, HQ_en, HQ_er, HQ_ex, CondB_true, CondB_false, SO1, w_sdv, SDe_alloc, SDe_box, SDe_bslice, SDe_app, true_imp_iff, false_imp_iff, and_false, false_and, not_false_eq_true, not_true_eq_false, addN, mkNames, killT, killD, killO, List.foldl_nil, List.foldl_cons, List.append_nil, List.nil_append, List.cons_append, GuardS_true, GuardS_false, GuardD_true, GuardD_false, DK_true, DK_false, lt_self_add, le_self_add, decide_true, decide_false, Bool.false_eq_true, Bool.true_eq_false, Nat.add_left_cancel_iff, SE, SEalloc, SEbox, SEstore, w_bs, SEbl, SEfz, SEbs0, fzName, osOf, AV.fz1, w_app, w_mk, aev, opd, Fr.get, putO, Fr.norm, List.map_cons, List.map_nil, with1, with2, onInt, AV.lit, entry, ↓reduceIte, Nat.reduceEqDiff, Nat.reduceAdd, reduceCtorEq, true_and, and_true, Option.map_some, Option.map_none, Option.bind_some, Option.bind_none, cond_true, cond_false, binV, unV, fieldV, loadV, sto, cellsAV, newF, newL, Fr.map, Loc.kill, Loc.set, AO.kill, AV.kill, AV.mapN, AV.mapNL, List.filter_nil, List.filter_cons, allP, EndV, retV, resV, resL, frz, dropL, AV.pick, nilV, tupV, imp_self, ne_eq, Int.cast_ofNat_Int, Int.reduceLT, Int.reduceToNat, List.getD_cons_zero, List.getD_cons_succ, bsliceV, buildV, afill, repl, chunk, rvs, AV.rv, RV.nrm, List.getElem?_nil, List.append_assoc, Nat.reduceMul, Nat.reducePow, Nat.zero_lt_succ, Nat.zero_add, Nat.add_zero, List.length_cons, List.length_nil, Nat.reduceLeDiff, Nat.le_refl, List.take_succ_cons, List.take_zero, List.drop_succ_cons, List.drop_zero, indexV, lenV, rowOf_mapD, rowOf_mapI, rowOf_mapA, List.length_map, Int.toNat_natCast, List.getElem?_cons_zero, List.getElem?_cons_succ, and_self, implies_true, if_true, if_false, HQ_zn, HQ_zr, HQ_wn, HQ_wr, AV.nz, AV.nzL, RV.nrm, SEbin, SEnil, nilK, srcV, dstV, appName, List.length_append, Nat.mul_one, take_map_len, take_map_app, List.getElem?_cons_zero, List.map_append, SEmkmap, SEmset, mgetV, kvOf, getM, setM, c41, r41, v41_1, u41_2, u41_3, u41_4, u41_5, u41_6, u41_7, u41_8, u41_9, u41_10, u41_11, ty28, ty3, ints, int_]) | (with_reducible refine And.intro ?_ ?_) | (refine callv_ro (hf k (ltD (by assumption))) rfl rfl ?_ ?_ ?_ ?_ ?_) | (refine loop_nat (xs.length) (fun k => ∀ i, i < k → p xs[i]! = false) (fun k => [(1, .clo (.func g) [] []), (0, .d (.ro (xs.map int_))), (7, I xs.length), (8, I k)]) (fun k => []) ?_ (Wk.keep hcl ?_ ?_ ?_) fun k hk hF => ?_; rotate_left 1; (focus (simp [Fr.get, newF, Fr.map, AV.kill, AV.mapN, ints, int_] <;> fail)); (focus (simp [sto, newL, Loc.kill, Loc.set, AO.kill, AV.kill, AV.mapN, ints, int_] <;> fail)); (focus (simp [newL, Loc.kill, Loc.set, ints, int_] <;> fail)); (try have hw : IntKind.i64.wrap ((k : Int) + 1) = (k : Int) + 1 := IntWalk.i64_in _ (by omega))) | (refine EndX.plain ?_) | (refine nil_split (fun hn => ?_) (fun hn => ?_)) | (refine gcall_no not_false ?_) | (refine gdcall_no not_false ?_) | (refine GuardS_of _ _ _ _ _ _ (fun hg => ?_) (fun hg => ?_)) | (refine GuardD_of _ _ _ _ (fun hg => ?_) (fun hg => ?_)) | (refine CondB_of _ _ _ _ _ _ _ ?_ (fun hg => ?_) (fun hg => ?_)))
  all_goals (try (first | ((first | unfold noN | unfold Fr.below | unfold Loc.below); simp [Fr.allN, AV.allN, AV.allNL, AO.allN]; done) | rfl | trivial | assumption | (intro row hrow; simp only [List.mem_map] at hrow; obtain ⟨x, _, rfl⟩ := hrow; rfl) | (refine Wk.keep hcl ?_ ?_ ?_; (focus (simp [Fr.get, ints, int_] <;> fail)); (focus (simp [sto, ints, int_] <;> fail)); (focus (simp <;> fail))) | (simp [allP, opd, Fr.get, Fr.below, Fr.allN, AV.allN, AV.allNL, Loc.below, AO.allN, noN, killO, killT, killD, mkNames, AO.kill, AV.kill, AV.mapN, AV.mapNL]; done) | (with_reducible exact ltD (by assumption)) | omega | (simp only [decide_eq_true_eq, decide_eq_false_iff_not] at *; omega)))
  all_goals (first | (rw [idxI_some (ltD (by assumption)) (by assumption) hF]; done) | (rw [idxI_none (geD (by assumption)) hk hF]; done) | exact allN' (p := fun i => p xs[i]!) hF (by assumption) | trace_state)
theorem containsF_p (xs : List Int) (g : FuncId) (p : Int → Bool) (hf : ∀ i, i < xs.length → Purev Try.prog (.clo (.func g) [] []) [I xs[i]!] (Bo (p xs[i]!))) :
    Pure Try.prog 21 [.d (ints xs), .clo (.func g) [] []] (Bo (xs.any p)) := by
  refine pure_of follows Try.func21 c21_eq r21 (Nat.le_of_ble_eq_true rfl) fun B σ hcl hsz => ?_
  clear hsz
  repeat' (first | (simp -implicitDefEqProofs only [*, contN, contC, Nat.reduceBEq, Bool.or_false, Bool.or_true, Bool.false_or, Bool.true_or, Bool.not_true, Bool.not_false, w_skip, w_ret, w_exit, w_reg, w_dreg, w_seq, SK_n, SK_r, SK_x, w_keep, w_block, w_cond, w_nil, w_cons, w_consg, w_nnil, w_ncons, w_dnil, w_dcons, w_dconsg, HK_app, HD_app, HQ_n, HQ_r, HQ_x, HQ_bn, HQ_br, HQ_bx, HQ_en, HQ_er, HQ_ex, CondB_true, CondB_false, SO1, w_sdv, SDe_alloc, SDe_box, SDe_bslice, SDe_app, true_imp_iff, false_imp_iff, and_false, false_and, not_false_eq_true, not_true_eq_false, addN, mkNames, killT, killD, killO, List.foldl_nil, List.foldl_cons, List.append_nil, List.nil_append, List.cons_append, GuardS_true, GuardS_false, GuardD_true, GuardD_false, DK_true, DK_false, lt_self_add, le_self_add, decide_true, decide_false, Bool.false_eq_true, Bool.true_eq_false, Nat.add_left_cancel_iff, SE, SEalloc, SEbox, SEstore, w_bs, SEbl, SEfz, SEbs0, fzName, osOf, AV.fz1, w_app, w_mk, aev, opd, Fr.get, putO, Fr.norm, List.map_cons, List.map_nil, with1, with2, onInt, AV.lit, entry, ↓reduceIte, Nat.reduceEqDiff, Nat.reduceAdd, reduceCtorEq, true_and, and_true, Option.map_some, Option.map_none, Option.bind_some, Option.bind_none, cond_true, cond_false, binV, unV, fieldV, loadV, sto, cellsAV, newF, newL, Fr.map, Loc.kill, Loc.set, AO.kill, AV.kill, AV.mapN, AV.mapNL, List.filter_nil, List.filter_cons, allP, EndV, retV, resV, resL, frz, dropL, AV.pick, nilV, tupV, imp_self, ne_eq, Int.cast_ofNat_Int, Int.reduceLT, Int.reduceToNat, List.getD_cons_zero, List.getD_cons_succ, bsliceV, buildV, afill, repl, chunk, rvs, AV.rv, RV.nrm, List.getElem?_nil, List.append_assoc, Nat.reduceMul, Nat.reducePow, Nat.zero_lt_succ, Nat.zero_add, Nat.add_zero, List.length_cons, List.length_nil, Nat.reduceLeDiff, Nat.le_refl, List.take_succ_cons, List.take_zero, List.drop_succ_cons, List.drop_zero, indexV, lenV, rowOf_mapD, rowOf_mapI, rowOf_mapA, List.length_map, Int.toNat_natCast, List.getElem?_cons_zero, List.getElem?_cons_succ, and_self, implies_true, if_true, if_false, HQ_zn, HQ_zr, HQ_wn, HQ_wr, AV.nz, AV.nzL, RV.nrm, SEbin, SEnil, nilK, srcV, dstV, appName, List.length_append, Nat.mul_one, take_map_len, take_map_app, List.getElem?_cons_zero, List.map_append, SEmkmap, SEmset, mgetV, kvOf, getM, setM, c21, r21, u21_1, ty3]) | (with_reducible refine And.intro ?_ ?_) | (refine call_ro e41 ( indexF_p xs g p hf) rfl ?_ ?_ ?_ ?_) | (refine gcall_ro e41 ( indexF_p xs g p hf) rfl ?_ ?_ ?_ ?_) | (refine dcall_ro e41 ( indexF_p xs g p hf) rfl ?_ ?_ ?_ ?_) | (refine gdcall_ro rfl e41 ( indexF_p xs g p hf) rfl ?_ ?_ ?_ ?_) | (refine EndX.plain ?_) | (refine nil_split (fun hn => ?_) (fun hn => ?_)) | (refine gcall_no not_false ?_) | (refine gdcall_no not_false ?_) | (refine GuardS_of _ _ _ _ _ _ (fun hg => ?_) (fun hg => ?_)) | (refine GuardD_of _ _ _ _ (fun hg => ?_) (fun hg => ?_)) | (refine CondB_of _ _ _ _ _ _ _ ?_ (fun hg => ?_) (fun hg => ?_)))
  all_goals (try (first | ((first | unfold noN | unfold Fr.below | unfold Loc.below); simp [Fr.allN, AV.allN, AV.allNL, AO.allN]; done) | rfl | trivial | assumption | (intro row hrow; simp only [List.mem_map] at hrow; obtain ⟨x, _, rfl⟩ := hrow; rfl) | (refine Wk.keep hcl ?_ ?_ ?_; (focus (simp [Fr.get] <;> fail)); (focus (simp [sto] <;> fail)); (focus (simp <;> fail))) | (simp [allP, opd, Fr.get, Fr.below, Fr.allN, AV.allN, AV.allNL, Loc.below, AO.allN, noN, killO, killT, killD, mkNames, AO.kill, AV.kill, AV.mapN, AV.mapNL]; done) | (with_reducible exact ltD (by assumption)) | omega | (simp only [decide_eq_true_eq, decide_eq_false_iff_not] at *; omega)))
  all_goals (try (simp [allP, opd, Fr.get, Fr.below, Fr.allN, AV.allN, AV.allNL, Loc.below]; done))
  all_goals (try (rw [idxI_any]))
def outP (n : Int) : Bool := decide (n < 0) || decide (n > 4000)
theorem place1_p (n : Int) : Purev Try.prog (.clo (.func 22) [] []) [I n] (Bo (outP n)) := by
  have h : Pure Try.prog 22 [I n] (Bo (outP n)) := by
    refine pure_of follows Try.func22 c22_eq r22 (Nat.le_of_ble_eq_true rfl) fun B σ hcl hsz => ?_
    clear hsz
    repeat' (first | (simp -implicitDefEqProofs only [*, contN, contC, Nat.reduceBEq, Bool.or_false, Bool.or_true, Bool.false_or, Bool.true_or, Bool.not_true, Bool.not_false, w_skip, w_ret, w_exit, w_reg, w_dreg, w_seq, SK_n, SK_r, SK_x, w_keep, w_block, w_cond, w_nil, w_cons, w_consg, w_nnil, w_ncons, w_dnil, w_dcons, w_dconsg, HK_app, HD_app, HQ_n, HQ_r, HQ_x, HQ_bn, HQ_br, HQ_bx, HQ_en, HQ_er, HQ_ex, CondB_true, CondB_false, SO1, w_sdv, SDe_alloc, SDe_box, SDe_bslice, SDe_app, true_imp_iff, false_imp_iff, and_false, false_and, not_false_eq_true, not_true_eq_false, addN, mkNames, killT, killD, killO, List.foldl_nil, List.foldl_cons, List.append_nil, List.nil_append, List.cons_append, GuardS_true, GuardS_false, GuardD_true, GuardD_false, DK_true, DK_false, lt_self_add, le_self_add, decide_true, decide_false, Bool.false_eq_true, Bool.true_eq_false, Nat.add_left_cancel_iff, SE, SEalloc, SEbox, SEstore, w_bs, SEbl, SEfz, SEbs0, fzName, osOf, AV.fz1, w_app, w_mk, aev, opd, Fr.get, putO, Fr.norm, List.map_cons, List.map_nil, with1, with2, onInt, AV.lit, entry, ↓reduceIte, Nat.reduceEqDiff, Nat.reduceAdd, reduceCtorEq, true_and, and_true, Option.map_some, Option.map_none, Option.bind_some, Option.bind_none, cond_true, cond_false, binV, unV, fieldV, loadV, sto, cellsAV, newF, newL, Fr.map, Loc.kill, Loc.set, AO.kill, AV.kill, AV.mapN, AV.mapNL, List.filter_nil, List.filter_cons, allP, EndV, retV, resV, resL, frz, dropL, AV.pick, nilV, tupV, imp_self, ne_eq, Int.cast_ofNat_Int, Int.reduceLT, Int.reduceToNat, List.getD_cons_zero, List.getD_cons_succ, bsliceV, buildV, afill, repl, chunk, rvs, AV.rv, RV.nrm, List.getElem?_nil, List.append_assoc, Nat.reduceMul, Nat.reducePow, Nat.zero_lt_succ, Nat.zero_add, Nat.add_zero, List.length_cons, List.length_nil, Nat.reduceLeDiff, Nat.le_refl, List.take_succ_cons, List.take_zero, List.drop_succ_cons, List.drop_zero, indexV, lenV, rowOf_mapD, rowOf_mapI, rowOf_mapA, List.length_map, Int.toNat_natCast, List.getElem?_cons_zero, List.getElem?_cons_succ, and_self, implies_true, if_true, if_false, HQ_zn, HQ_zr, HQ_wn, HQ_wr, AV.nz, AV.nzL, RV.nrm, SEbin, SEnil, nilK, srcV, dstV, appName, List.length_append, Nat.mul_one, take_map_len, take_map_app, List.getElem?_cons_zero, List.map_append, SEmkmap, SEmset, mgetV, kvOf, getM, setM, c22, r22, v22_1, u22_2, ty3]) | (with_reducible refine And.intro ?_ ?_) | (refine EndX.plain ?_) | (refine nil_split (fun hn => ?_) (fun hn => ?_)) | (refine gcall_no not_false ?_) | (refine gdcall_no not_false ?_) | (refine GuardS_of _ _ _ _ _ _ (fun hg => ?_) (fun hg => ?_)) | (refine GuardD_of _ _ _ _ (fun hg => ?_) (fun hg => ?_)) | (refine CondB_of _ _ _ _ _ _ _ ?_ (fun hg => ?_) (fun hg => ?_)))
    all_goals (try (first | ((first | unfold noN | unfold Fr.below | unfold Loc.below); simp [Fr.allN, AV.allN, AV.allNL, AO.allN]; done) | rfl | trivial | assumption | (intro row hrow; simp only [List.mem_map] at hrow; obtain ⟨x, _, rfl⟩ := hrow; rfl) | (refine Wk.keep hcl ?_ ?_ ?_; (focus (simp [Fr.get] <;> fail)); (focus (simp [sto] <;> fail)); (focus (simp <;> fail))) | (simp [allP, opd, Fr.get, Fr.below, Fr.allN, AV.allN, AV.allNL, Loc.below, AO.allN, noN, killO, killT, killD, mkNames, AO.kill, AV.kill, AV.mapN, AV.mapNL]; done) | (with_reducible exact ltD (by assumption)) | omega | (simp only [decide_eq_true_eq, decide_eq_false_iff_not] at *; omega)))
    all_goals (simp only [outP, *, Bool.false_or, Bool.true_or, Bool.or_true, Bool.or_false, Bool.and_true, Bool.true_and, Bool.false_and, Bool.and_false, Bool.not_true, Bool.not_false, cond_true, cond_false])
  exact Pure.clo e22 h
theorem allIn_p (l : List Int) : Pure Try.prog 25 [I 4000, .d (ints l)] (Bo (!l.any outP)) := by
  refine pure_of follows Try.func25 c25_eq r25 (Nat.le_of_ble_eq_true rfl) fun B σ hcl hsz => ?_
  have hlen : l.length ≤ 2 ^ 47 := by simpa using (show Sized (ints l) from hsz (.d (ints l)) (by simp)).len
  clear hsz
  have ho : ∀ n : Int, (!inR n 0 4000) = outP n := fun n => by
    unfold outP
    rw [Bool.eq_iff_iff]
    simp only [Bool.not_eq_true', inR_ne, Bool.or_eq_true, decide_eq_true_eq, gt_iff_lt]
  repeat' (first | (simp -implicitDefEqProofs only [*, contN, contC, Nat.reduceBEq, Bool.or_false, Bool.or_true, Bool.false_or, Bool.true_or, Bool.not_true, Bool.not_false, w_skip, w_ret, w_exit, w_reg, w_dreg, w_seq, SK_n, SK_r, SK_x, w_keep, w_block, w_cond, w_nil, w_cons, w_consg, w_nnil, w_ncons, w_dnil, w_dcons, w_dconsg, HK_app, HD_app, HQ_n, HQ_r, HQ_x, HQ_bn, HQ_br, HQ_bx, HQ_en, HQ_er, HQ_ex, CondB_true, CondB_false, SO1, w_sdv, SDe_alloc, SDe_box, SDe_bslice, SDe_app, true_imp_iff, false_imp_iff, and_false, false_and, not_false_eq_true, not_true_eq_false, addN, mkNames, killT, killD, killO, List.foldl_nil, List.foldl_cons, List.append_nil, List.nil_append, List.cons_append, GuardS_true, GuardS_false, GuardD_true, GuardD_false, DK_true, DK_false, lt_self_add, le_self_add, decide_true, decide_false, Bool.false_eq_true, Bool.true_eq_false, Nat.add_left_cancel_iff, SE, SEalloc, SEbox, SEstore, w_bs, SEbl, SEfz, SEbs0, fzName, osOf, AV.fz1, w_app, w_mk, aev, opd, Fr.get, putO, Fr.norm, List.map_cons, List.map_nil, with1, with2, onInt, AV.lit, entry, ↓reduceIte, Nat.reduceEqDiff, Nat.reduceAdd, reduceCtorEq, true_and, and_true, Option.map_some, Option.map_none, Option.bind_some, Option.bind_none, cond_true, cond_false, binV, unV, fieldV, loadV, sto, cellsAV, newF, newL, Fr.map, Loc.kill, Loc.set, AO.kill, AV.kill, AV.mapN, AV.mapNL, List.filter_nil, List.filter_cons, allP, EndV, retV, resV, resL, frz, dropL, AV.pick, nilV, tupV, imp_self, ne_eq, Int.cast_ofNat_Int, Int.reduceLT, Int.reduceToNat, List.getD_cons_zero, List.getD_cons_succ, bsliceV, buildV, afill, repl, chunk, rvs, AV.rv, RV.nrm, List.getElem?_nil, List.append_assoc, Nat.reduceMul, Nat.reducePow, Nat.zero_lt_succ, Nat.zero_add, Nat.add_zero, List.length_cons, List.length_nil, Nat.reduceLeDiff, Nat.le_refl, List.take_succ_cons, List.take_zero, List.drop_succ_cons, List.drop_zero, indexV, lenV, rowOf_mapD, rowOf_mapI, rowOf_mapA, List.length_map, Int.toNat_natCast, List.getElem?_cons_zero, List.getElem?_cons_succ, and_self, implies_true, if_true, if_false, HQ_zn, HQ_zr, HQ_wn, HQ_wr, AV.nz, AV.nzL, RV.nrm, SEbin, SEnil, nilK, srcV, dstV, appName, List.length_append, Nat.mul_one, take_map_len, take_map_app, List.getElem?_cons_zero, List.map_append, SEmkmap, SEmset, mgetV, kvOf, getM, setM, c25, r25, u25_1, v25_2, u25_3, u25_4, u25_5, u25_6, u25_7, u25_8, u25_9, u25_10, ty28, ty3, ints, int_]) | (with_reducible refine And.intro ?_ ?_) | (refine call_ro e26 ( In_p _ _ _) rfl ?_ ?_ ?_ ?_) | (refine gcall_ro e26 ( In_p _ _ _) rfl ?_ ?_ ?_ ?_) | (refine dcall_ro e26 ( In_p _ _ _) rfl ?_ ?_ ?_ ?_) | (refine gdcall_ro rfl e26 ( In_p _ _ _) rfl ?_ ?_ ?_ ?_) | (refine loop_nat (l.length) (fun k => ∀ i, i < k → outP l[i]! = false) (fun k => [(1, .d (.ro (l.map int_))), (0, I 4000), (5, I k)]) (fun k => []) ?_ (Wk.keep hcl ?_ ?_ ?_) fun k hk hF => ?_; rotate_left 1; (focus (simp [Fr.get, newF, Fr.map, AV.kill, AV.mapN, ints, int_] <;> fail)); (focus (simp [sto, newL, Loc.kill, Loc.set, AO.kill, AV.kill, AV.mapN, ints, int_] <;> fail)); (focus (simp [newL, Loc.kill, Loc.set, ints, int_] <;> fail)); (try have hw : IntKind.i64.wrap ((k : Int) + 1) = (k : Int) + 1 := IntWalk.i64_in _ (by omega))) | (refine EndX.plain ?_) | (refine nil_split (fun hn => ?_) (fun hn => ?_)) | (refine gcall_no not_false ?_) | (refine gdcall_no not_false ?_) | (refine GuardS_of _ _ _ _ _ _ (fun hg => ?_) (fun hg => ?_)) | (refine GuardD_of _ _ _ _ (fun hg => ?_) (fun hg => ?_)) | (refine CondB_of _ _ _ _ _ _ _ ?_ (fun hg => ?_) (fun hg => ?_)))
  all_goals (try (first | ((first | unfold noN | unfold Fr.below | unfold Loc.below); simp [Fr.allN, AV.allN, AV.allNL, AO.allN]; done) | rfl | trivial | assumption | (intro row hrow; simp only [List.mem_map] at hrow; obtain ⟨x, _, rfl⟩ := hrow; rfl) | (refine Wk.keep hcl ?_ ?_ ?_; (focus (simp [Fr.get, ints, int_] <;> fail)); (focus (simp [sto, ints, int_] <;> fail)); (focus (simp <;> fail))) | (simp [allP, opd, Fr.get, Fr.below, Fr.allN, AV.allN, AV.allNL, Loc.below, AO.allN, noN, killO, killT, killD, mkNames, AO.kill, AV.kill, AV.mapN, AV.mapNL]; done) | (with_reducible exact ltD (by assumption)) | omega | (simp only [decide_eq_true_eq, decide_eq_false_iff_not] at *; omega)))
  all_goals first
    | (have h1 := ltS (by assumption : decide ((k : Int) < (l.length : Int)) = true)
       have h2 : outP l[k]! = true := by assumption
       have h3 : l.any outP = true := List.any_eq_true.2 ⟨l[k]!, by rw [getElem!_pos l k h1]; exact List.getElem_mem h1, h2⟩
       rw [h3]; rfl)
    | (have h1 := geS (by assumption : decide ((k : Int) < (l.length : Int)) = false)
       have h3 : l.any outP = false := by
         rw [List.any_eq_false]
         intro x hx
         obtain ⟨i, hi, rfl⟩ := mem_get hx
         rw [hF i (by omega)]; decide
       rw [h3]; rfl)
    | exact allN' (p := fun i => outP l[i]!) hF (by assumption)
end Go.Proofs.Yteaojhieghakfaa
