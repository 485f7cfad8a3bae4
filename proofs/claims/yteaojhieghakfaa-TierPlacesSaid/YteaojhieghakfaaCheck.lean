/- state.Check. -/
import Derived.Test.YteaojhieghakfaaVers
import Derived.Test.YteaojhieghakfaaUps
import Derived.Test.YteaojhieghakfaaQueue
import Derived.Test.YteaojhieghakfaaTypes
namespace Go.Proofs.Yteaojhieghakfaa
open Go.RowKit
set_option maxRecDepth 100000
def o20_1 : List SO := ((SO.mk (some 22) (.bin .gtr 3 (.tmp 21) (.const (Value.int .i64 1073741824))) (some (19 , false))) :: (SO.mk (some 23) (.pick (.tmp 19) (.const (Value.bool true)) (.tmp 22)) none) :: [])
theorem v20_1 : type_of% (@swl _ _ o20_1.eq_1) := @swl _ _ o20_1.eq_1
def o20_2 : List SO := ((SO.mk (some 18) (.pick (.tmp 14) (.const (Value.bool true)) (.tmp 17)) none) :: (SO.mk (some 19) (.move (.tmp 18)) none) :: (SO.mk (some 20) (.faddr 30 (.tmp 1) 1) (some (19 , false))) :: (SO.mk (some 21) (.load 3 (.tmp 20)) (some (19 , false))) :: o20_1)
theorem v20_2 : type_of% (@swl _ _ o20_2.eq_1) := @swl _ _ o20_2.eq_1
def o20_3 : List SO := ((SO.mk (some 14) (.move (.tmp 13)) none) :: (SO.mk (some 15) (.faddr 30 (.tmp 1) 1) (some (14 , false))) :: (SO.mk (some 16) (.load 3 (.tmp 15)) (some (14 , false))) :: (SO.mk (some 17) (.bin .lss 3 (.tmp 16) (.const (Value.int .i64 0))) (some (14 , false))) :: o20_2)
theorem v20_3 : type_of% (@swl _ _ o20_3.eq_1) := @swl _ _ o20_3.eq_1
def o20_4 : List SO := ((SO.mk (some 10) (.faddr 30 (.tmp 1) 0) (some (9 , false))) :: (SO.mk (some 11) (.load 3 (.tmp 10)) (some (9 , false))) :: (SO.mk (some 12) (.bin .gtr 3 (.tmp 11) (.const (Value.int .i64 1048576))) (some (9 , false))) :: (SO.mk (some 13) (.pick (.tmp 9) (.const (Value.bool true)) (.tmp 12)) none) :: o20_3)
theorem v20_4 : type_of% (@swl _ _ o20_4.eq_1) := @swl _ _ o20_4.eq_1
def c20_5 : SC := (.seq (.reg [SO.mk (some 2) (.move (.const (Value.int .i64 9))) none]) (.keep [2] .ret))
theorem u20_5 : type_of% (@swc _ _ c20_5.eq_1) := @swc _ _ c20_5.eq_1
def c20_6 : SC := (.cond (.tmp 23) c20_5 .skip)
theorem u20_6 : type_of% (@swc _ _ c20_6.eq_1) := @swc _ _ c20_6.eq_1
def o20_7 : List SO := ((SO.mk (some 48) (.move (.tmp 4)) (some (41 , true))) :: (SO.mk (some 49) (.bin .geq 3 (.tmp 47) (.tmp 48)) (some (41 , true))) :: (SO.mk (some 50) (.pick (.tmp 41) (.tmp 49) (.const (Value.bool false))) (some (38 , false))) :: (SO.mk (some 51) (.pick (.tmp 38) (.const (Value.bool true)) (.tmp 50)) none) :: [])
theorem v20_7 : type_of% (@swl _ _ o20_7.eq_1) := @swl _ _ o20_7.eq_1
def o20_8 : List SO := ((SO.mk (some 44) (.move (.tmp 3)) (some (41 , true))) :: (SO.mk (some 45) (.bin .sub 3 (.tmp 44) (.const (Value.int .i64 1))) (some (41 , true))) :: (SO.mk (some 46) (.iaddr 28 (.tmp 43) (.tmp 45)) (some (41 , true))) :: (SO.mk (some 47) (.load 3 (.tmp 46)) (some (41 , true))) :: o20_7)
theorem v20_8 : type_of% (@swl _ _ o20_8.eq_1) := @swl _ _ o20_8.eq_1
def o20_9 : List SO := ((SO.mk (some 40) (.bin .gtr 3 (.tmp 39) (.const (Value.int .i64 0))) (some (38 , false))) :: (SO.mk (some 41) (.move (.tmp 40)) (some (38 , false))) :: (SO.mk (some 42) (.faddr 30 (.tmp 1) 6) (some (41 , true))) :: (SO.mk (some 43) (.load 28 (.tmp 42)) (some (41 , true))) :: o20_8)
theorem v20_9 : type_of% (@swl _ _ o20_9.eq_1) := @swl _ _ o20_9.eq_1
def o20_10 : List SO := ((SO.mk (some 36) (.bin .geq 3 (.tmp 35) (.const (Value.int .i64 8))) (some (34 , false))) :: (SO.mk (some 37) (.pick (.tmp 34) (.const (Value.bool true)) (.tmp 36)) none) :: (SO.mk (some 38) (.move (.tmp 37)) none) :: (SO.mk (some 39) (.move (.tmp 3)) (some (38 , false))) :: o20_9)
theorem v20_10 : type_of% (@swl _ _ o20_10.eq_1) := @swl _ _ o20_10.eq_1
def c20_11 : SC := (.seq (.reg [SO.mk (some 2) (.move (.const (Value.int .i64 9))) none]) (.keep [2] .ret))
theorem u20_11 : type_of% (@swc _ _ c20_11.eq_1) := @swc _ _ c20_11.eq_1
def c20_12 : SC := (.cond (.tmp 51) c20_11 .skip)
theorem u20_12 : type_of% (@swc _ _ c20_12.eq_1) := @swc _ _ c20_12.eq_1
def c20_13 : SC := (.seq (.reg ((SO.mk (some 32) (.move (.tmp 4)) none) :: (SO.mk (some 33) (.bin .lss 3 (.tmp 32) (.const (Value.int .i64 0))) none) :: (SO.mk (some 34) (.move (.tmp 33)) none) :: (SO.mk (some 35) (.move (.tmp 4)) (some (34 , false))) :: o20_10)) (.keep [51, 27, 26, 25, 1] c20_12))
theorem u20_13 : type_of% (@swc _ _ c20_13.eq_1) := @swc _ _ c20_13.eq_1
def c20_14 : SC := (.reg [SO.mk (some 52) (.bin .add 3 (.tmp 27) (.const (Value.int .i64 1))) none, SO.mk (some 27) (.move (.tmp 52)) none])
theorem u20_14 : type_of% (@swc _ _ c20_14.eq_1) := @swc _ _ c20_14.eq_1
def c20_15 : SC := (.seq (.block 1 (.seq (.reg [SO.mk (some 29) (.move (.tmp 27)) none, SO.mk (some 30) (.iaddr 28 (.tmp 25) (.tmp 27)) none, SO.mk (some 31) (.load 3 (.tmp 30)) none, SO.mk (some 3) (.move (.tmp 29)) none, SO.mk (some 4) (.move (.tmp 31)) none]) (.keep [3, 4, 27, 26, 25, 1] c20_13))) (.keep [27, 26, 25, 1] c20_14))
theorem u20_15 : type_of% (@swc _ _ c20_15.eq_1) := @swc _ _ c20_15.eq_1
def c20_16 : SC := (.seq (.cond (.tmp 28) .skip (.exit 0)) (.keep [27, 26, 25, 1] c20_15))
theorem u20_16 : type_of% (@swc _ _ c20_16.eq_1) := @swc _ _ c20_16.eq_1
def c20_17 : SC := (.seq (.reg [SO.mk (some 28) (.bin .lss 3 (.tmp 27) (.tmp 26)) none]) (.keep [28, 25, 26, 27, 1] c20_16))
theorem u20_17 : type_of% (@swc _ _ c20_17.eq_1) := @swc _ _ c20_17.eq_1
def c20_18 : SC := (.block 0 (.loop (.keep [25, 26, 27, 1] c20_17)))
theorem u20_18 : type_of% (@swc _ _ c20_18.eq_1) := @swc _ _ c20_18.eq_1
def o20_19 : List SO := ((SO.mk (some 74) (.pick (.tmp 70) (.const (Value.bool true)) (.tmp 73)) none) :: [])
theorem v20_19 : type_of% (@swl _ _ o20_19.eq_1) := @swl _ _ o20_19.eq_1
def o20_20 : List SO := ((SO.mk (some 70) (.move (.tmp 69)) none) :: (SO.mk (some 71) (.load 30 (.tmp 1)) (some (70 , false))) :: (SO.mk (some 72) (.call 40 [(.tmp 71)]) (some (70 , false))) :: (SO.mk (some 73) (.un .not (.tmp 72)) (some (70 , false))) :: o20_19)
theorem v20_20 : type_of% (@swl _ _ o20_20.eq_1) := @swl _ _ o20_20.eq_1
def o20_21 : List SO := ((SO.mk (some 66) (.move (.tmp 5)) (some (64 , false))) :: (SO.mk (some 67) (.call 39 [(.tmp 65), (.tmp 66)]) (some (64 , false))) :: (SO.mk (some 68) (.un .not (.tmp 67)) (some (64 , false))) :: (SO.mk (some 69) (.pick (.tmp 64) (.const (Value.bool true)) (.tmp 68)) none) :: o20_20)
theorem v20_21 : type_of% (@swl _ _ o20_21.eq_1) := @swl _ _ o20_21.eq_1
def o20_22 : List SO := ((SO.mk (some 62) (.un .not (.tmp 61)) (some (58 , false))) :: (SO.mk (some 63) (.pick (.tmp 58) (.const (Value.bool true)) (.tmp 62)) none) :: (SO.mk (some 64) (.move (.tmp 63)) none) :: (SO.mk (some 65) (.load 30 (.tmp 1)) (some (64 , false))) :: o20_21)
theorem v20_22 : type_of% (@swl _ _ o20_22.eq_1) := @swl _ _ o20_22.eq_1
def o20_23 : List SO := ((SO.mk (some 58) (.move (.tmp 57)) none) :: (SO.mk (some 59) (.load 30 (.tmp 1)) (some (58 , false))) :: (SO.mk (some 60) (.move (.tmp 5)) (some (58 , false))) :: (SO.mk (some 61) (.call 38 [(.tmp 59), (.tmp 60)]) (some (58 , false))) :: o20_22)
theorem v20_23 : type_of% (@swl _ _ o20_23.eq_1) := @swl _ _ o20_23.eq_1
def c20_24 : SC := (.seq (.reg [SO.mk (some 2) (.move (.const (Value.int .i64 9))) none]) (.keep [2] .ret))
theorem u20_24 : type_of% (@swc _ _ c20_24.eq_1) := @swc _ _ c20_24.eq_1
def c20_25 : SC := (.cond (.tmp 74) c20_24 .skip)
theorem u20_25 : type_of% (@swc _ _ c20_25.eq_1) := @swc _ _ c20_25.eq_1
def c20_26 : SC := (.seq (.reg [SO.mk (some 2) (.move (.const (Value.int .i64 0))) none]) (.keep [2] .ret))
theorem u20_26 : type_of% (@swc _ _ c20_26.eq_1) := @swc _ _ c20_26.eq_1
def c20_27 : SC := (.seq (.seq (.reg ((SO.mk (some 54) (.faddr 30 (.tmp 1) 2) none) :: (SO.mk (some 55) (.load 24 (.tmp 54)) none) :: (SO.mk (some 56) (.call 37 [(.tmp 55)]) none) :: (SO.mk (some 57) (.un .not (.tmp 56)) none) :: o20_23)) (.keep [74] c20_25)) (.keep [] c20_26))
theorem u20_27 : type_of% (@swc _ _ c20_27.eq_1) := @swc _ _ c20_27.eq_1
def c20_28 : SC := (.seq (.reg [SO.mk (some 53) (.mkmap 62) none, SO.mk (some 5) (.move (.tmp 53)) none]) (.keep [5, 1] c20_27))
theorem u20_28 : type_of% (@swc _ _ c20_28.eq_1) := @swc _ _ c20_28.eq_1
def c20_29 : SC := (.seq (.seq (.reg [SO.mk (some 24) (.faddr 30 (.tmp 1) 6) none, SO.mk (some 25) (.load 28 (.tmp 24)) none, SO.mk (some 26) (.len 28 (.tmp 25)) none, SO.mk (some 27) (.move (.const (Value.int .i64 0))) none]) (.keep [25, 26, 27, 1] c20_18)) (.keep [1] c20_28))
theorem u20_29 : type_of% (@swc _ _ c20_29.eq_1) := @swc _ _ c20_29.eq_1
def c20_30 : SC := (.seq (.seq (.reg ((SO.mk (some 6) (.faddr 30 (.tmp 1) 0) none) :: (SO.mk (some 7) (.load 3 (.tmp 6)) none) :: (SO.mk (some 8) (.bin .lss 3 (.tmp 7) (.const (Value.int .i64 1))) none) :: (SO.mk (some 9) (.move (.tmp 8)) none) :: o20_4)) (.keep [23, 1] c20_6)) (.keep [1] c20_29))
theorem u20_30 : type_of% (@swc _ _ c20_30.eq_1) := @swc _ _ c20_30.eq_1
def c20 : SC := (.seq (.reg [SO.mk (some 1) (.box 30 (.tmp 0)) none, SO.mk (some 2) (.move (.const (Value.int .i64 0))) none]) (.keep [1] c20_30))
theorem c20_eq : annC Try.f20 = some c20 := by kernel_rfl
theorem r20 : Try.f20.results.toList = [.tmp 2] := by kernel_rfl
theorem e20 : enters Try.prog 20 = true := by kernel_rfl
end Go.Proofs.Yteaojhieghakfaa
namespace Go.Proofs.Yteaojhieghakfaa
open Go.RowKit
set_option maxHeartbeats 4000000
set_option maxRecDepth 20000
attribute [local irreducible] SW SWL SWLn SWD SEcall SEcallv SDv SE SO1 SOg ACalls ACallv Wk EndV
set_option linter.unusedSimpArgs false
set_option linter.unusedVariables false
def gnBad (l : List Int) (k : Nat) : Bool := decide (l[k]! < 0) || (decide (l[k]! ≥ 8) || (decide ((k : Int) > 0) && decide (l[k - 1]! ≥ l[k]!)))
def numBad (s : SttD) : Bool := decide (s.next < 1) || (decide (s.next > 1048576) || (decide (s.clock < 0) || decide (s.clock > 1073741824)))
def goneF (l : List Int) : Bool := (List.range l.length).all (fun k => !gnBad l k)
def restF (s : SttD) : Bool := bktsF s.bkts && ((versF s []).1 && ((upsF s (versF s []).2).1 && queueF s))
def checkF (s : SttD) : Int := bif numBad s then 9 else bif goneF s.gone then (bif restF s then 0 else 9) else 9
theorem gone_no {l : List Int} {k : Nat} (hk : decide ((k : Int) < (l.length : Int)) = true) (h : gnBad l k = true) : goneF l = false := rng_no (ltS hk) h
theorem gone_all {l : List Int} {k : Nat} (hk : decide ((k : Int) < (l.length : Int)) = false) (h : ∀ i, i < k → gnBad l i = false) : goneF l = true := rng_all fun i hi => h i (by have := geS hk; omega)
theorem check_p (s : SttD) (hkey : ∀ k, k < s.vers.length → (KV.s2 s.vers[k]!.bkt s.vers[k]!.key).ok true) (hfit : ∀ k : Nat, (s.ups[k]!).parts.length ≤ 2 ^ 47) : Pure Try.prog 20 [s.av] (I (checkF s)) := by
  refine pure_of follows Try.func20 c20_eq r20 (Nat.le_of_ble_eq_true rfl) fun B σ hcl hsz => ?_
  obtain ⟨z1, z2, z3, z4, z5⟩ := st_sz5 (hsz s.av (by simp))
  clear hsz
  have hpw : ∀ j : Nat, decide ((j : Int) < (s.gone.length : Int)) = true → decide ((j : Int) > 0) = true → IntKind.i64.wrap ((j : Int) - 1) = ((j - 1 : Nat) : Int) := fun j h1 h2 => prev_w (by have := ltS h1; omega) h2
  have hpr : ∀ j : Nat, decide ((j : Int) < (s.gone.length : Int)) = true → decide ((j : Int) > 0) = true → rowOf (s.gone.map int_) (j - 1) = [RV.v (.int .i64 s.gone[j - 1]!)] := fun j h1 h2 => prev_row (f := int_) (by have := ltS h1; omega) h2
  repeat' (first | (simp -implicitDefEqProofs only [*, contN, contC, Nat.reduceBEq, Bool.or_false, Bool.or_true, Bool.false_or, Bool.true_or, Bool.not_true, Bool.not_false, w_skip, w_ret, w_exit, w_reg, w_dreg, w_seq, SK_n, SK_r, SK_x, w_keep, w_block, w_cond, w_nil, w_cons, w_consg, w_nnil, w_ncons, w_dnil, w_dcons, w_dconsg, HK_app, HD_app, HQ_n, HQ_r, HQ_x, HQ_bn, HQ_br, HQ_bx, HQ_en, HQ_er, HQ_ex, CondB_true, CondB_false, SO1, w_sdv, SDe_alloc, SDe_box, SDe_bslice, SDe_app, true_imp_iff, false_imp_iff, and_false, false_and, not_false_eq_true, not_true_eq_false, addN, mkNames, killT, killD, killO, List.foldl_nil, List.foldl_cons, List.append_nil, List.nil_append, List.cons_append, GuardS_true, GuardS_false, GuardD_true, GuardD_false, DK_true, DK_false, lt_self_add, le_self_add, decide_true, decide_false, Bool.false_eq_true, Bool.true_eq_false, Nat.add_left_cancel_iff, SE, SEalloc, SEbox, SEstore, w_bs, SEbl, SEfz, SEbs0, fzName, osOf, AV.fz1, w_app, w_mk, aev, opd, Fr.get, putO, Fr.norm, List.map_cons, List.map_nil, with1, with2, onInt, AV.lit, entry, ↓reduceIte, Nat.reduceEqDiff, Nat.reduceAdd, reduceCtorEq, true_and, and_true, Option.map_some, Option.map_none, Option.bind_some, Option.bind_none, cond_true, cond_false, binV, unV, fieldV, loadV, sto, cellsAV, newF, newL, Fr.map, Loc.kill, Loc.set, AO.kill, AV.kill, AV.mapN, AV.mapNL, List.filter_nil, List.filter_cons, allP, EndV, retV, resV, resL, frz, dropL, AV.pick, nilV, tupV, imp_self, ne_eq, Int.cast_ofNat_Int, Int.reduceLT, Int.reduceToNat, List.getD_cons_zero, List.getD_cons_succ, bsliceV, buildV, afill, repl, chunk, rvs, AV.rv, RV.nrm, List.getElem?_nil, List.append_assoc, Nat.reduceMul, Nat.reducePow, Nat.zero_lt_succ, Nat.zero_add, Nat.add_zero, List.length_cons, List.length_nil, Nat.reduceLeDiff, Nat.le_refl, List.take_succ_cons, List.take_zero, List.drop_succ_cons, List.drop_zero, indexV, lenV, rowOf_mapD, rowOf_mapI, rowOf_mapA, List.length_map, Int.toNat_natCast, List.getElem?_cons_zero, List.getElem?_cons_succ, and_self, implies_true, if_true, if_false, HQ_zn, HQ_zr, HQ_wn, HQ_wr, AV.nz, AV.nzL, RV.nrm, SEbin, SEnil, nilK, srcV, dstV, appName, List.length_append, Nat.mul_one, take_map_len, take_map_app, List.getElem?_cons_zero, List.map_append, SEmkmap, SEmset, mgetV, kvOf, getM, setM, c20, r20, v20_1, v20_2, v20_3, v20_4, u20_5, u20_6, v20_7, v20_8, v20_9, v20_10, u20_11, u20_12, u20_13, u20_14, u20_15, u20_16, u20_17, u20_18, v20_19, v20_20, v20_21, v20_22, v20_23, u20_24, u20_25, u20_26, u20_27, u20_28, u20_29, u20_30, ty30, ty3, ty28, ty62, ty24, ty78, mt62, SttD.av, SttD.cells, ints, int_]) | (with_reducible refine And.intro ?_ ?_) | (refine call_ro e37 ( buckets_p s.bkts) rfl ?_ ?_ ?_ ?_) | (refine gcall_ro e37 ( buckets_p s.bkts) rfl ?_ ?_ ?_ ?_) | (refine dcall_ro e37 ( buckets_p s.bkts) rfl ?_ ?_ ?_ ?_) | (refine gdcall_ro rfl e37 ( buckets_p s.bkts) rfl ?_ ?_ ?_ ?_) | (refine call_ro e40 ( queue_p s) rfl ?_ ?_ ?_ ?_) | (refine gcall_ro e40 ( queue_p s) rfl ?_ ?_ ?_ ?_) | (refine dcall_ro e40 ( queue_p s) rfl ?_ ?_ ?_ ?_) | (refine gdcall_ro rfl e40 ( queue_p s) rfl ?_ ?_ ?_ ?_) | (refine gcall_do trivial ?_) | (refine call_own [] [(B + 53, .mp false (versF s []).2)] e38 (versions_p s [] hkey _ _ (B + 53) (by omega) (by simp [sto])) rfl ?_ ?_ ?_ ?_ ?_) | (refine call_own [] [(B + 53, .mp false (upsF s (versF s []).2).2)] e39 (uploads_p s (versF s []).2 hfit _ _ (B + 53) (by omega) (by simp [sto])) rfl ?_ ?_ ?_ ?_ ?_) | (refine loop_nat (s.gone.length) (fun k => ∀ i, i < k → gnBad s.gone i = false) (fun k => [(25, .d (ints s.gone)), (26, I s.gone.length), (27, I k), (1, .lp (B + 1) 0)]) (fun k => [(B + 1, .box s.cells)]) ?_ (Wk.keep hcl ?_ ?_ ?_) fun k hk hF => ?_; rotate_left 1; (focus (simp [Fr.get, newF, Fr.map, AV.kill, AV.mapN, SttD.av, SttD.cells, ints, int_] <;> fail)); (focus (simp [sto, newL, Loc.kill, Loc.set, AO.kill, AV.kill, AV.mapN, SttD.av, SttD.cells, ints, int_] <;> fail)); (focus (simp [newL, Loc.kill, Loc.set, SttD.av, SttD.cells, ints, int_] <;> fail)); (try have hw : IntKind.i64.wrap ((k : Int) + 1) = (k : Int) + 1 := IntWalk.i64_in _ (by omega))) | (refine EndX.plain ?_) | (refine nil_split (fun hn => ?_) (fun hn => ?_)) | (refine gcall_no not_false ?_) | (refine gdcall_no not_false ?_) | (refine GuardS_of _ _ _ _ _ _ (fun hg => ?_) (fun hg => ?_)) | (refine GuardD_of _ _ _ _ (fun hg => ?_) (fun hg => ?_)) | (refine CondB_of _ _ _ _ _ _ _ ?_ (fun hg => ?_) (fun hg => ?_)))
  all_goals (try (first | ((first | unfold noN | unfold Fr.below | unfold Loc.below); simp [Fr.allN, AV.allN, AV.allNL, AO.allN]; done) | rfl | trivial | assumption | (intro row hrow; simp only [List.mem_map] at hrow; obtain ⟨x, _, rfl⟩ := hrow; rfl) | (refine Wk.keep hcl ?_ ?_ ?_; (focus (simp [Fr.get, SttD.av, SttD.cells, ints, int_] <;> fail)); (focus (simp [sto, SttD.av, SttD.cells, ints, int_] <;> fail)); (focus (simp <;> fail))) | (simp [allP, opd, Fr.get, Fr.below, Fr.allN, AV.allN, AV.allNL, Loc.below, AO.allN, noN, killO, killT, killD, mkNames, AO.kill, AV.kill, AV.mapN, AV.mapNL]; done) | (with_reducible exact ltD (by assumption)) | omega | (simp only [decide_eq_true_eq, decide_eq_false_iff_not] at *; omega)))
  all_goals (try (simp [Fr.below, Loc.below, Fr.allN, AO.allN, AV.allN, AV.allNL]; done))
  all_goals (clear hpw hpr hkey hfit)
  all_goals (try (simp only [Bool.not_eq_true', Bool.not_eq_false'] at *))
  all_goals (try (
    have hN : numBad s = true := by simp only [numBad, *, Bool.false_or, Bool.true_or, Bool.or_true, Bool.or_false, Bool.and_true, Bool.true_and, Bool.false_and, Bool.and_false, Bool.not_true, Bool.not_false, cond_true, cond_false]
    simp only [checkF, hN, Bool.false_or, Bool.true_or, Bool.or_true, Bool.or_false, Bool.and_true, Bool.true_and, Bool.false_and, Bool.and_false, Bool.not_true, Bool.not_false, cond_true, cond_false]
    done))
  all_goals (have hN : numBad s = false := by simp only [numBad, *, Bool.false_or, Bool.true_or, Bool.or_true, Bool.or_false, Bool.and_true, Bool.true_and, Bool.false_and, Bool.and_false, Bool.not_true, Bool.not_false, cond_true, cond_false])
  all_goals (try (
    have h1 : decide ((k : Int) < (s.gone.length : Int)) = true := by assumption
    have hg : gnBad s.gone k = true := by simp only [gnBad, *, Bool.false_or, Bool.true_or, Bool.or_true, Bool.or_false, Bool.and_true, Bool.true_and, Bool.false_and, Bool.and_false, Bool.not_true, Bool.not_false, cond_true, cond_false]
    simp only [checkF, hN, gone_no h1 hg, Bool.false_or, Bool.true_or, Bool.or_true, Bool.or_false, Bool.and_true, Bool.true_and, Bool.false_and, Bool.and_false, Bool.not_true, Bool.not_false, cond_true, cond_false]
    done))
  all_goals (try (
    have h1 : decide ((k : Int) < (s.gone.length : Int)) = false := by assumption
    simp only [checkF, hN, gone_all h1 hF, restF, *, Bool.false_or, Bool.true_or, Bool.or_true, Bool.or_false, Bool.and_true, Bool.true_and, Bool.false_and, Bool.and_false, Bool.not_true, Bool.not_false, cond_true, cond_false]
    done))
  all_goals (try (
    have hO : gnBad s.gone k = false := by simp only [gnBad, *, Bool.false_or, Bool.true_or, Bool.or_true, Bool.or_false, Bool.and_true, Bool.true_and, Bool.false_and, Bool.and_false, Bool.not_true, Bool.not_false, cond_true, cond_false]
    exact allN' hF hO))
end Go.Proofs.Yteaojhieghakfaa
