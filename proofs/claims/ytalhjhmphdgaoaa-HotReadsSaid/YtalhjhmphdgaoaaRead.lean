/- hot.Read and the reference's. -/
import Derived.Test.YtalhjhmphdgaoaaGet
import Derived.Test.YtalhjhmphdgaoaaRoom2
import Derived.Test.YtalhjhmphdgaoaaTypes
namespace Go.Proofs.Ytalhjhmphdgaoaa
open Go.RowKit
set_option maxRecDepth 100000
def o31_1 : List SO := ((SO.mk (some 7) (.load 3 (.tmp 6)) none) :: (SO.mk (some 8) (.bin .mul 3 (.const (Value.int .i64 2)) (.tmp 7)) none) :: (SO.mk (some 9) (.bin .add 3 (.tmp 5) (.tmp 8)) none) :: (SO.mk (some 2) (.move (.tmp 9)) none) :: [])
theorem v31_1 : type_of% (@swl _ _ o31_1.eq_1) := @swl _ _ o31_1.eq_1
def c31_2 : SC := (.seq (.reg ((SO.mk (some 3) (.faddr 23 (.tmp 1) 0) none) :: (SO.mk (some 4) (.load 3 (.tmp 3)) none) :: (SO.mk (some 5) (.bin .add 3 (.const (Value.int .i64 2)) (.tmp 4)) none) :: (SO.mk (some 6) (.faddr 23 (.tmp 1) 1) none) :: o31_1)) (.keep [2] .ret))
theorem u31_2 : type_of% (@swc _ _ c31_2.eq_1) := @swc _ _ c31_2.eq_1
def c31 : SC := (.seq (.reg [SO.mk (some 1) (.box 23 (.tmp 0)) none, SO.mk (some 2) (.move (.const (Value.int .i64 0))) none]) (.keep [1] c31_2))
theorem c31_eq : annC Try.f31 = some c31 := by kernel_rfl
theorem r31 : Try.f31.results.toList = [.tmp 2] := by kernel_rfl
theorem e31 : enters Try.prog 31 = true := by kernel_rfl
def c14_1 : SC := (.seq (.reg [SO.mk (some 21) (.move (.tmp 10)) none, SO.mk (some 8) (.move (.const (Value.slice none 0 0))) none, SO.mk (some 9) (.move (.tmp 21)) none]) (.keep [8, 9] .ret))
theorem u14_1 : type_of% (@swc _ _ c14_1.eq_1) := @swc _ _ c14_1.eq_1
def c14_2 : SC := (.cond (.tmp 20) c14_1 .skip)
theorem u14_2 : type_of% (@swc _ _ c14_2.eq_1) := @swc _ _ c14_2.eq_1
def c14_3 : SC := (.seq (.reg [SO.mk (some 19) (.move (.tmp 10)) none, SO.mk (some 20) (.bin .neq 30 (.tmp 19) (.const (Value.int .i64 0))) none]) (.keep [20, 10, 2, 5, 4, 3] c14_2))
theorem u14_3 : type_of% (@swc _ _ c14_3.eq_1) := @swc _ _ c14_3.eq_1
def c14_4 : SC := (.seq (.reg [SO.mk (some 8) (.move (.const (Value.slice none 0 0))) none, SO.mk (some 9) (.move (.const (Value.int .i64 2))) none]) (.keep [8, 9] .ret))
theorem u14_4 : type_of% (@swc _ _ c14_4.eq_1) := @swc _ _ c14_4.eq_1
def c14_5 : SC := (.cond (.tmp 26) c14_4 .skip)
theorem u14_5 : type_of% (@swc _ _ c14_5.eq_1) := @swc _ _ c14_5.eq_1
def o14_6 : List SO := ((SO.mk (some 41) (.extract (.tmp 33) 0) none) :: (SO.mk (some 42) (.extract (.tmp 33) 1) none) :: (SO.mk (some 14) (.move (.tmp 41)) none) :: (SO.mk (some 15) (.move (.tmp 42)) none) :: [])
theorem v14_6 : type_of% (@swd _ _ o14_6.eq_1) := @swd _ _ o14_6.eq_1
def o14_7 : List SO := ((SO.mk (some 38) (.move (.tmp 13)) none) :: (SO.mk (some 39) (.bin .add 3 (.tmp 37) (.tmp 38)) none) :: (SO.mk (some 40) (.call 7 [(.tmp 34), (.tmp 35), (.tmp 39)]) none) :: (SO.mk (some 33) (.move (.tmp 40)) none) :: o14_6)
theorem v14_7 : type_of% (@swd _ _ o14_7.eq_1) := @swd _ _ o14_7.eq_1
def o14_8 : List SO := ((SO.mk (some 34) (.load 23 (.tmp 4)) none) :: (SO.mk (some 35) (.load 28 (.tmp 5)) none) :: (SO.mk (some 36) (.load 23 (.tmp 4)) none) :: (SO.mk (some 37) (.call 31 [(.tmp 36)]) none) :: o14_7)
theorem v14_8 : type_of% (@swd _ _ o14_8.eq_1) := @swd _ _ o14_8.eq_1
theorem m14_8 (B : Nat) : mkNames B o14_8 = [] := (rfl)
def c14_9 : SC := (.reg [SO.mk (some 43) (.move (.tmp 11)) none, SO.mk (some 44) (.move (.tmp 14)) none, SO.mk (some 45) (.app 29 29 (.tmp 43) (.tmp 44)) none, SO.mk (some 11) (.move (.tmp 45)) none])
theorem u14_9 : type_of% (@swc _ _ c14_9.eq_1) := @swc _ _ c14_9.eq_1
def c14_10 : SC := (.seq (.dreg false o14_8 []) (.keep [11, 14, 29, 28, 4, 5, 27, 3] c14_9))
theorem u14_10 : type_of% (@swc _ _ c14_10.eq_1) := @swc _ _ c14_10.eq_1
def c14_11 : SC := (.reg [SO.mk (some 46) (.bin .add 3 (.tmp 29) (.const (Value.int .i64 1))) none, SO.mk (some 29) (.move (.tmp 46)) none])
theorem u14_11 : type_of% (@swc _ _ c14_11.eq_1) := @swc _ _ c14_11.eq_1
def c14_12 : SC := (.seq (.block 1 (.seq (.reg [SO.mk (some 31) (.iaddr 40 (.tmp 27) (.tmp 29)) none, SO.mk (some 32) (.load 3 (.tmp 31)) none, SO.mk (some 13) (.move (.tmp 32)) none]) (.keep [13, 11, 29, 28, 4, 5, 27, 3] c14_10))) (.keep [29, 28, 4, 5, 27, 11, 3] c14_11))
theorem u14_12 : type_of% (@swc _ _ c14_12.eq_1) := @swc _ _ c14_12.eq_1
def c14_13 : SC := (.seq (.cond (.tmp 30) .skip (.exit 0)) (.keep [11, 29, 28, 4, 5, 27, 3] c14_12))
theorem u14_13 : type_of% (@swc _ _ c14_13.eq_1) := @swc _ _ c14_13.eq_1
def c14_14 : SC := (.seq (.reg [SO.mk (some 30) (.bin .lss 3 (.tmp 29) (.tmp 28)) none]) (.keep [30, 27, 5, 4, 28, 29, 11, 3] c14_13))
theorem u14_14 : type_of% (@swc _ _ c14_14.eq_1) := @swc _ _ c14_14.eq_1
def c14_15 : SC := (.block 0 (.loop (.keep [27, 5, 4, 28, 29, 11, 3] c14_14)))
theorem u14_15 : type_of% (@swc _ _ c14_15.eq_1) := @swc _ _ c14_15.eq_1
def c14_16 : SC := (.seq (.reg [SO.mk (some 47) (.move (.tmp 11)) none, SO.mk (some 48) (.move (.tmp 3)) none, SO.mk (some 49) (.slice 29 (.tmp 47) none (some (.tmp 48))) none, SO.mk (some 8) (.move (.tmp 49)) none, SO.mk (some 9) (.move (.const (Value.int .i64 0))) none]) (.keep [8, 9] .ret))
theorem u14_16 : type_of% (@swc _ _ c14_16.eq_1) := @swc _ _ c14_16.eq_1
def c14_17 : SC := (.seq (.seq (.reg [SO.mk (some 27) (.move (.tmp 2)) none, SO.mk (some 28) (.len 40 (.tmp 27)) none, SO.mk (some 29) (.move (.const (Value.int .i64 0))) none]) (.keep [27, 5, 4, 28, 29, 11, 3] c14_15)) (.keep [11, 3] c14_16))
theorem u14_17 : type_of% (@swc _ _ c14_17.eq_1) := @swc _ _ c14_17.eq_1
def c14_18 : SC := (.seq (.reg [SO.mk (some 11) (.move (.const (Value.slice none 0 0))) none]) (.keep [2, 5, 4, 11, 3] c14_17))
theorem u14_18 : type_of% (@swc _ _ c14_18.eq_1) := @swc _ _ c14_18.eq_1
def c14_19 : SC := (.seq (.seq (.reg [SO.mk (some 22) (.load 23 (.tmp 4)) none, SO.mk (some 23) (.move (.tmp 2)) none, SO.mk (some 24) (.move (.tmp 3)) none, SO.mk (some 25) (.call 30 [(.tmp 22), (.tmp 23), (.tmp 24)]) none, SO.mk (some 26) (.un .not (.tmp 25)) none]) (.keep [26, 2, 5, 4, 3] c14_5)) (.keep [2, 5, 4, 3] c14_18))
theorem u14_19 : type_of% (@swc _ _ c14_19.eq_1) := @swc _ _ c14_19.eq_1
def c14_20 : SC := (.seq (.seq (.reg [SO.mk (some 16) (.load 23 (.tmp 4)) none, SO.mk (some 17) (.load 28 (.tmp 5)) none, SO.mk (some 18) (.call 20 [(.tmp 16), (.tmp 17)]) none, SO.mk (some 10) (.move (.tmp 18)) none]) (.keep [10, 2, 5, 4, 3] c14_3)) (.keep [2, 5, 4, 3] c14_19))
theorem u14_20 : type_of% (@swc _ _ c14_20.eq_1) := @swc _ _ c14_20.eq_1
def c14 : SC := (.seq (.reg [SO.mk (some 4) (.box 23 (.tmp 0)) none, SO.mk (some 5) (.box 28 (.tmp 1)) none, SO.mk (some 8) (.move (.const (Value.slice none 0 0))) none, SO.mk (some 9) (.move (.const (Value.int .i64 0))) none]) (.keep [2, 5, 4, 3] c14_20))
theorem c14_eq : annC Try.f14 = some c14 := by kernel_rfl
theorem r14 : Try.f14.results.toList = [.tmp 8, .tmp 9] := by kernel_rfl
theorem e14 : enters Try.prog 14 = true := by kernel_rfl
def o16_1 : List SO := ((SO.mk (some 26) (.pick (.tmp 20) (.tmp 25) (.const (Value.bool false))) none) :: [])
theorem v16_1 : type_of% (@swl _ _ o16_1.eq_1) := @swl _ _ o16_1.eq_1
def o16_2 : List SO := ((SO.mk (some 22) (.move (.tmp 2)) (some (20 , true))) :: (SO.mk (some 23) (.move (.tmp 3)) (some (20 , true))) :: (SO.mk (some 24) (.call 32 [(.tmp 21), (.tmp 22), (.tmp 23)]) (some (20 , true))) :: (SO.mk (some 25) (.un .not (.tmp 24)) (some (20 , true))) :: o16_1)
theorem v16_2 : type_of% (@swl _ _ o16_2.eq_1) := @swl _ _ o16_2.eq_1
def c16_3 : SC := (.cond (.tmp 26) (.reg [SO.mk (some 10) (.move (.const (Value.int .i64 2))) none]) .skip)
theorem u16_3 : type_of% (@swc _ _ c16_3.eq_1) := @swc _ _ c16_3.eq_1
def c16_4 : SC := (.seq (.reg [SO.mk (some 29) (.move (.tmp 10)) none, SO.mk (some 8) (.move (.const (Value.slice none 0 0))) none, SO.mk (some 9) (.move (.tmp 29)) none]) (.keep [8, 9] .ret))
theorem u16_4 : type_of% (@swc _ _ c16_4.eq_1) := @swc _ _ c16_4.eq_1
def c16_5 : SC := (.cond (.tmp 28) c16_4 .skip)
theorem u16_5 : type_of% (@swc _ _ c16_5.eq_1) := @swc _ _ c16_5.eq_1
def c16_6 : SC := (.cond (.tmp 33) .skip (.exit 0))
theorem u16_6 : type_of% (@swc _ _ c16_6.eq_1) := @swc _ _ c16_6.eq_1
def o16_7 : List SO := ((SO.mk (some 49) (.move (.tmp 12)) none) :: (SO.mk (some 50) (.iaddr 40 (.tmp 48) (.tmp 49)) none) :: (SO.mk (some 51) (.load 3 (.tmp 50)) none) :: (SO.mk (some 52) (.bin .add 3 (.tmp 47) (.tmp 51)) none) :: [])
theorem v16_7 : type_of% (@swd _ _ o16_7.eq_1) := @swd _ _ o16_7.eq_1
def o16_8 : List SO := ((SO.mk (some 45) (.faddr 23 (.tmp 4) 1) none) :: (SO.mk (some 46) (.load 3 (.tmp 45)) none) :: (SO.mk (some 47) (.bin .add 3 (.tmp 44) (.tmp 46)) none) :: (SO.mk (some 48) (.move (.tmp 2)) none) :: o16_7)
theorem v16_8 : type_of% (@swd _ _ o16_8.eq_1) := @swd _ _ o16_8.eq_1
def o16_9 : List SO := ((SO.mk (some 41) (.bin .add 3 (.const (Value.int .i64 2)) (.tmp 40)) none) :: (SO.mk (some 42) (.faddr 23 (.tmp 4) 1) none) :: (SO.mk (some 43) (.load 3 (.tmp 42)) none) :: (SO.mk (some 44) (.bin .add 3 (.tmp 41) (.tmp 43)) none) :: o16_8)
theorem v16_9 : type_of% (@swd _ _ o16_9.eq_1) := @swd _ _ o16_9.eq_1
def o16_10 : List SO := ((SO.mk (some 37) (.load 23 (.tmp 4)) none) :: (SO.mk (some 38) (.load 28 (.tmp 5)) none) :: (SO.mk (some 39) (.faddr 23 (.tmp 4) 0) none) :: (SO.mk (some 40) (.load 3 (.tmp 39)) none) :: o16_9)
theorem v16_10 : type_of% (@swd _ _ o16_10.eq_1) := @swd _ _ o16_10.eq_1
theorem m16_10 (B : Nat) : mkNames B o16_10 = [] := (rfl)
def o16_11 : List SO := ((SO.mk (some 55) (.extract (.tmp 36) 1) none) :: (SO.mk (some 14) (.move (.tmp 55)) none) :: [])
theorem v16_11 : type_of% (@swl _ _ o16_11.eq_1) := @swl _ _ o16_11.eq_1
def c16_12 : SC := (.reg [SO.mk (some 56) (.move (.tmp 11)) none, SO.mk (some 57) (.move (.tmp 13)) none, SO.mk (some 58) (.bslice 24 2 [(0 , (.tmp 56)), (1 , (.tmp 57))]) none, SO.mk (some 59) (.call 25 [(.tmp 58)]) none, SO.mk (some 11) (.move (.tmp 59)) none])
theorem u16_12 : type_of% (@swc _ _ c16_12.eq_1) := @swc _ _ c16_12.eq_1
def c16_13 : SC := (.reg [SO.mk (some 34) (.move (.tmp 12)) none, SO.mk (some 35) (.bin .add 3 (.tmp 34) (.const (Value.int .i64 1))) none, SO.mk (some 12) (.move (.tmp 35)) none])
theorem u16_13 : type_of% (@swc _ _ c16_13.eq_1) := @swc _ _ c16_13.eq_1
def c16_14 : SC := (.seq (.block 1 (.seq (.dreg false o16_10 ((SO.mk (some 53) (.call 8 [(.tmp 37), (.tmp 38), (.tmp 52)]) none) :: (SO.mk (some 36) (.move (.tmp 53)) none) :: (SO.mk (some 54) (.extract (.tmp 36) 0) none) :: (SO.mk (some 13) (.move (.tmp 54)) none) :: o16_11)) (.keep [11, 13, 12, 2, 4, 5, 3] c16_12))) (.keep [12, 2, 4, 5, 11, 3] c16_13))
theorem u16_14 : type_of% (@swc _ _ c16_14.eq_1) := @swc _ _ c16_14.eq_1
def c16_15 : SC := (.seq (.seq (.reg [SO.mk (some 30) (.move (.tmp 12)) none, SO.mk (some 31) (.move (.tmp 2)) none, SO.mk (some 32) (.len 40 (.tmp 31)) none, SO.mk (some 33) (.bin .lss 3 (.tmp 30) (.tmp 32)) none]) (.keep [33, 5, 4, 2, 12, 11, 3] c16_6)) (.keep [11, 12, 2, 4, 5, 3] c16_14))
theorem u16_15 : type_of% (@swc _ _ c16_15.eq_1) := @swc _ _ c16_15.eq_1
def c16_16 : SC := (.block 0 (.loop (.keep [5, 4, 2, 12, 11, 3] c16_15)))
theorem u16_16 : type_of% (@swc _ _ c16_16.eq_1) := @swc _ _ c16_16.eq_1
def c16_17 : SC := (.seq (.reg [SO.mk (some 60) (.move (.tmp 11)) none, SO.mk (some 61) (.move (.tmp 3)) none, SO.mk (some 62) (.slice 29 (.tmp 60) none (some (.tmp 61))) none, SO.mk (some 8) (.move (.tmp 62)) none, SO.mk (some 9) (.move (.const (Value.int .i64 0))) none]) (.keep [8, 9] .ret))
theorem u16_17 : type_of% (@swc _ _ c16_17.eq_1) := @swc _ _ c16_17.eq_1
def c16_18 : SC := (.seq (.seq (.reg [SO.mk (some 12) (.move (.const (Value.int .i64 0))) none]) (.keep [5, 4, 2, 12, 11, 3] c16_16)) (.keep [11, 3] c16_17))
theorem u16_18 : type_of% (@swc _ _ c16_18.eq_1) := @swc _ _ c16_18.eq_1
def c16_19 : SC := (.seq (.reg [SO.mk (some 11) (.move (.const (Value.slice none 0 0))) none]) (.keep [5, 4, 2, 11, 3] c16_18))
theorem u16_19 : type_of% (@swc _ _ c16_19.eq_1) := @swc _ _ c16_19.eq_1
def c16_20 : SC := (.seq (.seq (.reg [SO.mk (some 27) (.move (.tmp 10)) none, SO.mk (some 28) (.bin .neq 30 (.tmp 27) (.const (Value.int .i64 0))) none]) (.keep [28, 10, 5, 4, 2, 3] c16_5)) (.keep [5, 4, 2, 3] c16_19))
theorem u16_20 : type_of% (@swc _ _ c16_20.eq_1) := @swc _ _ c16_20.eq_1
def c16_21 : SC := (.seq (.seq (.reg ((SO.mk (some 18) (.move (.tmp 10)) none) :: (SO.mk (some 19) (.bin .eql 30 (.tmp 18) (.const (Value.int .i64 0))) none) :: (SO.mk (some 20) (.move (.tmp 19)) none) :: (SO.mk (some 21) (.load 23 (.tmp 4)) (some (20 , true))) :: o16_2)) (.keep [26, 10, 5, 4, 2, 3] c16_3)) (.keep [10, 5, 4, 2, 3] c16_20))
theorem u16_21 : type_of% (@swc _ _ c16_21.eq_1) := @swc _ _ c16_21.eq_1
def c16_22 : SC := (.seq (.reg [SO.mk (some 15) (.load 23 (.tmp 4)) none, SO.mk (some 16) (.load 28 (.tmp 5)) none, SO.mk (some 17) (.call 23 [(.tmp 15), (.tmp 16)]) none, SO.mk (some 10) (.move (.tmp 17)) none]) (.keep [10, 5, 4, 2, 3] c16_21))
theorem u16_22 : type_of% (@swc _ _ c16_22.eq_1) := @swc _ _ c16_22.eq_1
def c16 : SC := (.seq (.reg [SO.mk (some 4) (.box 23 (.tmp 0)) none, SO.mk (some 5) (.box 28 (.tmp 1)) none, SO.mk (some 8) (.move (.const (Value.slice none 0 0))) none, SO.mk (some 9) (.move (.const (Value.int .i64 0))) none]) (.keep [5, 4, 2, 3] c16_22))
theorem c16_eq : annC Try.f16 = some c16 := by kernel_rfl
theorem r16 : Try.f16.results.toList = [.tmp 8, .tmp 9] := by kernel_rfl
theorem e16 : enters Try.prog 16 = true := by kernel_rfl
end Go.Proofs.Ytalhjhmphdgaoaa
namespace Go.Proofs.Ytalhjhmphdgaoaa
open Go.RowKit
set_option maxHeartbeats 4000000
set_option maxRecDepth 20000
attribute [local irreducible] SW SWL SWLn SWD SEcall SEcallv SDv SE SO1 SOg ACalls ACallv Wk EndV
set_option linter.unusedSimpArgs false
set_option linter.unusedVariables false
def firstR (g : GeoD) : Int := IntKind.i64.wrap (IntKind.i64.wrap (2 + g.ring) + IntKind.i64.wrap (2 * g.area))
theorem firstR_p (g : GeoD) : Pure Try.prog 31 [g.av] (I (firstR g)) := by
  refine pure_of follows Try.func31 c31_eq r31 (Nat.le_of_ble_eq_true rfl) fun B σ hcl _ => ?_
  repeat' (first | (simp -implicitDefEqProofs only [*, contN, contC, Nat.reduceBEq, Bool.or_false, Bool.or_true, Bool.false_or, Bool.true_or, Bool.not_true, Bool.not_false, w_skip, w_ret, w_exit, w_reg, w_dreg, w_seq, SK_n, SK_r, SK_x, w_keep, w_block, w_cond, w_nil, w_cons, w_consg, w_nnil, w_ncons, w_dnil, w_dcons, w_dconsg, HK_app, HD_app, HQ_n, HQ_r, HQ_x, HQ_bn, HQ_br, HQ_bx, HQ_en, HQ_er, HQ_ex, CondB_true, CondB_false, SO1, w_sdv, SDe_alloc, SDe_box, SDe_bslice, SDe_app, true_imp_iff, false_imp_iff, and_false, false_and, not_false_eq_true, not_true_eq_false, addN, mkNames, killT, killD, killO, List.foldl_nil, List.foldl_cons, List.append_nil, List.nil_append, List.cons_append, GuardS_true, GuardS_false, GuardD_true, GuardD_false, DK_true, DK_false, lt_self_add, le_self_add, decide_true, decide_false, Bool.false_eq_true, Bool.true_eq_false, Nat.add_left_cancel_iff, SE, SEalloc, SEbox, SEstore, w_bs, SEbl, SEfz, SEbs0, fzName, osOf, AV.fz1, w_app, w_mk, aev, opd, Fr.get, putO, Fr.norm, List.map_cons, List.map_nil, with1, with2, onInt, AV.lit, entry, ↓reduceIte, Nat.reduceEqDiff, Nat.reduceAdd, reduceCtorEq, true_and, and_true, Option.map_some, Option.map_none, Option.bind_some, Option.bind_none, cond_true, cond_false, binV, unV, fieldV, loadV, sto, cellsAV, newF, newL, Fr.map, Loc.kill, Loc.set, AO.kill, AV.kill, AV.mapN, AV.mapNL, List.filter_nil, List.filter_cons, allP, EndV, retV, resV, resL, frz, dropL, AV.pick, nilV, tupV, imp_self, ne_eq, Int.cast_ofNat_Int, Int.reduceLT, Int.reduceToNat, List.getD_cons_zero, List.getD_cons_succ, bsliceV, buildV, afill, repl, chunk, rvs, AV.rv, RV.nrm, List.getElem?_nil, List.append_assoc, Nat.reduceMul, Nat.reducePow, Nat.zero_lt_succ, Nat.zero_add, Nat.add_zero, List.length_cons, List.length_nil, Nat.reduceLeDiff, Nat.le_refl, List.take_succ_cons, List.take_zero, List.drop_succ_cons, List.drop_zero, indexV, lenV, rowOf_mapD, rowOf_mapI, rowOf_mapA, List.length_map, Int.toNat_natCast, List.getElem?_cons_zero, List.getElem?_cons_succ, and_self, implies_true, if_true, if_false, HQ_zn, HQ_zr, HQ_wn, HQ_wr, AV.nz, AV.nzL, RV.nrm, SEbin, SEnil, nilK, srcV, dstV, appName, List.length_append, Nat.mul_one, take_map_len, take_map_app, List.getElem?_cons_zero, List.map_append, SEmkmap, SEmset, mgetV, kvOf, getM, setM, c31, r31, v31_1, u31_2, ty23, ty3, GeoD.av]) | (with_reducible refine And.intro ?_ ?_) | (refine EndX.plain ?_) | (refine nil_split (fun hn => ?_) (fun hn => ?_)) | (refine gcall_no not_false ?_) | (refine gdcall_no not_false ?_) | (refine GuardS_of _ _ _ _ _ _ (fun hg => ?_) (fun hg => ?_)) | (refine GuardD_of _ _ _ _ (fun hg => ?_) (fun hg => ?_)) | (refine CondB_of _ _ _ _ _ _ _ ?_ (fun hg => ?_) (fun hg => ?_)))
  all_goals (try (first | ((first | unfold noN | unfold Fr.below | unfold Loc.below); simp [Fr.allN, AV.allN, AV.allNL, AO.allN]; done) | rfl | trivial | assumption | (intro row hrow; simp only [List.mem_map] at hrow; obtain ⟨x, _, rfl⟩ := hrow; rfl) | (refine Wk.keep hcl ?_ ?_ ?_; (focus (simp [Fr.get, GeoD.av] <;> fail)); (focus (simp [sto, GeoD.av] <;> fail)); (focus (simp <;> fail))) | (simp [allP, opd, Fr.get, Fr.below, Fr.allN, AV.allN, AV.allNL, Loc.below, AO.allN, noN, killO, killT, killD, mkNames, AO.kill, AV.kill, AV.mapN, AV.mapNL]; done) | (with_reducible exact ltD (by assumption)) | omega | (simp only [decide_eq_true_eq, decide_eq_false_iff_not] at *; omega)))
  all_goals rfl
def rdAt (g : GeoD) (x : Int) : Int := IntKind.i64.wrap (firstR g + x)
def rdAt2 (g : GeoD) (x : Int) : Int := IntKind.i64.wrap (IntKind.i64.wrap (IntKind.i64.wrap (IntKind.i64.wrap (2 + g.ring) + g.area) + g.area) + x)
theorem rdAt_eq {g : GeoD} (h : geoOk g = true) (x : Int) : rdAt2 g x = rdAt g x := by
  simp only [geoOk, inR, Bool.and_eq_true, decide_eq_true_eq] at h
  unfold rdAt2 rdAt firstR
  have e : IntKind.i64.wrap (IntKind.i64.wrap (IntKind.i64.wrap (2 + g.ring) + g.area) + g.area) = IntKind.i64.wrap (IntKind.i64.wrap (2 + g.ring) + IntKind.i64.wrap (2 * g.area)) := by
    rw [IntWalk.i64_in (2 + g.ring) (by omega), IntWalk.i64_in (2 + g.ring + g.area) (by omega), IntWalk.i64_in (2 * g.area) (by omega)]
    congr 1; omega
  rw [e]
structure OkR (g : GeoD) (d : DevD) : Prop where
  geo : geoOk g = true
  hot : IntKind.i64.wrap (g.hot - 1) = g.hot - 1
  len : (d.safe.length : Int) = 2 + g.ring + 2 * g.area + g.hot
  safe : ∀ i, i < d.safe.length → (d.safe[i]!).length = 64
  cache : ∀ i, i < d.cache.length → (d.cache[i]!).data.length = 64
theorem okR {g : GeoD} {d : DevD} (h : devF g d = 0) : OkR g d := by
  unfold devF at h
  cases hg : geoOk g with
  | false => rw [hg] at h; simp at h
  | true =>
    rw [hg] at h
    cases hb : (badD g d || (d.safe.any badS || (d.cache.any (badW d.safe.length) || d.vols.any (badV g)))) with
    | true => rw [hb] at h; simp at h
    | false =>
      have hs := (sec_eq hg).1
      have hg' := hg
      simp only [geoOk, inR, Bool.and_eq_true, decide_eq_true_eq] at hg
      simp only [Bool.or_eq_false_iff] at hb
      obtain ⟨b1, b2, b3, b4⟩ := hb
      simp only [badD, Bool.or_eq_false_iff, decide_eq_false_iff_not, bne_eq_false_iff_eq] at b1
      obtain ⟨c1, c2, c3, c4, c5⟩ := b1
      rw [List.any_eq_false] at b2 b3 b4
      refine ⟨hg', IntWalk.i64_in _ (by omega), by rw [hs] at c1; omega, fun i hi => ?_, fun i hi => ?_⟩
      · have := b2 (d.safe[i]!) (by simp [hi])
        generalize d.safe[i]! = x at this ⊢
        simp [badS] at this; omega
      · have := b3 (d.cache[i]!) (by simp [hi])
        generalize d.cache[i]! = x at this ⊢
        simp [badW] at this; omega
theorem curB_64 {g : GeoD} {d : DevD} (h : OkR g d) {pos : Int} (h0 : 0 ≤ pos) (h1 : pos < (d.safe.length : Int)) : ∀ {k : Nat}, k ≤ d.cache.length → (curB d pos k).length = 64
  | 0, _ => h.safe _ (by omega)
  | k + 1, hk => by
    cases hm : (d.cache[k]!.pos == pos)
    · rw [← curB_miss hm]; exact curB_64 h h0 h1 (by omega)
    · rw [← curB_hit hm]; exact h.cache _ (by omega)
theorem getR_64 {g : GeoD} {d : DevD} (h : devF g d = 0) {pos : Int} (h0 : 0 ≤ pos) (h1 : pos < (d.safe.length : Int)) : (getR g d pos).length = 64 := by
  have he : getE g d pos = 0 := by
    have a : decide (pos < 0) = false := by simp; omega
    have b : decide (pos ≥ (d.safe.length : Int)) = false := by simp; omega
    simp only [getE, h, a, b, bne_self_eq_false, Bool.or_false, cond_false]
  simp only [getR, he, beq_self_eq_true, cond_true]
  exact curB_64 (okR h) h0 h1 (Nat.le_refl _)
theorem rm_at {g : GeoD} {l : List Int} : ∀ {n k : Nat}, rmB g l n = true → k < n → 0 ≤ l[k]! ∧ l[k]! < g.hot
  | 0, _, _, hk => absurd hk (Nat.not_lt_zero _)
  | n + 1, k, h, hk => by
    simp only [rmB, Bool.and_eq_true, Bool.not_eq_true', decide_eq_false_iff_not] at h
    rcases Nat.lt_or_eq_of_le (Nat.le_of_lt_succ hk) with h1 | h1
    · exact rm_at h.1 h1
    · subst h1; exact ⟨by omega, by omega⟩
theorem secR_eq {n : Nat} (h : n ≤ 600) : secN n = (((n + 63) / 64 : Nat) : Int) := by
  unfold secN
  rw [IntWalk.i64_in ((n : Int) + 64) (by omega), IntWalk.i64_in ((n : Int) + 64 - 1) (by omega), Int.tdiv_eq_ediv_of_nonneg (by omega), IntWalk.i64_in _ (by omega)]
  omega
theorem roomR {g : GeoD} {l : List Int} {size : Int} (h : roomV g l size = true) : rmB g l l.length = true ∧ 0 ≤ size ∧ size ≤ 64 * (l.length : Int) ∧ l.length ≤ 10 := by
  unfold roomV sizeV at h
  simp only [Bool.and_eq_true, decide_eq_true_eq, beq_iff_eq] at h
  obtain ⟨h1, h2, h3, h4⟩ := h
  obtain ⟨n, rfl⟩ := Int.eq_ofNat_of_zero_le h2
  rw [secR_eq (by omega)] at h4
  exact ⟨h1, h2, by omega, by omega⟩
def rdB (g : GeoD) (d : DevD) (l : List Int) : Nat → List UInt8
  | 0 => []
  | k + 1 => rdB g d l k ++ getR g d (rdAt g l[k]!)
theorem rdB0 (g : GeoD) (d : DevD) (l : List Int) : rdB g d l 0 = [] := rfl
theorem rdB_next (g : GeoD) (d : DevD) (l : List Int) (k : Nat) : rdB g d l k ++ getR g d (rdAt g l[k]!) = rdB g d l (k + 1) := rfl
theorem rd_64 {g : GeoD} {d : DevD} {l : List Int} (h : devF g d = 0) (hr : rmB g l l.length = true) {k : Nat} (hk : k < l.length) : (getR g d (rdAt g l[k]!)).length = 64 := by
  have h1 := rm_at hr hk
  have h2 := okR h
  have h3 := h2.geo
  have h4 := h2.len
  simp only [geoOk, inR, Bool.and_eq_true, decide_eq_true_eq] at h3
  have e : rdAt g l[k]! = 2 + g.ring + 2 * g.area + l[k]! := by
    unfold rdAt firstR
    rw [IntWalk.i64_in (2 + g.ring) (by omega), IntWalk.i64_in (2 * g.area) (by omega), IntWalk.i64_in (2 + g.ring + 2 * g.area) (by omega), IntWalk.i64_in _ (by omega)]
  exact getR_64 h (by omega) (by omega)
theorem rdB_len {g : GeoD} {d : DevD} {l : List Int} (h : devF g d = 0) (hr : rmB g l l.length = true) : ∀ {k : Nat}, k ≤ l.length → (rdB g d l k).length = 64 * k
  | 0, _ => rfl
  | k + 1, hk => by
    rw [← rdB_next, List.length_append, rdB_len h hr (by omega), rd_64 h hr (by omega)]; omega
theorem rdB_take (g : GeoD) (d : DevD) (l : List Int) (k : Nat) : List.take (rdB g d l k).length ((rdB g d l k).map by_) = (rdB g d l k).map by_ := List.take_of_length_le (by simp)
def readE (g : GeoD) (d : DevD) (l : List Int) (size : Int) : Int := bif devF g d != 0 then devF g d else bif !roomV g l size then 2 else 0
def readB (g : GeoD) (d : DevD) (l : List Int) (size : Int) : List UInt8 := bif readE g d l size == 0 then (rdB g d l l.length).take size.toNat else []
theorem read_err {g : GeoD} {d : DevD} {l : List Int} {size e : Int} (h : readE g d l size = e) (he : (e == 0) = false) : AV.tup [.d (.ro []), I e] = AV.tup [.d (.ro ((readB g d l size).map by_)), I (readE g d l size)] := by
  subst h; simp only [readB, he, cond_false, List.map_nil]
theorem read_ok {g : GeoD} {d : DevD} {l : List Int} {size : Int} (h : readE g d l size = 0) {k : Nat} (hk : k = l.length) : AV.tup [.d (.ro (((rdB g d l k).map by_).take size.toNat)), I 0] = AV.tup [.d (.ro ((readB g d l size).map by_)), I (readE g d l size)] := by
  subst hk; rw [← List.map_take]; simp only [readB, h]; rfl
theorem Rows_byR (l : List UInt8) : Rows (l.map by_) 1 = True := by
  refine eq_true ?_
  intro r hr
  simp only [List.mem_map] at hr; obtain ⟨x, _, rfl⟩ := hr; rfl
theorem read_p (g : GeoD) (d : DevD) (l : List Int) (size : Int) : Pure Try.prog 14 [g.av, d.av, .d (ints l), I size] (.tup [.d (bytes (readB g d l size)), I (readE g d l size)]) := by
  refine pureZ_of follows Try.func14 c14_eq r14 (Nat.le_of_ble_eq_true rfl) fun B σ hcl hsz => ?_
  clear hsz
  rcases devE_or g d with h1 | ⟨h1, h1'⟩
  all_goals (cases hr : roomV g l size)
  all_goals (try (
    have hR := roomR hr
    have hL : ∀ k, k ≤ l.length → (rdB g d l k).length = 64 * k := fun k hk => rdB_len h1 hR.1 hk))
  repeat' (first | (simp -implicitDefEqProofs only [*, contN, contC, Nat.reduceBEq, Bool.or_false, Bool.or_true, Bool.false_or, Bool.true_or, Bool.not_true, Bool.not_false, w_skip, w_ret, w_exit, w_reg, w_dreg, w_seq, SK_n, SK_r, SK_x, w_keep, w_block, w_cond, w_nil, w_cons, w_consg, w_nnil, w_ncons, w_dnil, w_dcons, w_dconsg, HK_app, HD_app, HQ_n, HQ_r, HQ_x, HQ_bn, HQ_br, HQ_bx, HQ_en, HQ_er, HQ_ex, CondB_true, CondB_false, SO1, w_sdv, SDe_alloc, SDe_box, SDe_bslice, SDe_app, true_imp_iff, false_imp_iff, and_false, false_and, not_false_eq_true, not_true_eq_false, addN, mkNames, killT, killD, killO, List.foldl_nil, List.foldl_cons, List.append_nil, List.nil_append, List.cons_append, GuardS_true, GuardS_false, GuardD_true, GuardD_false, DK_true, DK_false, lt_self_add, le_self_add, decide_true, decide_false, Bool.false_eq_true, Bool.true_eq_false, Nat.add_left_cancel_iff, SE, SEalloc, SEbox, SEstore, w_bs, SEbl, SEfz, SEbs0, fzName, osOf, AV.fz1, w_app, w_mk, aev, opd, Fr.get, putO, Fr.norm, List.map_cons, List.map_nil, with1, with2, onInt, AV.lit, entry, ↓reduceIte, Nat.reduceEqDiff, Nat.reduceAdd, reduceCtorEq, true_and, and_true, Option.map_some, Option.map_none, Option.bind_some, Option.bind_none, cond_true, cond_false, binV, unV, fieldV, loadV, sto, cellsAV, newF, newL, Fr.map, Loc.kill, Loc.set, AO.kill, AV.kill, AV.mapN, AV.mapNL, List.filter_nil, List.filter_cons, allP, EndV, retV, resV, resL, frz, dropL, AV.pick, nilV, tupV, imp_self, ne_eq, Int.cast_ofNat_Int, Int.reduceLT, Int.reduceToNat, List.getD_cons_zero, List.getD_cons_succ, bsliceV, buildV, afill, repl, chunk, rvs, AV.rv, RV.nrm, List.getElem?_nil, List.append_assoc, Nat.reduceMul, Nat.reducePow, Nat.zero_lt_succ, Nat.zero_add, Nat.add_zero, List.length_cons, List.length_nil, Nat.reduceLeDiff, Nat.le_refl, List.take_succ_cons, List.take_zero, List.drop_succ_cons, List.drop_zero, indexV, lenV, rowOf_mapD, rowOf_mapI, rowOf_mapA, List.length_map, Int.toNat_natCast, List.getElem?_cons_zero, List.getElem?_cons_succ, and_self, implies_true, if_true, if_false, HQ_zn, HQ_zr, HQ_wn, HQ_wr, AV.nz, AV.nzL, RV.nrm, SEbin, SEnil, nilK, srcV, dstV, appName, List.length_append, Nat.mul_one, take_map_len, take_map_app, List.getElem?_cons_zero, List.map_append, SEmkmap, SEmset, mgetV, kvOf, getM, setM, c14, r14, u14_1, u14_2, u14_3, u14_4, u14_5, v14_6, v14_7, v14_8, m14_8, u14_9, u14_10, u14_11, u14_12, u14_13, u14_14, u14_15, u14_16, u14_17, u14_18, u14_19, u14_20, ty23, ty28, ty30, ty40, ty3, ty29, ty5, GeoD.av, GeoD.cells, DevD.av, DevD.cells, ints, int_, bytes, bne_self_eq_false, rdB0, bnd, sliceV, Option.getD_some, Option.getD_none, Rows_byR, rdB_take]) | (with_reducible refine And.intro ?_ ?_) | (refine call_ro e20 ( check_p g d) rfl ?_ ?_ ?_ ?_) | (refine gcall_ro e20 ( check_p g d) rfl ?_ ?_ ?_ ?_) | (refine dcall_ro e20 ( check_p g d) rfl ?_ ?_ ?_ ?_) | (refine gdcall_ro rfl e20 ( check_p g d) rfl ?_ ?_ ?_ ?_) | (refine call_ro e30 ( room_p g l size) rfl ?_ ?_ ?_ ?_) | (refine gcall_ro e30 ( room_p g l size) rfl ?_ ?_ ?_ ?_) | (refine dcall_ro e30 ( room_p g l size) rfl ?_ ?_ ?_ ?_) | (refine gdcall_ro rfl e30 ( room_p g l size) rfl ?_ ?_ ?_ ?_) | (refine call_ro e31 ( firstR_p g) rfl ?_ ?_ ?_ ?_) | (refine gcall_ro e31 ( firstR_p g) rfl ?_ ?_ ?_ ?_) | (refine dcall_ro e31 ( firstR_p g) rfl ?_ ?_ ?_ ?_) | (refine gdcall_ro rfl e31 ( firstR_p g) rfl ?_ ?_ ?_ ?_) | (refine call_ro e7 ( get_p g d (rdAt g l[k]!)) rfl ?_ ?_ ?_ ?_) | (refine gcall_ro e7 ( get_p g d (rdAt g l[k]!)) rfl ?_ ?_ ?_ ?_) | (refine dcall_ro e7 ( get_p g d (rdAt g l[k]!)) rfl ?_ ?_ ?_ ?_) | (refine gdcall_ro rfl e7 ( get_p g d (rdAt g l[k]!)) rfl ?_ ?_ ?_ ?_) | (refine loop_nat (l.length) (fun _ => True) (fun k => [(27, .d (ints l)), (5, .lp (B + 5) 0), (4, .lp (B + 4) 0), (28, I l.length), (29, I k), (11, .os (B + 11) (rdB g d l k).length), (3, I size)]) (fun k => [(B + 11, .arr 1 5 ((rdB g d l k).map by_)), (B + 4, .box g.cells), (B + 5, .box d.cells)]) ?_ (Wk.trans (Wk.nameF (s := 11) (n := B + 11) (k := 1) (E := 5) rfl (by omega) (.inl (by omega)) (fun m => AO.kill_below (q := fun m => decide (m < B)) (by simp) _ (hcl m).1)) (Wk.keep hcl ?_ ?_ ?_)) fun k hk hF => ?_; rotate_left 1; (focus (simp [Fr.get, newF, Fr.map, AV.kill, AV.mapN, GeoD.av, GeoD.cells, DevD.av, DevD.cells, ints, int_, bytes, bne_self_eq_false, rdB0, bnd, sliceV, Option.getD_some, Option.getD_none, Rows_byR, rdB_take] <;> fail)); (focus (simp [sto, newL, Loc.kill, Loc.set, AO.kill, AV.kill, AV.mapN, GeoD.av, GeoD.cells, DevD.av, DevD.cells, ints, int_, bytes, bne_self_eq_false, rdB0, bnd, sliceV, Option.getD_some, Option.getD_none, Rows_byR, rdB_take] <;> fail)); (focus (simp [newL, Loc.kill, Loc.set, GeoD.av, GeoD.cells, DevD.av, DevD.cells, ints, int_, bytes, bne_self_eq_false, rdB0, bnd, sliceV, Option.getD_some, Option.getD_none, Rows_byR, rdB_take] <;> fail)); (try have hw : IntKind.i64.wrap ((k : Int) + 1) = (k : Int) + 1 := IntWalk.i64_in _ (by omega))) | (refine EndX.plain ?_) | (refine nil_split (fun hn => ?_) (fun hn => ?_)) | (refine gcall_no not_false ?_) | (refine gdcall_no not_false ?_) | (refine GuardS_of _ _ _ _ _ _ (fun hg => ?_) (fun hg => ?_)) | (refine GuardD_of _ _ _ _ (fun hg => ?_) (fun hg => ?_)) | (refine CondB_of _ _ _ _ _ _ _ ?_ (fun hg => ?_) (fun hg => ?_)))
  all_goals (try (first | ((first | unfold noN | unfold Fr.below | unfold Loc.below); simp [Fr.allN, AV.allN, AV.allNL, AO.allN]; done) | rfl | trivial | assumption | (intro row hrow; simp only [List.mem_map] at hrow; obtain ⟨x, _, rfl⟩ := hrow; rfl) | (refine Wk.keep hcl ?_ ?_ ?_; (focus (simp [Fr.get, GeoD.av, GeoD.cells, DevD.av, DevD.cells, ints, int_, bytes, bne_self_eq_false, rdB0, bnd, sliceV, Option.getD_some, Option.getD_none, Rows_byR, rdB_take] <;> fail)); (focus (simp [sto, GeoD.av, GeoD.cells, DevD.av, DevD.cells, ints, int_, bytes, bne_self_eq_false, rdB0, bnd, sliceV, Option.getD_some, Option.getD_none, Rows_byR, rdB_take] <;> fail)); (focus (simp <;> fail))) | (simp [allP, opd, Fr.get, Fr.below, Fr.allN, AV.allN, AV.allNL, Loc.below, AO.allN, noN, killO, killT, killD, mkNames, AO.kill, AV.kill, AV.mapN, AV.mapNL]; done) | (with_reducible exact ltD (by assumption)) | omega | (simp only [decide_eq_true_eq, decide_eq_false_iff_not] at *; omega)))
  all_goals first
    | (refine read_err ?_ ?_
       · simp only [readE, h1, hr, bne_self_eq_false, Bool.false_or, Bool.true_or, Bool.or_true, Bool.or_false, Bool.and_true, Bool.true_and, Bool.false_and, Bool.and_false, Bool.not_true, Bool.not_false, cond_true, cond_false]
       · rfl)
    | (refine read_err ?_ h1
       simp only [readE, h1', cond_true])
    | (have hk2 := ltD (by assumption : decide ((k : Int) < (l.length : Int)) = true)
       have h64 := rd_64 (d := d) h1 hR.1 hk2
       have hl := hL k hk
       simp only [List.length_take, List.length_map, hl, h64]; omega)
    | (have hk2 := ltD (by assumption : decide ((k : Int) < (l.length : Int)) = true)
       have hl := hL k hk
       have e1 : List.take (64 * k) (List.map by_ (rdB g d l k)) = List.map by_ (rdB g d l k) := List.take_of_length_le (by simp [hl])
       have e2 : (List.map by_ (rdB g d l k)).length + (getR g d (rdAt g l[k]!)).length = (rdB g d l (k + 1)).length := by rw [← rdB_next]; simp
       rw [e1, e2, ← List.map_append, rdB_next]
       refine Wk.keep hcl ?_ ?_ ?_ <;> simp [Fr.get, sto])
    | (have hk2 : k = l.length := Nat.le_antisymm hk (geD (by assumption))
       rw [if_pos (by have := hR.2.2.1; rw [hk2]; omega)]
       exact read_ok (by simp only [readE, h1, hr, bne_self_eq_false, Bool.false_or, Bool.true_or, Bool.or_true, Bool.or_false, Bool.and_true, Bool.true_and, Bool.false_and, Bool.and_false, Bool.not_true, Bool.not_false, cond_true, cond_false]) hk2)
theorem joinedR (a b : List UInt8) (h : (a ++ b).length ≤ 2 ^ 47) : Pure Try.prog 25 [.d (.ro [[.ro (a.map by_)], [.ro (b.map by_)]])] (.d (.ro ((a ++ b).map by_))) := by
  have := joined_p [a, b] (by simpa using h)
  simpa [secRow, bytes] using this
theorem readOf_p (g : GeoD) (d : DevD) (l : List Int) (size : Int) : Pure Try.prog 16 [g.av, d.av, .d (ints l), I size] (.tup [.d (bytes (readB g d l size)), I (readE g d l size)]) := by
  refine pureZ_of follows Try.func16 c16_eq r16 (Nat.le_of_ble_eq_true rfl) fun B σ hcl hsz => ?_
  clear hsz
  rcases devE_or g d with h1 | ⟨h1, h1'⟩
  all_goals (cases hr : roomV g l size)
  all_goals (try (have hO := okR h1; have hh := hO.hot; have hA : ∀ x, rdAt2 g x = rdAt g x := fun x => rdAt_eq hO.geo x))
  all_goals (try (
    have hR := roomR hr
    have hL : ∀ k, k ≤ l.length → (rdB g d l k).length = 64 * k := fun k hk => rdB_len h1 hR.1 hk))
  repeat' (first | (simp -implicitDefEqProofs only [*, contN, contC, Nat.reduceBEq, Bool.or_false, Bool.or_true, Bool.false_or, Bool.true_or, Bool.not_true, Bool.not_false, w_skip, w_ret, w_exit, w_reg, w_dreg, w_seq, SK_n, SK_r, SK_x, w_keep, w_block, w_cond, w_nil, w_cons, w_consg, w_nnil, w_ncons, w_dnil, w_dcons, w_dconsg, HK_app, HD_app, HQ_n, HQ_r, HQ_x, HQ_bn, HQ_br, HQ_bx, HQ_en, HQ_er, HQ_ex, CondB_true, CondB_false, SO1, w_sdv, SDe_alloc, SDe_box, SDe_bslice, SDe_app, true_imp_iff, false_imp_iff, and_false, false_and, not_false_eq_true, not_true_eq_false, addN, mkNames, killT, killD, killO, List.foldl_nil, List.foldl_cons, List.append_nil, List.nil_append, List.cons_append, GuardS_true, GuardS_false, GuardD_true, GuardD_false, DK_true, DK_false, lt_self_add, le_self_add, decide_true, decide_false, Bool.false_eq_true, Bool.true_eq_false, Nat.add_left_cancel_iff, SE, SEalloc, SEbox, SEstore, w_bs, SEbl, SEfz, SEbs0, fzName, osOf, AV.fz1, w_app, w_mk, aev, opd, Fr.get, putO, Fr.norm, List.map_cons, List.map_nil, with1, with2, onInt, AV.lit, entry, ↓reduceIte, Nat.reduceEqDiff, Nat.reduceAdd, reduceCtorEq, true_and, and_true, Option.map_some, Option.map_none, Option.bind_some, Option.bind_none, cond_true, cond_false, binV, unV, fieldV, loadV, sto, cellsAV, newF, newL, Fr.map, Loc.kill, Loc.set, AO.kill, AV.kill, AV.mapN, AV.mapNL, List.filter_nil, List.filter_cons, allP, EndV, retV, resV, resL, frz, dropL, AV.pick, nilV, tupV, imp_self, ne_eq, Int.cast_ofNat_Int, Int.reduceLT, Int.reduceToNat, List.getD_cons_zero, List.getD_cons_succ, bsliceV, buildV, afill, repl, chunk, rvs, AV.rv, RV.nrm, List.getElem?_nil, List.append_assoc, Nat.reduceMul, Nat.reducePow, Nat.zero_lt_succ, Nat.zero_add, Nat.add_zero, List.length_cons, List.length_nil, Nat.reduceLeDiff, Nat.le_refl, List.take_succ_cons, List.take_zero, List.drop_succ_cons, List.drop_zero, indexV, lenV, rowOf_mapD, rowOf_mapI, rowOf_mapA, List.length_map, Int.toNat_natCast, List.getElem?_cons_zero, List.getElem?_cons_succ, and_self, implies_true, if_true, if_false, HQ_zn, HQ_zr, HQ_wn, HQ_wr, AV.nz, AV.nzL, RV.nrm, SEbin, SEnil, nilK, srcV, dstV, appName, List.length_append, Nat.mul_one, take_map_len, take_map_app, List.getElem?_cons_zero, List.map_append, SEmkmap, SEmset, mgetV, kvOf, getM, setM, c16, r16, v16_1, v16_2, u16_3, u16_4, u16_5, u16_6, v16_7, v16_8, v16_9, v16_10, m16_10, v16_11, u16_12, u16_13, u16_14, u16_15, u16_16, u16_17, u16_18, u16_19, u16_20, u16_21, u16_22, ty23, ty28, ty30, ty40, ty3, ty24, ty29, ty5, GeoD.av, GeoD.cells, DevD.av, DevD.cells, ints, int_, bytes, secRow, AV.nz, RV.nrm, bne_self_eq_false, rdB0, bnd, sliceV, Option.getD_some, Option.getD_none, Rows_byR]) | (with_reducible refine And.intro ?_ ?_) | (refine call_ro e23 ( devFault_p g d) rfl ?_ ?_ ?_ ?_) | (refine gcall_ro e23 ( devFault_p g d) rfl ?_ ?_ ?_ ?_) | (refine dcall_ro e23 ( devFault_p g d) rfl ?_ ?_ ?_ ?_) | (refine gdcall_ro rfl e23 ( devFault_p g d) rfl ?_ ?_ ?_ ?_) | (refine call_ro e32 ( roomMay_p g l size hh) rfl ?_ ?_ ?_ ?_) | (refine gcall_ro e32 ( roomMay_p g l size hh) rfl ?_ ?_ ?_ ?_) | (refine dcall_ro e32 ( roomMay_p g l size hh) rfl ?_ ?_ ?_ ?_) | (refine gdcall_ro rfl e32 ( roomMay_p g l size hh) rfl ?_ ?_ ?_ ?_) | (refine call_ro e8 ( getOf_p g d (rdAt2 g l[k]!)) rfl ?_ ?_ ?_ ?_) | (refine gcall_ro e8 ( getOf_p g d (rdAt2 g l[k]!)) rfl ?_ ?_ ?_ ?_) | (refine dcall_ro e8 ( getOf_p g d (rdAt2 g l[k]!)) rfl ?_ ?_ ?_ ?_) | (refine gdcall_ro rfl e8 ( getOf_p g d (rdAt2 g l[k]!)) rfl ?_ ?_ ?_ ?_) | (refine call_ro e25 ( joinedR (rdB g d l k) (getR g d (rdAt g l[k]!)) (by rw [rdB_next, hL (k + 1) (ltD (by assumption))]; omega)) rfl ?_ ?_ ?_ ?_) | (refine gcall_ro e25 ( joinedR (rdB g d l k) (getR g d (rdAt g l[k]!)) (by rw [rdB_next, hL (k + 1) (ltD (by assumption))]; omega)) rfl ?_ ?_ ?_ ?_) | (refine dcall_ro e25 ( joinedR (rdB g d l k) (getR g d (rdAt g l[k]!)) (by rw [rdB_next, hL (k + 1) (ltD (by assumption))]; omega)) rfl ?_ ?_ ?_ ?_) | (refine gdcall_ro rfl e25 ( joinedR (rdB g d l k) (getR g d (rdAt g l[k]!)) (by rw [rdB_next, hL (k + 1) (ltD (by assumption))]; omega)) rfl ?_ ?_ ?_ ?_) | (refine loop_nat (l.length) (fun _ => True) (fun k => [(5, .lp (B + 5) 0), (4, .lp (B + 4) 0), (2, .d (ints l)), (12, I k), (11, .d (bytes (rdB g d l k))), (3, I size)]) (fun k => [(B + 4, .box g.cells), (B + 5, .box d.cells)]) ?_ (Wk.trans (Wk.nz _ _ _ _ _) (Wk.keep hcl ?_ ?_ ?_)) fun k hk hF => ?_; rotate_left 1; (focus (simp [Fr.get, newF, Fr.map, AV.kill, AV.mapN, GeoD.av, GeoD.cells, DevD.av, DevD.cells, ints, int_, bytes, secRow, AV.nz, RV.nrm, bne_self_eq_false, rdB0, bnd, sliceV, Option.getD_some, Option.getD_none, Rows_byR] <;> fail)); (focus (simp [sto, newL, Loc.kill, Loc.set, AO.kill, AV.kill, AV.mapN, GeoD.av, GeoD.cells, DevD.av, DevD.cells, ints, int_, bytes, secRow, AV.nz, RV.nrm, bne_self_eq_false, rdB0, bnd, sliceV, Option.getD_some, Option.getD_none, Rows_byR] <;> fail)); (focus (simp [newL, Loc.kill, Loc.set, GeoD.av, GeoD.cells, DevD.av, DevD.cells, ints, int_, bytes, secRow, AV.nz, RV.nrm, bne_self_eq_false, rdB0, bnd, sliceV, Option.getD_some, Option.getD_none, Rows_byR] <;> fail)); (try have hw : IntKind.i64.wrap ((k : Int) + 1) = (k : Int) + 1 := IntWalk.i64_in _ (by omega))) | (refine EndX.plain ?_) | (refine nil_split (fun hn => ?_) (fun hn => ?_)) | (refine gcall_no not_false ?_) | (refine gdcall_no not_false ?_) | (refine GuardS_of _ _ _ _ _ _ (fun hg => ?_) (fun hg => ?_)) | (refine GuardD_of _ _ _ _ (fun hg => ?_) (fun hg => ?_)) | (refine CondB_of _ _ _ _ _ _ _ ?_ (fun hg => ?_) (fun hg => ?_)))
  all_goals (try (first | ((first | unfold noN | unfold Fr.below | unfold Loc.below); simp [Fr.allN, AV.allN, AV.allNL, AO.allN]; done) | rfl | trivial | assumption | (intro row hrow; simp only [List.mem_map] at hrow; obtain ⟨x, _, rfl⟩ := hrow; rfl) | (refine Wk.keep hcl ?_ ?_ ?_; (focus (simp [Fr.get, GeoD.av, GeoD.cells, DevD.av, DevD.cells, ints, int_, bytes, secRow, AV.nz, RV.nrm, bne_self_eq_false, rdB0, bnd, sliceV, Option.getD_some, Option.getD_none, Rows_byR] <;> fail)); (focus (simp [sto, GeoD.av, GeoD.cells, DevD.av, DevD.cells, ints, int_, bytes, secRow, AV.nz, RV.nrm, bne_self_eq_false, rdB0, bnd, sliceV, Option.getD_some, Option.getD_none, Rows_byR] <;> fail)); (focus (simp <;> fail))) | (simp [allP, opd, Fr.get, Fr.below, Fr.allN, AV.allN, AV.allNL, Loc.below, AO.allN, noN, killO, killT, killD, mkNames, AO.kill, AV.kill, AV.mapN, AV.mapNL]; done) | (with_reducible exact ltD (by assumption)) | omega | (simp only [decide_eq_true_eq, decide_eq_false_iff_not] at *; omega)))
  all_goals first
    | (refine read_err ?_ ?_
       · simp only [readE, h1, hr, bne_self_eq_false, Bool.false_or, Bool.true_or, Bool.or_true, Bool.or_false, Bool.and_true, Bool.true_and, Bool.false_and, Bool.and_false, Bool.not_true, Bool.not_false, cond_true, cond_false]
       · rfl)
    | (refine read_err ?_ h1
       simp only [readE, h1', cond_true])
    | (rw [← List.map_append, rdB_next]
       refine Wk.keep hcl ?_ ?_ ?_ <;> simp [Fr.get, sto])
    | (have hk2 : k = l.length := Nat.le_antisymm hk (geD (by assumption))
       rw [Nat.sub_zero]
       exact read_ok (by simp only [readE, h1, hr, bne_self_eq_false, Bool.false_or, Bool.true_or, Bool.or_true, Bool.or_false, Bool.and_true, Bool.true_and, Bool.false_and, Bool.and_false, Bool.not_true, Bool.not_false, cond_true, cond_false]) hk2)
end Go.Proofs.Ytalhjhmphdgaoaa
