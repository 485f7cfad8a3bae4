/- The reference: versions that may be. -/
import Derived.Test.YteaojhieghakfaaSound
import Derived.Test.YteaojhieghakfaaTypes
namespace Go.Proofs.Yteaojhieghakfaa
open Go.RowKit
set_option maxRecDepth 100000
def o48_1 : List SO := ((SO.mk (some 9) (.move (.tmp 1)) none) :: (SO.mk (some 10) (.bin .quo 3 (.tmp 8) (.tmp 9)) none) :: (SO.mk (some 4) (.move (.tmp 10)) none) :: [])
theorem v48_1 : type_of% (@swl _ _ o48_1.eq_1) := @swl _ _ o48_1.eq_1
def c48_2 : SC := (.seq (.reg ((SO.mk (some 5) (.move (.tmp 0)) none) :: (SO.mk (some 6) (.move (.tmp 1)) none) :: (SO.mk (some 7) (.bin .add 3 (.tmp 5) (.tmp 6)) none) :: (SO.mk (some 8) (.bin .sub 3 (.tmp 7) (.const (Value.int .i64 1))) none) :: o48_1)) (.keep [4] .ret))
theorem u48_2 : type_of% (@swc _ _ c48_2.eq_1) := @swc _ _ c48_2.eq_1
def c48 : SC := (.seq (.reg [SO.mk (some 4) (.move (.const (Value.int .i64 0))) none]) (.keep [0, 1] c48_2))
theorem c48_eq : annC Try.f48 = some c48 := by kernel_rfl
theorem r48 : Try.f48.results.toList = [.tmp 4] := by kernel_rfl
theorem e48 : enters Try.prog 48 = true := by kernel_rfl
def o45_1 : List SO := ((SO.mk (some 30) (.load 3 (.tmp 29)) (some (26 , false))) :: (SO.mk (some 31) (.call 26 [(.tmp 28), (.const (Value.int .i64 0)), (.tmp 30)]) (some (26 , false))) :: (SO.mk (some 32) (.un .not (.tmp 31)) (some (26 , false))) :: (SO.mk (some 33) (.pick (.tmp 26) (.const (Value.bool true)) (.tmp 32)) none) :: [])
theorem v45_1 : type_of% (@swl _ _ o45_1.eq_1) := @swl _ _ o45_1.eq_1
def o45_2 : List SO := ((SO.mk (some 26) (.move (.tmp 25)) none) :: (SO.mk (some 27) (.faddr 57 (.tmp 3) 6) (some (26 , false))) :: (SO.mk (some 28) (.load 3 (.tmp 27)) (some (26 , false))) :: (SO.mk (some 29) (.faddr 30 (.tmp 2) 1) (some (26 , false))) :: o45_1)
theorem v45_2 : type_of% (@swl _ _ o45_2.eq_1) := @swl _ _ o45_2.eq_1
def o45_3 : List SO := ((SO.mk (some 22) (.bin .sub 3 (.tmp 21) (.const (Value.int .i64 1))) (some (17 , false))) :: (SO.mk (some 23) (.call 26 [(.tmp 19), (.const (Value.int .i64 1)), (.tmp 22)]) (some (17 , false))) :: (SO.mk (some 24) (.un .not (.tmp 23)) (some (17 , false))) :: (SO.mk (some 25) (.pick (.tmp 17) (.const (Value.bool true)) (.tmp 24)) none) :: o45_2)
theorem v45_3 : type_of% (@swl _ _ o45_3.eq_1) := @swl _ _ o45_3.eq_1
def o45_4 : List SO := ((SO.mk (some 18) (.faddr 57 (.tmp 3) 0) (some (17 , false))) :: (SO.mk (some 19) (.load 3 (.tmp 18)) (some (17 , false))) :: (SO.mk (some 20) (.faddr 30 (.tmp 2) 0) (some (17 , false))) :: (SO.mk (some 21) (.load 3 (.tmp 20)) (some (17 , false))) :: o45_3)
theorem v45_4 : type_of% (@swl _ _ o45_4.eq_1) := @swl _ _ o45_4.eq_1
def o45_5 : List SO := ((SO.mk (some 14) (.call 47 [(.tmp 13)]) (some (11 , false))) :: (SO.mk (some 15) (.bin .neq 31 (.tmp 14) (.const (Value.int .i64 0))) (some (11 , false))) :: (SO.mk (some 16) (.pick (.tmp 11) (.const (Value.bool true)) (.tmp 15)) none) :: (SO.mk (some 17) (.move (.tmp 16)) none) :: o45_4)
theorem v45_5 : type_of% (@swl _ _ o45_5.eq_1) := @swl _ _ o45_5.eq_1
def o45_6 : List SO := ((SO.mk (some 10) (.bin .lss 3 (.tmp 9) (.const (Value.int .i64 0))) none) :: (SO.mk (some 11) (.move (.tmp 10)) none) :: (SO.mk (some 12) (.faddr 57 (.tmp 3) 2) (some (11 , false))) :: (SO.mk (some 13) (.load 9 (.tmp 12)) (some (11 , false))) :: o45_5)
theorem v45_6 : type_of% (@swl _ _ o45_6.eq_1) := @swl _ _ o45_6.eq_1
def c45_7 : SC := (.seq (.reg [SO.mk (some 4) (.move (.const (Value.bool false))) none]) (.keep [4] .ret))
theorem u45_7 : type_of% (@swc _ _ c45_7.eq_1) := @swc _ _ c45_7.eq_1
def c45_8 : SC := (.cond (.tmp 33) c45_7 .skip)
theorem u45_8 : type_of% (@swc _ _ c45_8.eq_1) := @swc _ _ c45_8.eq_1
def o45_9 : List SO := ((SO.mk (some 64) (.pick (.tmp 60) (.tmp 63) (.const (Value.bool false))) none) :: (SO.mk (some 4) (.move (.tmp 64)) none) :: [])
theorem v45_9 : type_of% (@swl _ _ o45_9.eq_1) := @swl _ _ o45_9.eq_1
def o45_10 : List SO := ((SO.mk (some 60) (.move (.tmp 59)) none) :: (SO.mk (some 61) (.faddr 57 (.tmp 3) 11) (some (60 , true))) :: (SO.mk (some 62) (.load 3 (.tmp 61)) (some (60 , true))) :: (SO.mk (some 63) (.bin .eql 3 (.tmp 62) (.const (Value.int .i64 0))) (some (60 , true))) :: o45_9)
theorem v45_10 : type_of% (@swl _ _ o45_10.eq_1) := @swl _ _ o45_10.eq_1
def o45_11 : List SO := ((SO.mk (some 56) (.faddr 57 (.tmp 3) 10) (some (55 , true))) :: (SO.mk (some 57) (.load 3 (.tmp 56)) (some (55 , true))) :: (SO.mk (some 58) (.bin .eql 3 (.tmp 57) (.const (Value.int .i64 0))) (some (55 , true))) :: (SO.mk (some 59) (.pick (.tmp 55) (.tmp 58) (.const (Value.bool false))) none) :: o45_10)
theorem v45_11 : type_of% (@swl _ _ o45_11.eq_1) := @swl _ _ o45_11.eq_1
def o45_12 : List SO := ((SO.mk (some 52) (.load 3 (.tmp 51)) (some (50 , true))) :: (SO.mk (some 53) (.bin .eql 3 (.tmp 52) (.const (Value.int .i64 0))) (some (50 , true))) :: (SO.mk (some 54) (.pick (.tmp 50) (.tmp 53) (.const (Value.bool false))) none) :: (SO.mk (some 55) (.move (.tmp 54)) none) :: o45_11)
theorem v45_12 : type_of% (@swl _ _ o45_12.eq_1) := @swl _ _ o45_12.eq_1
def o45_13 : List SO := ((SO.mk (some 48) (.bin .eql 3 (.tmp 47) (.const (Value.int .i64 0))) (some (44 , true))) :: (SO.mk (some 49) (.pick (.tmp 44) (.tmp 48) (.const (Value.bool false))) none) :: (SO.mk (some 50) (.move (.tmp 49)) none) :: (SO.mk (some 51) (.faddr 57 (.tmp 3) 9) (some (50 , true))) :: o45_12)
theorem v45_13 : type_of% (@swl _ _ o45_13.eq_1) := @swl _ _ o45_13.eq_1
def o45_14 : List SO := ((SO.mk (some 44) (.move (.tmp 43)) none) :: (SO.mk (some 45) (.faddr 57 (.tmp 3) 8) (some (44 , true))) :: (SO.mk (some 46) (.load 28 (.tmp 45)) (some (44 , true))) :: (SO.mk (some 47) (.len 28 (.tmp 46)) (some (44 , true))) :: o45_13)
theorem v45_14 : type_of% (@swl _ _ o45_14.eq_1) := @swl _ _ o45_14.eq_1
def o45_15 : List SO := ((SO.mk (some 40) (.faddr 57 (.tmp 3) 7) (some (39 , true))) :: (SO.mk (some 41) (.load 3 (.tmp 40)) (some (39 , true))) :: (SO.mk (some 42) (.bin .eql 3 (.tmp 41) (.const (Value.int .i64 0))) (some (39 , true))) :: (SO.mk (some 43) (.pick (.tmp 39) (.tmp 42) (.const (Value.bool false))) none) :: o45_14)
theorem v45_15 : type_of% (@swl _ _ o45_15.eq_1) := @swl _ _ o45_15.eq_1
def c45_16 : SC := (.seq (.reg ((SO.mk (some 36) (.faddr 57 (.tmp 3) 5) none) :: (SO.mk (some 37) (.load 3 (.tmp 36)) none) :: (SO.mk (some 38) (.bin .eql 3 (.tmp 37) (.const (Value.int .i64 0))) none) :: (SO.mk (some 39) (.move (.tmp 38)) none) :: o45_15)) (.keep [4] .ret))
theorem u45_16 : type_of% (@swc _ _ c45_16.eq_1) := @swc _ _ c45_16.eq_1
def c45_17 : SC := (.cond (.tmp 35) c45_16 .skip)
theorem u45_17 : type_of% (@swc _ _ c45_17.eq_1) := @swc _ _ c45_17.eq_1
def o45_18 : List SO := ((SO.mk (some 73) (.un .not (.tmp 72)) (some (69 , false))) :: (SO.mk (some 74) (.pick (.tmp 69) (.const (Value.bool true)) (.tmp 73)) none) :: [])
theorem v45_18 : type_of% (@swl _ _ o45_18.eq_1) := @swl _ _ o45_18.eq_1
def o45_19 : List SO := ((SO.mk (some 69) (.move (.tmp 68)) none) :: (SO.mk (some 70) (.faddr 57 (.tmp 3) 7) (some (69 , false))) :: (SO.mk (some 71) (.load 3 (.tmp 70)) (some (69 , false))) :: (SO.mk (some 72) (.call 26 [(.tmp 71), (.const (Value.int .i64 1)), (.const (Value.int .i64 3))]) (some (69 , false))) :: o45_18)
theorem v45_19 : type_of% (@swl _ _ o45_19.eq_1) := @swl _ _ o45_19.eq_1
def c45_20 : SC := (.seq (.reg [SO.mk (some 4) (.move (.const (Value.bool false))) none]) (.keep [4] .ret))
theorem u45_20 : type_of% (@swc _ _ c45_20.eq_1) := @swc _ _ c45_20.eq_1
def c45_21 : SC := (.cond (.tmp 74) c45_20 .skip)
theorem u45_21 : type_of% (@swc _ _ c45_21.eq_1) := @swc _ _ c45_21.eq_1
def c45_22 : SC := (.cond (.tmp 80) (.reg [SO.mk (some 5) (.move (.const (Value.int .i64 0))) none]) .skip)
theorem u45_22 : type_of% (@swc _ _ c45_22.eq_1) := @swc _ _ c45_22.eq_1
def c45_23 : SC := (.seq (.reg [SO.mk (some 4) (.move (.const (Value.bool false))) none]) (.keep [4] .ret))
theorem u45_23 : type_of% (@swc _ _ c45_23.eq_1) := @swc _ _ c45_23.eq_1
def c45_24 : SC := (.cond (.tmp 85) c45_23 .skip)
theorem u45_24 : type_of% (@swc _ _ c45_24.eq_1) := @swc _ _ c45_24.eq_1
def o45_25 : List SO := ((SO.mk (some 101) (.pick (.tmp 97) (.tmp 100) (.const (Value.bool false))) none) :: (SO.mk (some 4) (.move (.tmp 101)) none) :: [])
theorem v45_25 : type_of% (@swl _ _ o45_25.eq_1) := @swl _ _ o45_25.eq_1
def o45_26 : List SO := ((SO.mk (some 97) (.move (.tmp 96)) none) :: (SO.mk (some 98) (.faddr 57 (.tmp 3) 11) (some (97 , true))) :: (SO.mk (some 99) (.load 3 (.tmp 98)) (some (97 , true))) :: (SO.mk (some 100) (.bin .eql 3 (.tmp 99) (.const (Value.int .i64 0))) (some (97 , true))) :: o45_25)
theorem v45_26 : type_of% (@swl _ _ o45_26.eq_1) := @swl _ _ o45_26.eq_1
def o45_27 : List SO := ((SO.mk (some 93) (.faddr 57 (.tmp 3) 10) (some (92 , true))) :: (SO.mk (some 94) (.load 3 (.tmp 93)) (some (92 , true))) :: (SO.mk (some 95) (.bin .eql 3 (.tmp 94) (.const (Value.int .i64 0))) (some (92 , true))) :: (SO.mk (some 96) (.pick (.tmp 92) (.tmp 95) (.const (Value.bool false))) none) :: o45_26)
theorem v45_27 : type_of% (@swl _ _ o45_27.eq_1) := @swl _ _ o45_27.eq_1
def c45_28 : SC := (.seq (.reg ((SO.mk (some 89) (.faddr 57 (.tmp 3) 9) none) :: (SO.mk (some 90) (.load 3 (.tmp 89)) none) :: (SO.mk (some 91) (.bin .eql 3 (.tmp 90) (.const (Value.int .i64 0))) none) :: (SO.mk (some 92) (.move (.tmp 91)) none) :: o45_27)) (.keep [4] .ret))
theorem u45_28 : type_of% (@swc _ _ c45_28.eq_1) := @swc _ _ c45_28.eq_1
def c45_29 : SC := (.cond (.tmp 88) c45_28 .skip)
theorem u45_29 : type_of% (@swc _ _ c45_29.eq_1) := @swc _ _ c45_29.eq_1
def o45_30 : List SO := ((SO.mk (some 114) (.faddr 57 (.tmp 3) 9) (some (112 , false))) :: (SO.mk (some 115) (.load 3 (.tmp 114)) (some (112 , false))) :: (SO.mk (some 116) (.call 27 [(.tmp 113), (.tmp 115)]) (some (112 , false))) :: (SO.mk (some 117) (.pick (.tmp 112) (.const (Value.bool true)) (.tmp 116)) none) :: [])
theorem v45_30 : type_of% (@swl _ _ o45_30.eq_1) := @swl _ _ o45_30.eq_1
def o45_31 : List SO := ((SO.mk (some 110) (.un .not (.tmp 109)) (some (106 , false))) :: (SO.mk (some 111) (.pick (.tmp 106) (.const (Value.bool true)) (.tmp 110)) none) :: (SO.mk (some 112) (.move (.tmp 111)) none) :: (SO.mk (some 113) (.load 30 (.tmp 2)) (some (112 , false))) :: o45_30)
theorem v45_31 : type_of% (@swl _ _ o45_31.eq_1) := @swl _ _ o45_31.eq_1
def o45_32 : List SO := ((SO.mk (some 106) (.move (.tmp 105)) none) :: (SO.mk (some 107) (.faddr 57 (.tmp 3) 10) (some (106 , false))) :: (SO.mk (some 108) (.load 3 (.tmp 107)) (some (106 , false))) :: (SO.mk (some 109) (.call 26 [(.tmp 108), (.const (Value.int .i64 0)), (.const (Value.int .i64 4000))]) (some (106 , false))) :: o45_31)
theorem v45_32 : type_of% (@swl _ _ o45_32.eq_1) := @swl _ _ o45_32.eq_1
def c45_33 : SC := (.seq (.reg [SO.mk (some 4) (.move (.const (Value.bool false))) none]) (.keep [4] .ret))
theorem u45_33 : type_of% (@swc _ _ c45_33.eq_1) := @swc _ _ c45_33.eq_1
def c45_34 : SC := (.cond (.tmp 117) c45_33 .skip)
theorem u45_34 : type_of% (@swc _ _ c45_34.eq_1) := @swc _ _ c45_34.eq_1
def c45_35 : SC := (.seq (.reg [SO.mk (some 121) (.faddr 57 (.tmp 3) 11) none, SO.mk (some 122) (.load 3 (.tmp 121)) none, SO.mk (some 123) (.bin .eql 3 (.tmp 122) (.const (Value.int .i64 0))) none, SO.mk (some 4) (.move (.tmp 123)) none]) (.keep [4] .ret))
theorem u45_35 : type_of% (@swc _ _ c45_35.eq_1) := @swc _ _ c45_35.eq_1
def c45_36 : SC := (.cond (.tmp 120) c45_35 .skip)
theorem u45_36 : type_of% (@swc _ _ c45_36.eq_1) := @swc _ _ c45_36.eq_1
def c45_37 : SC := (.seq (.reg [SO.mk (some 124) (.faddr 57 (.tmp 3) 11) none, SO.mk (some 125) (.load 3 (.tmp 124)) none, SO.mk (some 126) (.call 26 [(.tmp 125), (.const (Value.int .i64 0)), (.const (Value.int .i64 1073742824))]) none, SO.mk (some 4) (.move (.tmp 126)) none]) (.keep [4] .ret))
theorem u45_37 : type_of% (@swc _ _ c45_37.eq_1) := @swc _ _ c45_37.eq_1
def c45_38 : SC := (.seq (.seq (.reg [SO.mk (some 118) (.faddr 57 (.tmp 3) 7) none, SO.mk (some 119) (.load 3 (.tmp 118)) none, SO.mk (some 120) (.bin .eql 3 (.tmp 119) (.const (Value.int .i64 2))) none]) (.keep [120, 3] c45_36)) (.keep [3] c45_37))
theorem u45_38 : type_of% (@swc _ _ c45_38.eq_1) := @swc _ _ c45_38.eq_1
def c45_39 : SC := (.seq (.seq (.reg ((SO.mk (some 102) (.faddr 57 (.tmp 3) 9) none) :: (SO.mk (some 103) (.load 3 (.tmp 102)) none) :: (SO.mk (some 104) (.call 26 [(.tmp 103), (.const (Value.int .i64 0)), (.const (Value.int .i64 7))]) none) :: (SO.mk (some 105) (.un .not (.tmp 104)) none) :: o45_32)) (.keep [117, 3] c45_34)) (.keep [3] c45_38))
theorem u45_39 : type_of% (@swc _ _ c45_39.eq_1) := @swc _ _ c45_39.eq_1
def c45_40 : SC := (.seq (.seq (.reg [SO.mk (some 86) (.faddr 57 (.tmp 3) 7) none, SO.mk (some 87) (.load 3 (.tmp 86)) none, SO.mk (some 88) (.bin .eql 3 (.tmp 87) (.const (Value.int .i64 1))) none]) (.keep [88, 2, 3] c45_29)) (.keep [2, 3] c45_39))
theorem u45_40 : type_of% (@swc _ _ c45_40.eq_1) := @swc _ _ c45_40.eq_1
def c45_41 : SC := (.seq (.seq (.reg [SO.mk (some 81) (.faddr 57 (.tmp 3) 8) none, SO.mk (some 82) (.load 28 (.tmp 81)) none, SO.mk (some 83) (.len 28 (.tmp 82)) none, SO.mk (some 84) (.move (.tmp 5)) none, SO.mk (some 85) (.bin .neq 3 (.tmp 83) (.tmp 84)) none]) (.keep [85, 2, 3] c45_24)) (.keep [2, 3] c45_40))
theorem u45_41 : type_of% (@swc _ _ c45_41.eq_1) := @swc _ _ c45_41.eq_1
def c45_42 : SC := (.seq (.seq (.reg [SO.mk (some 78) (.faddr 57 (.tmp 3) 7) none, SO.mk (some 79) (.load 3 (.tmp 78)) none, SO.mk (some 80) (.bin .eql 3 (.tmp 79) (.const (Value.int .i64 2))) none]) (.keep [80, 5, 2, 3] c45_22)) (.keep [5, 2, 3] c45_41))
theorem u45_42 : type_of% (@swc _ _ c45_42.eq_1) := @swc _ _ c45_42.eq_1
def c45_43 : SC := (.seq (.reg [SO.mk (some 75) (.faddr 57 (.tmp 3) 5) none, SO.mk (some 76) (.load 3 (.tmp 75)) none, SO.mk (some 77) (.call 48 [(.tmp 76), (.const (Value.int .i64 64))]) none, SO.mk (some 5) (.move (.tmp 77)) none]) (.keep [5, 2, 3] c45_42))
theorem u45_43 : type_of% (@swc _ _ c45_43.eq_1) := @swc _ _ c45_43.eq_1
def c45_44 : SC := (.seq (.seq (.reg ((SO.mk (some 65) (.faddr 57 (.tmp 3) 5) none) :: (SO.mk (some 66) (.load 3 (.tmp 65)) none) :: (SO.mk (some 67) (.call 26 [(.tmp 66), (.const (Value.int .i64 0)), (.const (Value.int .i64 600))]) none) :: (SO.mk (some 68) (.un .not (.tmp 67)) none) :: o45_19)) (.keep [74, 2, 3] c45_21)) (.keep [2, 3] c45_43))
theorem u45_44 : type_of% (@swc _ _ c45_44.eq_1) := @swc _ _ c45_44.eq_1
def c45_45 : SC := (.seq (.seq (.reg [SO.mk (some 34) (.faddr 57 (.tmp 3) 4) none, SO.mk (some 35) (.load 4 (.tmp 34)) none]) (.keep [35, 2, 3] c45_17)) (.keep [2, 3] c45_44))
theorem u45_45 : type_of% (@swc _ _ c45_45.eq_1) := @swc _ _ c45_45.eq_1
def c45_46 : SC := (.seq (.seq (.reg ((SO.mk (some 6) (.load 30 (.tmp 2)) none) :: (SO.mk (some 7) (.faddr 57 (.tmp 3) 1) none) :: (SO.mk (some 8) (.load 9 (.tmp 7)) none) :: (SO.mk (some 9) (.call 46 [(.tmp 6), (.tmp 8)]) none) :: o45_6)) (.keep [33, 2, 3] c45_8)) (.keep [2, 3] c45_45))
theorem u45_46 : type_of% (@swc _ _ c45_46.eq_1) := @swc _ _ c45_46.eq_1
def c45 : SC := (.seq (.reg [SO.mk (some 2) (.box 30 (.tmp 0)) none, SO.mk (some 3) (.box 57 (.tmp 1)) none, SO.mk (some 4) (.move (.const (Value.bool false))) none]) (.keep [2, 3] c45_46))
theorem c45_eq : annC Try.f45 = some c45 := by kernel_rfl
theorem r45 : Try.f45.results.toList = [.tmp 4] := by kernel_rfl
theorem e45 : enters Try.prog 45 = true := by kernel_rfl
end Go.Proofs.Yteaojhieghakfaa
namespace Go.Proofs.Yteaojhieghakfaa
open Go.RowKit
set_option maxHeartbeats 4000000
set_option maxRecDepth 20000
attribute [local irreducible] SW SWL SWLn SWD SEcall SEcallv SDv SE SO1 SOg ACalls ACallv Wk EndV
set_option linter.unusedSimpArgs false
set_option linter.unusedVariables false
theorem chunks64_p (n : Int) : Pure Try.prog 48 [I n, I 64] (I (secN n)) := by
  refine pure_of follows Try.func48 c48_eq r48 (Nat.le_of_ble_eq_true rfl) fun B σ hcl hsz => ?_
  clear hsz
  repeat' (first | (simp -implicitDefEqProofs only [*, contN, contC, Nat.reduceBEq, Bool.or_false, Bool.or_true, Bool.false_or, Bool.true_or, Bool.not_true, Bool.not_false, w_skip, w_ret, w_exit, w_reg, w_dreg, w_seq, SK_n, SK_r, SK_x, w_keep, w_block, w_cond, w_nil, w_cons, w_consg, w_nnil, w_ncons, w_dnil, w_dcons, w_dconsg, HK_app, HD_app, HQ_n, HQ_r, HQ_x, HQ_bn, HQ_br, HQ_bx, HQ_en, HQ_er, HQ_ex, CondB_true, CondB_false, SO1, w_sdv, SDe_alloc, SDe_box, SDe_bslice, SDe_app, true_imp_iff, false_imp_iff, and_false, false_and, not_false_eq_true, not_true_eq_false, addN, mkNames, killT, killD, killO, List.foldl_nil, List.foldl_cons, List.append_nil, List.nil_append, List.cons_append, GuardS_true, GuardS_false, GuardD_true, GuardD_false, DK_true, DK_false, lt_self_add, le_self_add, decide_true, decide_false, Bool.false_eq_true, Bool.true_eq_false, Nat.add_left_cancel_iff, SE, SEalloc, SEbox, SEstore, w_bs, SEbl, SEfz, SEbs0, fzName, osOf, AV.fz1, w_app, w_mk, aev, opd, Fr.get, putO, Fr.norm, List.map_cons, List.map_nil, with1, with2, onInt, AV.lit, entry, ↓reduceIte, Nat.reduceEqDiff, Nat.reduceAdd, reduceCtorEq, true_and, and_true, Option.map_some, Option.map_none, Option.bind_some, Option.bind_none, cond_true, cond_false, binV, unV, fieldV, loadV, sto, cellsAV, newF, newL, Fr.map, Loc.kill, Loc.set, AO.kill, AV.kill, AV.mapN, AV.mapNL, List.filter_nil, List.filter_cons, allP, EndV, retV, resV, resL, frz, dropL, AV.pick, nilV, tupV, imp_self, ne_eq, Int.cast_ofNat_Int, Int.reduceLT, Int.reduceToNat, List.getD_cons_zero, List.getD_cons_succ, bsliceV, buildV, afill, repl, chunk, rvs, AV.rv, RV.nrm, List.getElem?_nil, List.append_assoc, Nat.reduceMul, Nat.reducePow, Nat.zero_lt_succ, Nat.zero_add, Nat.add_zero, List.length_cons, List.length_nil, Nat.reduceLeDiff, Nat.le_refl, List.take_succ_cons, List.take_zero, List.drop_succ_cons, List.drop_zero, indexV, lenV, rowOf_mapD, rowOf_mapI, rowOf_mapA, List.length_map, Int.toNat_natCast, List.getElem?_cons_zero, List.getElem?_cons_succ, and_self, implies_true, if_true, if_false, HQ_zn, HQ_zr, HQ_wn, HQ_wr, AV.nz, AV.nzL, RV.nrm, SEbin, SEnil, nilK, srcV, dstV, appName, List.length_append, Nat.mul_one, take_map_len, take_map_app, List.getElem?_cons_zero, List.map_append, SEmkmap, SEmset, mgetV, kvOf, getM, setM, c48, r48, v48_1, u48_2, ty3, secN]) | (with_reducible refine And.intro ?_ ?_) | (refine EndX.plain ?_) | (refine nil_split (fun hn => ?_) (fun hn => ?_)) | (refine gcall_no not_false ?_) | (refine gdcall_no not_false ?_) | (refine GuardS_of _ _ _ _ _ _ (fun hg => ?_) (fun hg => ?_)) | (refine GuardD_of _ _ _ _ (fun hg => ?_) (fun hg => ?_)) | (refine CondB_of _ _ _ _ _ _ _ ?_ (fun hg => ?_) (fun hg => ?_)))
  all_goals (try (first | ((first | unfold noN | unfold Fr.below | unfold Loc.below); simp [Fr.allN, AV.allN, AV.allNL, AO.allN]; done) | rfl | trivial | assumption | (intro row hrow; simp only [List.mem_map] at hrow; obtain ⟨x, _, rfl⟩ := hrow; rfl) | (refine Wk.keep hcl ?_ ?_ ?_; (focus (simp [Fr.get, secN] <;> fail)); (focus (simp [sto, secN] <;> fail)); (focus (simp <;> fail))) | (simp [allP, opd, Fr.get, Fr.below, Fr.allN, AV.allN, AV.allNL, Loc.below, AO.allN, noN, killO, killT, killD, mkNames, AO.kill, AV.kill, AV.mapN, AV.mapNL]; done) | (with_reducible exact ltD (by assumption)) | omega | (simp only [decide_eq_true_eq, decide_eq_false_iff_not] at *; omega)))
def vmBad (s : SttD) (v : VerD) : Bool := decide (idxD s.bkts.length (pB s.bkts v.bkt) < 0) || (wordF v.key 16 != 0 || (!inR v.id 1 (IntKind.i64.wrap (s.next - 1)) || !inR v.time 0 s.clock))
def vmF (s : SttD) (v : VerD) : Bool :=
  bif vmBad s v then false else bif v.mark then markF v else bif !inR v.size 0 600 || !inR v.tier 1 3 then false
  else bif (v.secs.length : Int) != (bif v.tier == 2 then 0 else secN v.size) then false
  else bif v.tier == 1 then v.vol == 0 && (v.pos == 0 && v.till == 0)
  else bif !inR v.vol 0 7 || (!inR v.pos 0 4000 || decide (idxD s.gone.length (pG s.gone v.vol) ≥ 0)) then false
  else bif v.tier == 2 then v.till == 0 else inR v.till 0 1073742824
theorem vmay_p (s : SttD) (v : VerD) : Pure Try.prog 45 [s.av, .agg (v.row.map .d)] (Bo (vmF s v)) := by
  refine pure_of follows Try.func45 c45_eq r45 (Nat.le_of_ble_eq_true rfl) fun B σ hcl hsz => ?_
  clear hsz
  repeat' (first | (simp -implicitDefEqProofs only [*, contN, contC, Nat.reduceBEq, Bool.or_false, Bool.or_true, Bool.false_or, Bool.true_or, Bool.not_true, Bool.not_false, w_skip, w_ret, w_exit, w_reg, w_dreg, w_seq, SK_n, SK_r, SK_x, w_keep, w_block, w_cond, w_nil, w_cons, w_consg, w_nnil, w_ncons, w_dnil, w_dcons, w_dconsg, HK_app, HD_app, HQ_n, HQ_r, HQ_x, HQ_bn, HQ_br, HQ_bx, HQ_en, HQ_er, HQ_ex, CondB_true, CondB_false, SO1, w_sdv, SDe_alloc, SDe_box, SDe_bslice, SDe_app, true_imp_iff, false_imp_iff, and_false, false_and, not_false_eq_true, not_true_eq_false, addN, mkNames, killT, killD, killO, List.foldl_nil, List.foldl_cons, List.append_nil, List.nil_append, List.cons_append, GuardS_true, GuardS_false, GuardD_true, GuardD_false, DK_true, DK_false, lt_self_add, le_self_add, decide_true, decide_false, Bool.false_eq_true, Bool.true_eq_false, Nat.add_left_cancel_iff, SE, SEalloc, SEbox, SEstore, w_bs, SEbl, SEfz, SEbs0, fzName, osOf, AV.fz1, w_app, w_mk, aev, opd, Fr.get, putO, Fr.norm, List.map_cons, List.map_nil, with1, with2, onInt, AV.lit, entry, ↓reduceIte, Nat.reduceEqDiff, Nat.reduceAdd, reduceCtorEq, true_and, and_true, Option.map_some, Option.map_none, Option.bind_some, Option.bind_none, cond_true, cond_false, binV, unV, fieldV, loadV, sto, cellsAV, newF, newL, Fr.map, Loc.kill, Loc.set, AO.kill, AV.kill, AV.mapN, AV.mapNL, List.filter_nil, List.filter_cons, allP, EndV, retV, resV, resL, frz, dropL, AV.pick, nilV, tupV, imp_self, ne_eq, Int.cast_ofNat_Int, Int.reduceLT, Int.reduceToNat, List.getD_cons_zero, List.getD_cons_succ, bsliceV, buildV, afill, repl, chunk, rvs, AV.rv, RV.nrm, List.getElem?_nil, List.append_assoc, Nat.reduceMul, Nat.reducePow, Nat.zero_lt_succ, Nat.zero_add, Nat.add_zero, List.length_cons, List.length_nil, Nat.reduceLeDiff, Nat.le_refl, List.take_succ_cons, List.take_zero, List.drop_succ_cons, List.drop_zero, indexV, lenV, rowOf_mapD, rowOf_mapI, rowOf_mapA, List.length_map, Int.toNat_natCast, List.getElem?_cons_zero, List.getElem?_cons_succ, and_self, implies_true, if_true, if_false, HQ_zn, HQ_zr, HQ_wn, HQ_wr, AV.nz, AV.nzL, RV.nrm, SEbin, SEnil, nilK, srcV, dstV, appName, List.length_append, Nat.mul_one, take_map_len, take_map_app, List.getElem?_cons_zero, List.map_append, SEmkmap, SEmset, mgetV, kvOf, getM, setM, c45, r45, v45_1, v45_2, v45_3, v45_4, v45_5, v45_6, u45_7, u45_8, v45_9, v45_10, v45_11, v45_12, v45_13, v45_14, v45_15, u45_16, u45_17, v45_18, v45_19, u45_20, u45_21, u45_22, u45_23, u45_24, v45_25, v45_26, v45_27, u45_28, u45_29, v45_30, v45_31, v45_32, u45_33, u45_34, u45_35, u45_36, u45_37, u45_38, u45_39, u45_40, u45_41, u45_42, u45_43, u45_44, u45_45, u45_46, ty30, ty57, ty9, ty3, ty31, ty4, ty28, SttD.av, SttD.cells, VerD.row, ints]) | (with_reducible refine And.intro ?_ ?_) | (refine call_ro e46 ( bucketAt_p s v.bkt) rfl ?_ ?_ ?_ ?_) | (refine gcall_ro e46 ( bucketAt_p s v.bkt) rfl ?_ ?_ ?_ ?_) | (refine dcall_ro e46 ( bucketAt_p s v.bkt) rfl ?_ ?_ ?_ ?_) | (refine gdcall_ro rfl e46 ( bucketAt_p s v.bkt) rfl ?_ ?_ ?_ ?_) | (refine call_ro e47 ( keyR_p v.key) rfl ?_ ?_ ?_ ?_) | (refine gcall_ro e47 ( keyR_p v.key) rfl ?_ ?_ ?_ ?_) | (refine dcall_ro e47 ( keyR_p v.key) rfl ?_ ?_ ?_ ?_) | (refine gdcall_ro rfl e47 ( keyR_p v.key) rfl ?_ ?_ ?_ ?_) | (refine call_ro e26 ( In_p _ _ _) rfl ?_ ?_ ?_ ?_) | (refine gcall_ro e26 ( In_p _ _ _) rfl ?_ ?_ ?_ ?_) | (refine dcall_ro e26 ( In_p _ _ _) rfl ?_ ?_ ?_ ?_) | (refine gdcall_ro rfl e26 ( In_p _ _ _) rfl ?_ ?_ ?_ ?_) | (refine call_ro e48 ( chunks64_p v.size) rfl ?_ ?_ ?_ ?_) | (refine gcall_ro e48 ( chunks64_p v.size) rfl ?_ ?_ ?_ ?_) | (refine dcall_ro e48 ( chunks64_p v.size) rfl ?_ ?_ ?_ ?_) | (refine gdcall_ro rfl e48 ( chunks64_p v.size) rfl ?_ ?_ ?_ ?_) | (refine call_ro e27 ( gone_p s v.vol) rfl ?_ ?_ ?_ ?_) | (refine gcall_ro e27 ( gone_p s v.vol) rfl ?_ ?_ ?_ ?_) | (refine dcall_ro e27 ( gone_p s v.vol) rfl ?_ ?_ ?_ ?_) | (refine gdcall_ro rfl e27 ( gone_p s v.vol) rfl ?_ ?_ ?_ ?_) | (refine EndX.plain ?_) | (refine nil_split (fun hn => ?_) (fun hn => ?_)) | (refine gcall_no not_false ?_) | (refine gdcall_no not_false ?_) | (refine GuardS_of _ _ _ _ _ _ (fun hg => ?_) (fun hg => ?_)) | (refine GuardD_of _ _ _ _ (fun hg => ?_) (fun hg => ?_)) | (refine CondB_of _ _ _ _ _ _ _ ?_ (fun hg => ?_) (fun hg => ?_)))
  all_goals (try (first | ((first | unfold noN | unfold Fr.below | unfold Loc.below); simp [Fr.allN, AV.allN, AV.allNL, AO.allN]; done) | rfl | trivial | assumption | (intro row hrow; simp only [List.mem_map] at hrow; obtain ⟨x, _, rfl⟩ := hrow; rfl) | (refine Wk.keep hcl ?_ ?_ ?_; (focus (simp [Fr.get, SttD.av, SttD.cells, VerD.row, ints] <;> fail)); (focus (simp [sto, SttD.av, SttD.cells, VerD.row, ints] <;> fail)); (focus (simp <;> fail))) | (simp [allP, opd, Fr.get, Fr.below, Fr.allN, AV.allN, AV.allNL, Loc.below, AO.allN, noN, killO, killT, killD, mkNames, AO.kill, AV.kill, AV.mapN, AV.mapNL]; done) | (with_reducible exact ltD (by assumption)) | omega | (simp only [decide_eq_true_eq, decide_eq_false_iff_not] at *; omega)))
  all_goals (try (simp only [Bool.not_eq_true', Bool.not_eq_false'] at *))
  all_goals first
    | (simp only [vmF, vmBad, markF, *, Bool.false_or, Bool.true_or, Bool.or_true, Bool.or_false, Bool.and_true, Bool.true_and, Bool.false_and, Bool.and_false, Bool.not_true, Bool.not_false, cond_true, cond_false]; done)
end Go.Proofs.Yteaojhieghakfaa
