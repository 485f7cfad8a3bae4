/- code.CheckRecord and the reference's RecordFault. -/
import Derived.Test.YtckjgipcephmfaaDoorKBare
import Derived.Test.YtckjgipcephmfaaDoorTypes
namespace Go.Proofs.YtckjgipcephmfaaDoor
open Go.RowKit
set_option maxRecDepth 100000
def o7_1 : List SO := ((SO.mk (some 13) (.faddr 42 (.tmp 1) 0) (some (12 , false))) :: (SO.mk (some 14) (.load 3 (.tmp 13)) (some (12 , false))) :: (SO.mk (some 15) (.bin .gtr 3 (.tmp 14) (.const (Value.int .i64 14))) (some (12 , false))) :: (SO.mk (some 16) (.pick (.tmp 12) (.const (Value.bool true)) (.tmp 15)) none) :: [])
theorem v7_1 : type_of% (@swl _ _ o7_1.eq_1) := @swl _ _ o7_1.eq_1
def c7_2 : SC := (.seq (.reg [SO.mk (some 2) (.move (.const (Value.int .i64 3))) none]) (.keep [2] .ret))
theorem u7_2 : type_of% (@swc _ _ c7_2.eq_1) := @swc _ _ c7_2.eq_1
def c7_3 : SC := (.cond (.tmp 16) c7_2 .skip)
theorem u7_3 : type_of% (@swc _ _ c7_3.eq_1) := @swc _ _ c7_3.eq_1
def o7_4 : List SO := ((SO.mk (some 29) (.call 12 [(.const (Value.int .i64 16777215)), (.tmp 28)]) none) :: (SO.mk (some 5) (.move (.tmp 29)) none) :: [])
theorem v7_4 : type_of% (@swl _ _ o7_4.eq_1) := @swl _ _ o7_4.eq_1
def o7_5 : List SO := ((SO.mk (some 25) (.faddr 42 (.tmp 1) 7) none) :: (SO.mk (some 26) (.faddr 38 (.tmp 25) 0) none) :: (SO.mk (some 27) (.load 3 (.tmp 26)) none) :: (SO.mk (some 28) (.bslice 34 3 [(0 , (.tmp 22)), (1 , (.tmp 24)), (2 , (.tmp 27))]) none) :: o7_4)
theorem v7_5 : type_of% (@swl _ _ o7_5.eq_1) := @swl _ _ o7_5.eq_1
def o7_6 : List SO := ((SO.mk (some 42) (.call 12 [(.const (Value.int .i64 65535)), (.tmp 41)]) none) :: (SO.mk (some 6) (.move (.tmp 42)) none) :: [])
theorem v7_6 : type_of% (@swl _ _ o7_6.eq_1) := @swl _ _ o7_6.eq_1
def o7_7 : List SO := ((SO.mk (some 38) (.load 3 (.tmp 37)) none) :: (SO.mk (some 39) (.faddr 40 (.tmp 4) 1) none) :: (SO.mk (some 40) (.load 3 (.tmp 39)) none) :: (SO.mk (some 41) (.bslice 34 5 [(0 , (.tmp 31)), (1 , (.tmp 33)), (2 , (.tmp 35)), (3 , (.tmp 38)), (4 , (.tmp 40))]) none) :: o7_6)
theorem v7_7 : type_of% (@swl _ _ o7_7.eq_1) := @swl _ _ o7_7.eq_1
def o7_8 : List SO := ((SO.mk (some 34) (.faddr 36 (.tmp 3) 10) none) :: (SO.mk (some 35) (.load 3 (.tmp 34)) none) :: (SO.mk (some 36) (.faddr 42 (.tmp 1) 7) none) :: (SO.mk (some 37) (.faddr 38 (.tmp 36) 1) none) :: o7_7)
theorem v7_8 : type_of% (@swl _ _ o7_8.eq_1) := @swl _ _ o7_8.eq_1
def o7_9 : List SO := ((SO.mk (some 55) (.call 12 [(.const (Value.int .i64 255)), (.tmp 54)]) none) :: (SO.mk (some 7) (.move (.tmp 55)) none) :: [])
theorem v7_9 : type_of% (@swl _ _ o7_9.eq_1) := @swl _ _ o7_9.eq_1
def o7_10 : List SO := ((SO.mk (some 51) (.load 3 (.tmp 50)) none) :: (SO.mk (some 52) (.faddr 40 (.tmp 4) 0) none) :: (SO.mk (some 53) (.load 3 (.tmp 52)) none) :: (SO.mk (some 54) (.bslice 34 5 [(0 , (.tmp 44)), (1 , (.tmp 46)), (2 , (.tmp 48)), (3 , (.tmp 51)), (4 , (.tmp 53))]) none) :: o7_9)
theorem v7_10 : type_of% (@swl _ _ o7_10.eq_1) := @swl _ _ o7_10.eq_1
def o7_11 : List SO := ((SO.mk (some 47) (.faddr 36 (.tmp 3) 9) none) :: (SO.mk (some 48) (.load 3 (.tmp 47)) none) :: (SO.mk (some 49) (.faddr 42 (.tmp 1) 7) none) :: (SO.mk (some 50) (.faddr 38 (.tmp 49) 2) none) :: o7_10)
theorem v7_11 : type_of% (@swl _ _ o7_11.eq_1) := @swl _ _ o7_11.eq_1
def o7_12 : List SO := ((SO.mk (some 8) (.move (.tmp 83)) none) :: [])
theorem v7_12 : type_of% (@swl _ _ o7_12.eq_1) := @swl _ _ o7_12.eq_1
def o7_13 : List SO := ((SO.mk (some 80) (.faddr 33 (.tmp 79) 2) (some (78 , true))) :: (SO.mk (some 81) (.load 3 (.tmp 80)) (some (78 , true))) :: (SO.mk (some 82) (.bin .geq 3 (.tmp 81) (.const (Value.int .i64 (-1)))) (some (78 , true))) :: (SO.mk (some 83) (.pick (.tmp 78) (.tmp 82) (.const (Value.bool false))) none) :: o7_12)
theorem v7_13 : type_of% (@swl _ _ o7_13.eq_1) := @swl _ _ o7_13.eq_1
def o7_14 : List SO := ((SO.mk (some 76) (.bin .geq 3 (.tmp 75) (.const (Value.int .i64 (-1)))) (some (72 , true))) :: (SO.mk (some 77) (.pick (.tmp 72) (.tmp 76) (.const (Value.bool false))) none) :: (SO.mk (some 78) (.move (.tmp 77)) none) :: (SO.mk (some 79) (.faddr 42 (.tmp 1) 5) (some (78 , true))) :: o7_13)
theorem v7_14 : type_of% (@swl _ _ o7_14.eq_1) := @swl _ _ o7_14.eq_1
def o7_15 : List SO := ((SO.mk (some 72) (.move (.tmp 71)) none) :: (SO.mk (some 73) (.faddr 42 (.tmp 1) 5) (some (72 , true))) :: (SO.mk (some 74) (.faddr 33 (.tmp 73) 1) (some (72 , true))) :: (SO.mk (some 75) (.load 3 (.tmp 74)) (some (72 , true))) :: o7_14)
theorem v7_15 : type_of% (@swl _ _ o7_15.eq_1) := @swl _ _ o7_15.eq_1
def o7_16 : List SO := ((SO.mk (some 68) (.faddr 36 (.tmp 3) 11) none) :: (SO.mk (some 69) (.load 3 (.tmp 68)) none) :: (SO.mk (some 70) (.bslice 34 5 [(0 , (.tmp 57)), (1 , (.tmp 61)), (2 , (.tmp 65)), (3 , (.tmp 67)), (4 , (.tmp 69))]) none) :: (SO.mk (some 71) (.call 12 [(.const (Value.int .i64 4294967295)), (.tmp 70)]) none) :: o7_15)
theorem v7_16 : type_of% (@swl _ _ o7_16.eq_1) := @swl _ _ o7_16.eq_1
def o7_17 : List SO := ((SO.mk (some 64) (.load 3 (.tmp 63)) none) :: (SO.mk (some 65) (.bin .add 3 (.tmp 64) (.const (Value.int .i64 1))) none) :: (SO.mk (some 66) (.faddr 36 (.tmp 3) 6) none) :: (SO.mk (some 67) (.load 3 (.tmp 66)) none) :: o7_16)
theorem v7_17 : type_of% (@swl _ _ o7_17.eq_1) := @swl _ _ o7_17.eq_1
def o7_18 : List SO := ((SO.mk (some 60) (.load 3 (.tmp 59)) none) :: (SO.mk (some 61) (.bin .add 3 (.tmp 60) (.const (Value.int .i64 1))) none) :: (SO.mk (some 62) (.faddr 42 (.tmp 1) 5) none) :: (SO.mk (some 63) (.faddr 33 (.tmp 62) 2) none) :: o7_17)
theorem v7_18 : type_of% (@swl _ _ o7_18.eq_1) := @swl _ _ o7_18.eq_1
def o7_19 : List SO := ((SO.mk (some 96) (.un .not (.tmp 95)) (some (94 , false))) :: (SO.mk (some 97) (.pick (.tmp 94) (.const (Value.bool true)) (.tmp 96)) none) :: [])
theorem v7_19 : type_of% (@swl _ _ o7_19.eq_1) := @swl _ _ o7_19.eq_1
def o7_20 : List SO := ((SO.mk (some 92) (.un .not (.tmp 91)) (some (90 , false))) :: (SO.mk (some 93) (.pick (.tmp 90) (.const (Value.bool true)) (.tmp 92)) none) :: (SO.mk (some 94) (.move (.tmp 93)) none) :: (SO.mk (some 95) (.move (.tmp 8)) (some (94 , false))) :: o7_19)
theorem v7_20 : type_of% (@swl _ _ o7_20.eq_1) := @swl _ _ o7_20.eq_1
def o7_21 : List SO := ((SO.mk (some 88) (.un .not (.tmp 87)) (some (86 , false))) :: (SO.mk (some 89) (.pick (.tmp 86) (.const (Value.bool true)) (.tmp 88)) none) :: (SO.mk (some 90) (.move (.tmp 89)) none) :: (SO.mk (some 91) (.move (.tmp 5)) (some (90 , false))) :: o7_20)
theorem v7_21 : type_of% (@swl _ _ o7_21.eq_1) := @swl _ _ o7_21.eq_1
def c7_22 : SC := (.seq (.reg [SO.mk (some 2) (.move (.const (Value.int .i64 2))) none]) (.keep [2] .ret))
theorem u7_22 : type_of% (@swc _ _ c7_22.eq_1) := @swc _ _ c7_22.eq_1
def c7_23 : SC := (.cond (.tmp 97) c7_22 .skip)
theorem u7_23 : type_of% (@swc _ _ c7_23.eq_1) := @swc _ _ c7_23.eq_1
def o7_24 : List SO := ((SO.mk (some 122) (.load 34 (.tmp 121)) (some (120 , false))) :: (SO.mk (some 123) (.call 13 [(.tmp 122), (.const (Value.slice none 0 0))]) (some (120 , false))) :: (SO.mk (some 124) (.un .not (.tmp 123)) (some (120 , false))) :: (SO.mk (some 125) (.pick (.tmp 120) (.const (Value.bool true)) (.tmp 124)) none) :: [])
theorem v7_24 : type_of% (@swl _ _ o7_24.eq_1) := @swl _ _ o7_24.eq_1
def o7_25 : List SO := ((SO.mk (some 118) (.un .not (.tmp 117)) (some (114 , false))) :: (SO.mk (some 119) (.pick (.tmp 114) (.const (Value.bool true)) (.tmp 118)) none) :: (SO.mk (some 120) (.move (.tmp 119)) none) :: (SO.mk (some 121) (.faddr 40 (.tmp 4) 2) (some (120 , false))) :: o7_24)
theorem v7_25 : type_of% (@swl _ _ o7_25.eq_1) := @swl _ _ o7_25.eq_1
def o7_26 : List SO := ((SO.mk (some 114) (.move (.tmp 113)) none) :: (SO.mk (some 115) (.faddr 36 (.tmp 3) 8) (some (114 , false))) :: (SO.mk (some 116) (.load 34 (.tmp 115)) (some (114 , false))) :: (SO.mk (some 117) (.call 13 [(.tmp 116), (.const (Value.slice none 0 0))]) (some (114 , false))) :: o7_25)
theorem v7_26 : type_of% (@swl _ _ o7_26.eq_1) := @swl _ _ o7_26.eq_1
def o7_27 : List SO := ((SO.mk (some 110) (.load 9 (.tmp 109)) none) :: (SO.mk (some 111) (.bslice 71 5 [(0 , (.tmp 101)), (1 , (.tmp 103)), (2 , (.tmp 106)), (3 , (.tmp 108)), (4 , (.tmp 110))]) none) :: (SO.mk (some 112) (.call 13 [(.tmp 99), (.tmp 111)]) none) :: (SO.mk (some 113) (.un .not (.tmp 112)) none) :: o7_26)
theorem v7_27 : type_of% (@swl _ _ o7_27.eq_1) := @swl _ _ o7_27.eq_1
def o7_28 : List SO := ((SO.mk (some 106) (.load 9 (.tmp 105)) none) :: (SO.mk (some 107) (.faddr 36 (.tmp 3) 1) none) :: (SO.mk (some 108) (.load 9 (.tmp 107)) none) :: (SO.mk (some 109) (.faddr 36 (.tmp 3) 2) none) :: o7_27)
theorem v7_28 : type_of% (@swl _ _ o7_28.eq_1) := @swl _ _ o7_28.eq_1
def o7_29 : List SO := ((SO.mk (some 102) (.faddr 42 (.tmp 1) 4) none) :: (SO.mk (some 103) (.load 9 (.tmp 102)) none) :: (SO.mk (some 104) (.faddr 42 (.tmp 1) 5) none) :: (SO.mk (some 105) (.faddr 33 (.tmp 104) 0) none) :: o7_28)
theorem v7_29 : type_of% (@swl _ _ o7_29.eq_1) := @swl _ _ o7_29.eq_1
def c7_30 : SC := (.seq (.reg [SO.mk (some 2) (.move (.const (Value.int .i64 1))) none]) (.keep [2] .ret))
theorem u7_30 : type_of% (@swc _ _ c7_30.eq_1) := @swc _ _ c7_30.eq_1
def c7_31 : SC := (.cond (.tmp 125) c7_30 .skip)
theorem u7_31 : type_of% (@swc _ _ c7_31.eq_1) := @swc _ _ c7_31.eq_1
def c7_32 : SC := (.seq (.reg [SO.mk (some 2) (.move (.const (Value.int .i64 4))) none]) (.keep [2] .ret))
theorem u7_32 : type_of% (@swc _ _ c7_32.eq_1) := @swc _ _ c7_32.eq_1
def c7_33 : SC := (.cond (.tmp 128) c7_32 .skip)
theorem u7_33 : type_of% (@swc _ _ c7_33.eq_1) := @swc _ _ c7_33.eq_1
def c7_34 : SC := (.seq (.reg [SO.mk (some 2) (.move (.const (Value.int .i64 0))) none]) (.keep [2] .ret))
theorem u7_34 : type_of% (@swc _ _ c7_34.eq_1) := @swc _ _ c7_34.eq_1
def c7_35 : SC := (.seq (.seq (.reg [SO.mk (some 126) (.load 42 (.tmp 1)) none, SO.mk (some 127) (.call 14 [(.tmp 126)]) none, SO.mk (some 128) (.un .not (.tmp 127)) none]) (.keep [128] c7_33)) (.keep [] c7_34))
theorem u7_35 : type_of% (@swc _ _ c7_35.eq_1) := @swc _ _ c7_35.eq_1
def c7_36 : SC := (.seq (.seq (.reg ((SO.mk (some 98) (.faddr 42 (.tmp 1) 9) none) :: (SO.mk (some 99) (.load 34 (.tmp 98)) none) :: (SO.mk (some 100) (.faddr 42 (.tmp 1) 3) none) :: (SO.mk (some 101) (.load 9 (.tmp 100)) none) :: o7_29)) (.keep [125, 1] c7_31)) (.keep [1] c7_35))
theorem u7_36 : type_of% (@swc _ _ c7_36.eq_1) := @swc _ _ c7_36.eq_1
def c7_37 : SC := (.seq (.seq (.reg ((SO.mk (some 84) (.move (.tmp 7)) none) :: (SO.mk (some 85) (.un .not (.tmp 84)) none) :: (SO.mk (some 86) (.move (.tmp 85)) none) :: (SO.mk (some 87) (.move (.tmp 6)) (some (86 , false))) :: o7_21)) (.keep [97, 3, 4, 1] c7_23)) (.keep [3, 4, 1] c7_36))
theorem u7_37 : type_of% (@swc _ _ c7_37.eq_1) := @swc _ _ c7_37.eq_1
def c7_38 : SC := (.seq (.reg ((SO.mk (some 56) (.faddr 42 (.tmp 1) 2) none) :: (SO.mk (some 57) (.load 3 (.tmp 56)) none) :: (SO.mk (some 58) (.faddr 42 (.tmp 1) 5) none) :: (SO.mk (some 59) (.faddr 33 (.tmp 58) 1) none) :: o7_18)) (.keep [7, 6, 5, 8, 3, 4, 1] c7_37))
theorem u7_38 : type_of% (@swc _ _ c7_38.eq_1) := @swc _ _ c7_38.eq_1
def c7_39 : SC := (.seq (.reg ((SO.mk (some 43) (.faddr 42 (.tmp 1) 10) none) :: (SO.mk (some 44) (.load 3 (.tmp 43)) none) :: (SO.mk (some 45) (.faddr 36 (.tmp 3) 7) none) :: (SO.mk (some 46) (.load 3 (.tmp 45)) none) :: o7_11)) (.keep [7, 6, 5, 3, 4, 1] c7_38))
theorem u7_39 : type_of% (@swc _ _ c7_39.eq_1) := @swc _ _ c7_39.eq_1
def c7_40 : SC := (.seq (.reg ((SO.mk (some 30) (.faddr 42 (.tmp 1) 11) none) :: (SO.mk (some 31) (.load 3 (.tmp 30)) none) :: (SO.mk (some 32) (.faddr 36 (.tmp 3) 5) none) :: (SO.mk (some 33) (.load 3 (.tmp 32)) none) :: o7_8)) (.keep [6, 5, 3, 4, 1] c7_39))
theorem u7_40 : type_of% (@swc _ _ c7_40.eq_1) := @swc _ _ c7_40.eq_1
def c7_41 : SC := (.seq (.reg ((SO.mk (some 21) (.faddr 42 (.tmp 1) 1) none) :: (SO.mk (some 22) (.load 3 (.tmp 21)) none) :: (SO.mk (some 23) (.faddr 36 (.tmp 3) 0) none) :: (SO.mk (some 24) (.load 3 (.tmp 23)) none) :: o7_5)) (.keep [5, 3, 4, 1] c7_40))
theorem u7_41 : type_of% (@swc _ _ c7_41.eq_1) := @swc _ _ c7_41.eq_1
def c7_42 : SC := (.seq (.dreg true [SO.mk (some 17) (.faddr 42 (.tmp 1) 6) none, SO.mk (some 18) (.load 36 (.tmp 17)) none, SO.mk (some 19) (.faddr 42 (.tmp 1) 8) none, SO.mk (some 20) (.load 40 (.tmp 19)) none, SO.mk (some 3) (.alloc 36) none, SO.mk (some 4) (.alloc 40) none] [SO.mk none (.store 36 (.tmp 3) (.tmp 18)) none, SO.mk none (.store 40 (.tmp 4) (.tmp 20)) none]) (.keep [3, 4, 1] c7_41))
theorem u7_42 : type_of% (@swc _ _ c7_42.eq_1) := @swc _ _ c7_42.eq_1
def c7_43 : SC := (.seq (.seq (.reg ((SO.mk (some 9) (.faddr 42 (.tmp 1) 0) none) :: (SO.mk (some 10) (.load 3 (.tmp 9)) none) :: (SO.mk (some 11) (.bin .lss 3 (.tmp 10) (.const (Value.int .i64 1))) none) :: (SO.mk (some 12) (.move (.tmp 11)) none) :: o7_1)) (.keep [16, 1] c7_3)) (.keep [1] c7_42))
theorem u7_43 : type_of% (@swc _ _ c7_43.eq_1) := @swc _ _ c7_43.eq_1
def c7 : SC := (.seq (.reg [SO.mk (some 1) (.box 42 (.tmp 0)) none, SO.mk (some 2) (.move (.const (Value.int .i64 0))) none]) (.keep [1] c7_43))
theorem c7_eq : annC Tryd.f7 = some c7 := by kernel_rfl
theorem r7 : Tryd.f7.results.toList = [.tmp 2] := by kernel_rfl
theorem e7 : enters Tryd.prog 7 = true := by kernel_rfl
end Go.Proofs.YtckjgipcephmfaaDoor
namespace Go.Proofs.YtckjgipcephmfaaDoor
open Go.RowKit
set_option maxHeartbeats 4000000
set_option maxRecDepth 20000
attribute [local irreducible] SW SWL SWLn SWD SEcall SEcallv SDv SE SO1 SOg ACalls ACallv Wk EndV
set_option linter.unusedSimpArgs false
set_option linter.unusedVariables false
theorem names0_p (l : List Int) : Pure Tryd.prog 13 [.d (.ro (l.map int_)), .d (.v (.slice none 0 0))] (Bo (namesF l [])) := Pure.nz (names_p l [])
theorem fitA (r : RecD) : Pure Tryd.prog 12 [I 16777215, .d (.ro ([r.id, r.ver.id, r.ask.ver].map int_))] (Bo (rngA r)) := fits_p _ _
theorem fitB (r : RecD) : Pure Tryd.prog 12 [I 65535, .d (.ro ([r.pos, r.ver.size, r.ver.pos, r.ask.days, r.part.size].map int_))] (Bo (rngB r)) := fits_p _ _
theorem fitC (r : RecD) : Pure Tryd.prog 12 [I 255, .d (.ro ([r.vol, r.ver.tier, r.ver.vol, r.ask.cls, r.part.num].map int_))] (Bo (rngC r)) := fits_p _ _
def rngE (r : RecD) : Bool := fitsF 4294967295 [r.n, IntKind.i64.wrap (r.frz + 1), IntKind.i64.wrap (r.drop + 1), r.ver.time, r.ver.till]
theorem fitE (r : RecD) : Pure Tryd.prog 12 [I 4294967295, .d (.ro ([r.n, IntKind.i64.wrap (r.frz + 1), IntKind.i64.wrap (r.drop + 1), r.ver.time, r.ver.till].map int_))] (Bo (rngE r)) := fits_p _ _
def szA (r : RecD) : Bool := namesF r.secs [r.name, r.key, r.pre, r.ver.bkt, r.ver.key]
theorem namA (r : RecD) : Pure Tryd.prog 13 [.d (.ro (r.secs.map int_)), .d (.ro ([r.name, r.key, r.pre, r.ver.bkt, r.ver.key].map strR))] (Bo (szA r)) := names_p _ _
theorem rngD_E (r : RecD) : rngD r = (rngE r && decide (r.frz ≥ -1) && decide (r.drop ≥ -1)) := rfl
theorem szF_A (r : RecD) : szF r = (szA r && namesF r.ver.secs [] && namesF r.part.secs []) := rfl
theorem checkRec_p (r : RecD) : Pure Tryd.prog 7 [r.av] (I (recF r)) := by
  refine pure_of follows Tryd.func7 c7_eq r7 (Nat.le_of_ble_eq_true rfl) fun B σ hcl _ => ?_
  have hb := fun h1 h2 => bare_p r h1 h2
  rcases (by omega : r.kind < 1 ∨ r.kind > 14 ∨ (1 ≤ r.kind ∧ r.kind ≤ 14)) with hk | hk | ⟨hk1, hk2⟩
  all_goals (try have q1 : decide (r.kind < 1) = true := by simpa using hk)
  all_goals (try have q2 : decide (r.kind > 14) = true := by simpa using hk)
  all_goals (try have q3 : decide (r.kind < 1) = false := by simp; omega)
  all_goals (try have q4 : decide (r.kind > 14) = false := by simp; omega)
  all_goals (try have hb' := hb hk1 hk2)
  all_goals (
    first
    | (have q5 : kindF r = true := by unfold kindF; simp; omega)
    | (have q5 : kindF r = false := by unfold kindF; rw [Bool.eq_false_iff]; simp; omega))
  all_goals (clear hb)
  repeat' (first | (simp -implicitDefEqProofs only [*, contN, contC, Nat.reduceBEq, Bool.or_false, Bool.or_true, Bool.false_or, Bool.true_or, Bool.not_true, Bool.not_false, SEconv, w_skip, w_ret, w_exit, w_reg, w_dreg, w_seq, SK_n, SK_r, SK_x, w_keep, w_block, w_cond, w_nil, w_cons, w_consg, w_nnil, w_ncons, w_dnil, w_dcons, w_dconsg, HK_app, HD_app, HQ_n, HQ_r, HQ_x, HQ_bn, HQ_br, HQ_bx, HQ_en, HQ_er, HQ_ex, CondB_true, CondB_false, SO1, w_sdv, SDe_alloc, SDe_box, SDe_bslice, SDe_app, true_imp_iff, false_imp_iff, and_false, false_and, not_false_eq_true, not_true_eq_false, addN, mkNames, killT, killD, killO, List.foldl_nil, List.foldl_cons, List.append_nil, List.nil_append, List.cons_append, GuardS_true, GuardS_false, GuardD_true, GuardD_false, DK_true, DK_false, lt_self_add, le_self_add, decide_true, decide_false, Bool.false_eq_true, Bool.true_eq_false, Nat.add_left_cancel_iff, SE, SEalloc, SEbox, SEstore, w_bs, SEbl, SEfz, SEbs0, fzName, osOf, AV.fz1, w_app, w_mk, aev, opd, Fr.get, putO, Fr.norm, List.map_cons, List.map_nil, with1, with2, onInt, AV.lit, entry, ↓reduceIte, Nat.reduceEqDiff, Nat.reduceAdd, reduceCtorEq, true_and, and_true, Option.map_some, Option.map_none, Option.bind_some, Option.bind_none, cond_true, cond_false, binV, unV, fieldV, loadV, sto, cellsAV, newF, newL, Fr.map, Loc.kill, Loc.set, AO.kill, AV.kill, AV.mapN, AV.mapNL, List.filter_nil, List.filter_cons, allP, EndV, retV, resV, resL, frz, dropL, AV.pick, nilV, tupV, imp_self, ne_eq, Int.cast_ofNat_Int, Int.reduceLT, Int.reduceToNat, List.getD_cons_zero, List.getD_cons_succ, bsliceV, buildV, afill, repl, chunk, rvs, AV.rv, RV.nrm, List.getElem?_nil, List.append_assoc, Nat.reduceMul, Nat.reducePow, Nat.zero_lt_succ, Nat.zero_add, Nat.add_zero, List.length_cons, List.length_nil, Nat.reduceLeDiff, Nat.le_refl, List.take_succ_cons, List.take_zero, List.drop_succ_cons, List.drop_zero, indexV, lenV, rowOf_mapD, rowOf_mapI, rowOf_mapA, List.length_map, Int.toNat_natCast, List.getElem?_cons_zero, List.getElem?_cons_succ, and_self, implies_true, if_true, if_false, HQ_zn, HQ_zr, HQ_wn, HQ_wr, AV.nz, AV.nzL, RV.nrm, SEbin, SEnil, nilK, srcV, dstV, appName, List.length_append, Nat.mul_one, take_map_len, take_map_app, List.getElem?_cons_zero, List.map_append, SEmkmap, SEmset, mgetV, kvOf, getM, setM, c7, r7, v7_1, u7_2, u7_3, v7_4, v7_5, v7_6, v7_7, v7_8, v7_9, v7_10, v7_11, v7_12, v7_13, v7_14, v7_15, v7_16, v7_17, v7_18, v7_19, v7_20, v7_21, u7_22, u7_23, v7_24, v7_25, v7_26, v7_27, v7_28, v7_29, u7_30, u7_31, u7_32, u7_33, u7_34, u7_35, u7_36, u7_37, u7_38, u7_39, u7_40, u7_41, u7_42, u7_43, ty42, ty3, ty36, ty40, ty38, ty34, ty33, ty9, ty71, RecD.av, RecD.row, ints, int_, strR, VerD.av, VerD.row, PartD.av, PartD.row]) | (with_reducible refine And.intro ?_ ?_) | (refine call_ro e12 ( fitA r) rfl ?_ ?_ ?_ ?_) | (refine gcall_ro e12 ( fitA r) rfl ?_ ?_ ?_ ?_) | (refine dcall_ro e12 ( fitA r) rfl ?_ ?_ ?_ ?_) | (refine gdcall_ro rfl e12 ( fitA r) rfl ?_ ?_ ?_ ?_) | (refine call_ro e12 ( fitB r) rfl ?_ ?_ ?_ ?_) | (refine gcall_ro e12 ( fitB r) rfl ?_ ?_ ?_ ?_) | (refine dcall_ro e12 ( fitB r) rfl ?_ ?_ ?_ ?_) | (refine gdcall_ro rfl e12 ( fitB r) rfl ?_ ?_ ?_ ?_) | (refine call_ro e12 ( fitC r) rfl ?_ ?_ ?_ ?_) | (refine gcall_ro e12 ( fitC r) rfl ?_ ?_ ?_ ?_) | (refine dcall_ro e12 ( fitC r) rfl ?_ ?_ ?_ ?_) | (refine gdcall_ro rfl e12 ( fitC r) rfl ?_ ?_ ?_ ?_) | (refine call_ro e12 ( fitE r) rfl ?_ ?_ ?_ ?_) | (refine gcall_ro e12 ( fitE r) rfl ?_ ?_ ?_ ?_) | (refine dcall_ro e12 ( fitE r) rfl ?_ ?_ ?_ ?_) | (refine gdcall_ro rfl e12 ( fitE r) rfl ?_ ?_ ?_ ?_) | (refine call_ro e13 ( namA r) rfl ?_ ?_ ?_ ?_) | (refine gcall_ro e13 ( namA r) rfl ?_ ?_ ?_ ?_) | (refine dcall_ro e13 ( namA r) rfl ?_ ?_ ?_ ?_) | (refine gdcall_ro rfl e13 ( namA r) rfl ?_ ?_ ?_ ?_) | (refine call_ro e13 ( names0_p r.ver.secs) rfl ?_ ?_ ?_ ?_) | (refine gcall_ro e13 ( names0_p r.ver.secs) rfl ?_ ?_ ?_ ?_) | (refine dcall_ro e13 ( names0_p r.ver.secs) rfl ?_ ?_ ?_ ?_) | (refine gdcall_ro rfl e13 ( names0_p r.ver.secs) rfl ?_ ?_ ?_ ?_) | (refine call_ro e13 ( names0_p r.part.secs) rfl ?_ ?_ ?_ ?_) | (refine gcall_ro e13 ( names0_p r.part.secs) rfl ?_ ?_ ?_ ?_) | (refine dcall_ro e13 ( names0_p r.part.secs) rfl ?_ ?_ ?_ ?_) | (refine gdcall_ro rfl e13 ( names0_p r.part.secs) rfl ?_ ?_ ?_ ?_) | (refine call_ro e14 ( hb') rfl ?_ ?_ ?_ ?_) | (refine gcall_ro e14 ( hb') rfl ?_ ?_ ?_ ?_) | (refine dcall_ro e14 ( hb') rfl ?_ ?_ ?_ ?_) | (refine gdcall_ro rfl e14 ( hb') rfl ?_ ?_ ?_ ?_) | (refine EndX.plain ?_) | (refine nil_split (fun hn => ?_) (fun hn => ?_)) | (refine gcall_no not_false ?_) | (refine gdcall_no not_false ?_) | (refine GuardS_of _ _ _ _ _ _ (fun hg => ?_) (fun hg => ?_)) | (refine GuardD_of _ _ _ _ (fun hg => ?_) (fun hg => ?_)) | (refine CondB_of _ _ _ _ _ _ _ ?_ (fun hg => ?_) (fun hg => ?_)))
  all_goals (try (first | ((first | unfold noN | unfold Fr.below | unfold Loc.below); simp [Fr.allN, AV.allN, AV.allNL, AO.allN]; done) | rfl | trivial | assumption | (intro row hrow; simp only [List.mem_map] at hrow; obtain ⟨x, _, rfl⟩ := hrow; rfl) | (refine Wk.keep hcl ?_ ?_ ?_; (focus (simp [Fr.get, RecD.av, RecD.row, ints, int_, strR, VerD.av, VerD.row, PartD.av, PartD.row] <;> fail)); (focus (simp [sto, RecD.av, RecD.row, ints, int_, strR, VerD.av, VerD.row, PartD.av, PartD.row] <;> fail)); (focus (simp <;> fail))) | (simp [allP, opd, Fr.get, Fr.below, Fr.allN, AV.allN, AV.allNL, Loc.below, AO.allN, noN, killO, killT, killD, mkNames, AO.kill, AV.kill, AV.mapN, AV.mapNL]; done) | (with_reducible exact ltD (by assumption)) | omega | (simp only [decide_eq_true_eq, decide_eq_false_iff_not] at *; omega)))
  all_goals (try (simp [avName, loadNames, opd, Fr.get]; done))
  all_goals (try (simp only [Bool.not_eq_true', Bool.not_eq_false'] at *))
  all_goals (try (simp only [recF, rngF, rngD_E, szF_A, *, Bool.false_or, Bool.true_or, Bool.or_true, Bool.or_false, Bool.and_true, Bool.true_and, Bool.false_and, Bool.and_false, Bool.not_true, Bool.not_false, cond_true, cond_false, reduceIte]; done))
end Go.Proofs.YtckjgipcephmfaaDoor
