/- state.Free and the document's: the sectors that are free. -/
import Derived.Test.YteaojhieghakfaaTierI
import Derived.Test.YteaojhieghakfaaChkP
import Derived.Test.YteaojhieghakfaaMayP
import Derived.Test.YteaojhieghakfaaTypes
namespace Go.Proofs.Yteaojhieghakfaa
open Go.RowKit
set_option maxRecDepth 100000
def c16_1 : SC := (.seq (.reg [SO.mk (some 20) (.move (.tmp 6)) none, SO.mk (some 4) (.move (.const (Value.slice none 0 0))) none, SO.mk (some 5) (.move (.tmp 20)) none]) (.keep [4, 5] .ret))
theorem u16_1 : type_of% (@swc _ _ c16_1.eq_1) := @swc _ _ c16_1.eq_1
def c16_2 : SC := (.cond (.tmp 19) c16_1 .skip)
theorem u16_2 : type_of% (@swc _ _ c16_2.eq_1) := @swc _ _ c16_2.eq_1
def c16_3 : SC := (.seq (.reg [SO.mk (some 18) (.move (.tmp 6)) none, SO.mk (some 19) (.bin .neq 31 (.tmp 18) (.const (Value.int .i64 0))) none]) (.keep [19, 6, 2, 1] c16_2))
theorem u16_3 : type_of% (@swc _ _ c16_3.eq_1) := @swc _ _ c16_3.eq_1
def o16_4 : List SO := ((SO.mk (some 25) (.bin .gtr 3 (.tmp 24) (.const (Value.int .i64 200))) (some (23 , false))) :: (SO.mk (some 26) (.pick (.tmp 23) (.const (Value.bool true)) (.tmp 25)) none) :: [])
theorem v16_4 : type_of% (@swl _ _ o16_4.eq_1) := @swl _ _ o16_4.eq_1
def c16_5 : SC := (.seq (.reg [SO.mk (some 4) (.move (.const (Value.slice none 0 0))) none, SO.mk (some 5) (.move (.const (Value.int .i64 2))) none]) (.keep [4, 5] .ret))
theorem u16_5 : type_of% (@swc _ _ c16_5.eq_1) := @swc _ _ c16_5.eq_1
def c16_6 : SC := (.cond (.tmp 26) c16_5 .skip)
theorem u16_6 : type_of% (@swc _ _ c16_6.eq_1) := @swc _ _ c16_6.eq_1
def o16_7 : List SO := ((SO.mk (some 39) (.load 3 (.tmp 38)) none) :: (SO.mk (some 40) (.call 32 [(.tmp 35), (.tmp 37), (.tmp 39)]) none) :: [])
theorem v16_7 : type_of% (@swl _ _ o16_7.eq_1) := @swl _ _ o16_7.eq_1
def c16_8 : SC := (.reg ((SO.mk (some 35) (.move (.tmp 7)) none) :: (SO.mk (some 36) (.faddr 57 (.tmp 9) 8) none) :: (SO.mk (some 37) (.load 28 (.tmp 36)) none) :: (SO.mk (some 38) (.faddr 57 (.tmp 9) 5) none) :: o16_7))
theorem u16_8 : type_of% (@swc _ _ c16_8.eq_1) := @swc _ _ c16_8.eq_1
def c16_9 : SC := (.reg [SO.mk (some 41) (.bin .add 3 (.tmp 31) (.const (Value.int .i64 1))) none, SO.mk (some 31) (.move (.tmp 41)) none])
theorem u16_9 : type_of% (@swc _ _ c16_9.eq_1) := @swc _ _ c16_9.eq_1
def c16_10 : SC := (.seq (.block 1 (.seq (.reg [SO.mk (some 33) (.iaddr 25 (.tmp 29) (.tmp 31)) none, SO.mk (some 34) (.load 57 (.tmp 33)) none, SO.mk (some 9) (.alloc 57) none, SO.mk none (.store 57 (.tmp 9) (.tmp 34)) none]) (.keep [9, 31, 30, 29, 2, 1, 7] c16_8))) (.keep [31, 30, 29, 2, 1, 7] c16_9))
theorem u16_10 : type_of% (@swc _ _ c16_10.eq_1) := @swc _ _ c16_10.eq_1
def c16_11 : SC := (.seq (.cond (.tmp 32) .skip (.exit 0)) (.keep [31, 30, 29, 2, 1, 7] c16_10))
theorem u16_11 : type_of% (@swc _ _ c16_11.eq_1) := @swc _ _ c16_11.eq_1
def c16_12 : SC := (.seq (.reg [SO.mk (some 32) (.bin .lss 3 (.tmp 31) (.tmp 30)) none]) (.keep [32, 29, 30, 31, 2, 1, 7] c16_11))
theorem u16_12 : type_of% (@swc _ _ c16_12.eq_1) := @swc _ _ c16_12.eq_1
def c16_13 : SC := (.block 0 (.loop (.keep [29, 30, 31, 2, 1, 7] c16_12)))
theorem u16_13 : type_of% (@swc _ _ c16_13.eq_1) := @swc _ _ c16_13.eq_1
def o16_14 : List SO := ((SO.mk (some 60) (.load 3 (.tmp 59)) none) :: (SO.mk (some 61) (.call 32 [(.tmp 56), (.tmp 58), (.tmp 60)]) none) :: [])
theorem v16_14 : type_of% (@swl _ _ o16_14.eq_1) := @swl _ _ o16_14.eq_1
def c16_15 : SC := (.reg ((SO.mk (some 56) (.move (.tmp 7)) none) :: (SO.mk (some 57) (.faddr 67 (.tmp 13) 2) none) :: (SO.mk (some 58) (.load 28 (.tmp 57)) none) :: (SO.mk (some 59) (.faddr 67 (.tmp 13) 1) none) :: o16_14))
theorem u16_15 : type_of% (@swc _ _ c16_15.eq_1) := @swc _ _ c16_15.eq_1
def c16_16 : SC := (.reg [SO.mk (some 62) (.bin .add 3 (.tmp 52) (.const (Value.int .i64 1))) none, SO.mk (some 52) (.move (.tmp 62)) none])
theorem u16_16 : type_of% (@swc _ _ c16_16.eq_1) := @swc _ _ c16_16.eq_1
def c16_17 : SC := (.seq (.block 5 (.seq (.reg [SO.mk (some 54) (.iaddr 63 (.tmp 50) (.tmp 52)) none, SO.mk (some 55) (.load 67 (.tmp 54)) none, SO.mk (some 13) (.alloc 67) none, SO.mk none (.store 67 (.tmp 13) (.tmp 55)) none]) (.keep [13, 52, 51, 50, 45, 44, 43, 1, 7] c16_15))) (.keep [52, 51, 50, 45, 44, 43, 1, 7] c16_16))
theorem u16_17 : type_of% (@swc _ _ c16_17.eq_1) := @swc _ _ c16_17.eq_1
def c16_18 : SC := (.seq (.cond (.tmp 53) .skip (.exit 4)) (.keep [52, 51, 50, 45, 44, 43, 1, 7] c16_17))
theorem u16_18 : type_of% (@swc _ _ c16_18.eq_1) := @swc _ _ c16_18.eq_1
def c16_19 : SC := (.seq (.reg [SO.mk (some 53) (.bin .lss 3 (.tmp 52) (.tmp 51)) none]) (.keep [53, 50, 51, 52, 45, 44, 43, 1, 7] c16_18))
theorem u16_19 : type_of% (@swc _ _ c16_19.eq_1) := @swc _ _ c16_19.eq_1
def c16_20 : SC := (.block 4 (.loop (.keep [50, 51, 52, 45, 44, 43, 1, 7] c16_19)))
theorem u16_20 : type_of% (@swc _ _ c16_20.eq_1) := @swc _ _ c16_20.eq_1
def c16_21 : SC := (.seq (.reg [SO.mk (some 49) (.faddr 65 (.tmp 11) 3) none, SO.mk (some 50) (.load 63 (.tmp 49)) none, SO.mk (some 51) (.len 63 (.tmp 50)) none, SO.mk (some 52) (.move (.const (Value.int .i64 0))) none]) (.keep [50, 51, 52, 45, 44, 43, 1, 7] c16_20))
theorem u16_21 : type_of% (@swc _ _ c16_21.eq_1) := @swc _ _ c16_21.eq_1
def c16_22 : SC := (.reg [SO.mk (some 63) (.bin .add 3 (.tmp 45) (.const (Value.int .i64 1))) none, SO.mk (some 45) (.move (.tmp 63)) none])
theorem u16_22 : type_of% (@swc _ _ c16_22.eq_1) := @swc _ _ c16_22.eq_1
def c16_23 : SC := (.seq (.block 3 (.seq (.reg [SO.mk (some 47) (.iaddr 26 (.tmp 43) (.tmp 45)) none, SO.mk (some 48) (.load 65 (.tmp 47)) none, SO.mk (some 11) (.alloc 65) none, SO.mk none (.store 65 (.tmp 11) (.tmp 48)) none]) (.keep [11, 45, 44, 43, 1, 7] c16_21))) (.keep [45, 44, 43, 1, 7] c16_22))
theorem u16_23 : type_of% (@swc _ _ c16_23.eq_1) := @swc _ _ c16_23.eq_1
def c16_24 : SC := (.seq (.cond (.tmp 46) .skip (.exit 2)) (.keep [45, 44, 43, 1, 7] c16_23))
theorem u16_24 : type_of% (@swc _ _ c16_24.eq_1) := @swc _ _ c16_24.eq_1
def c16_25 : SC := (.seq (.reg [SO.mk (some 46) (.bin .lss 3 (.tmp 45) (.tmp 44)) none]) (.keep [46, 43, 44, 45, 1, 7] c16_24))
theorem u16_25 : type_of% (@swc _ _ c16_25.eq_1) := @swc _ _ c16_25.eq_1
def c16_26 : SC := (.block 2 (.loop (.keep [43, 44, 45, 1, 7] c16_25)))
theorem u16_26 : type_of% (@swc _ _ c16_26.eq_1) := @swc _ _ c16_26.eq_1
def c16_27 : SC := (.reg [SO.mk (some 72) (.move (.tmp 14)) none, SO.mk (some 73) (.move (.tmp 15)) none, SO.mk (some 74) (.bslice 28 1 [(0 , (.tmp 73))]) none, SO.mk (some 75) (.app 28 28 (.tmp 72) (.tmp 74)) none, SO.mk (some 14) (.move (.tmp 75)) none])
theorem u16_27 : type_of% (@swc _ _ c16_27.eq_1) := @swc _ _ c16_27.eq_1
def c16_28 : SC := (.cond (.tmp 71) c16_27 .skip)
theorem u16_28 : type_of% (@swc _ _ c16_28.eq_1) := @swc _ _ c16_28.eq_1
def c16_29 : SC := (.seq (.reg [SO.mk (some 68) (.move (.tmp 7)) none, SO.mk (some 69) (.move (.tmp 15)) none, SO.mk (some 70) (.mget 62 (.tmp 68) (.tmp 69)) none, SO.mk (some 71) (.un .not (.tmp 70)) none]) (.keep [71, 15, 65, 64, 7, 14] c16_28))
theorem u16_29 : type_of% (@swc _ _ c16_29.eq_1) := @swc _ _ c16_29.eq_1
def c16_30 : SC := (.reg [SO.mk (some 76) (.bin .add 3 (.tmp 65) (.const (Value.int .i64 1))) none, SO.mk (some 65) (.move (.tmp 76)) none])
theorem u16_30 : type_of% (@swc _ _ c16_30.eq_1) := @swc _ _ c16_30.eq_1
def c16_31 : SC := (.seq (.block 7 (.seq (.reg [SO.mk (some 67) (.move (.tmp 65)) none, SO.mk (some 15) (.move (.tmp 67)) none]) (.keep [15, 65, 64, 7, 14] c16_29))) (.keep [65, 64, 7, 14] c16_30))
theorem u16_31 : type_of% (@swc _ _ c16_31.eq_1) := @swc _ _ c16_31.eq_1
def c16_32 : SC := (.seq (.cond (.tmp 66) .skip (.exit 6)) (.keep [65, 64, 7, 14] c16_31))
theorem u16_32 : type_of% (@swc _ _ c16_32.eq_1) := @swc _ _ c16_32.eq_1
def c16_33 : SC := (.seq (.reg [SO.mk (some 66) (.bin .lss 3 (.tmp 65) (.tmp 64)) none]) (.keep [66, 7, 64, 65, 14] c16_32))
theorem u16_33 : type_of% (@swc _ _ c16_33.eq_1) := @swc _ _ c16_33.eq_1
def c16_34 : SC := (.block 6 (.loop (.keep [7, 64, 65, 14] c16_33)))
theorem u16_34 : type_of% (@swc _ _ c16_34.eq_1) := @swc _ _ c16_34.eq_1
def c16_35 : SC := (.seq (.reg [SO.mk (some 77) (.move (.tmp 14)) none, SO.mk (some 4) (.move (.tmp 77)) none, SO.mk (some 5) (.move (.const (Value.int .i64 0))) none]) (.keep [4, 5] .ret))
theorem u16_35 : type_of% (@swc _ _ c16_35.eq_1) := @swc _ _ c16_35.eq_1
def c16_36 : SC := (.seq (.seq (.reg [SO.mk (some 64) (.move (.tmp 1)) none, SO.mk (some 65) (.move (.const (Value.int .i64 0))) none]) (.keep [7, 64, 65, 14] c16_34)) (.keep [14] c16_35))
theorem u16_36 : type_of% (@swc _ _ c16_36.eq_1) := @swc _ _ c16_36.eq_1
def c16_37 : SC := (.seq (.reg [SO.mk (some 14) (.move (.const (Value.slice none 0 0))) none]) (.keep [1, 7, 14] c16_36))
theorem u16_37 : type_of% (@swc _ _ c16_37.eq_1) := @swc _ _ c16_37.eq_1
def c16_38 : SC := (.seq (.seq (.reg [SO.mk (some 42) (.faddr 30 (.tmp 2) 4) none, SO.mk (some 43) (.load 26 (.tmp 42)) none, SO.mk (some 44) (.len 26 (.tmp 43)) none, SO.mk (some 45) (.move (.const (Value.int .i64 0))) none]) (.keep [43, 44, 45, 1, 7] c16_26)) (.keep [1, 7] c16_37))
theorem u16_38 : type_of% (@swc _ _ c16_38.eq_1) := @swc _ _ c16_38.eq_1
def c16_39 : SC := (.seq (.seq (.reg [SO.mk (some 28) (.faddr 30 (.tmp 2) 3) none, SO.mk (some 29) (.load 25 (.tmp 28)) none, SO.mk (some 30) (.len 25 (.tmp 29)) none, SO.mk (some 31) (.move (.const (Value.int .i64 0))) none]) (.keep [29, 30, 31, 2, 1, 7] c16_13)) (.keep [2, 1, 7] c16_38))
theorem u16_39 : type_of% (@swc _ _ c16_39.eq_1) := @swc _ _ c16_39.eq_1
def c16_40 : SC := (.seq (.reg [SO.mk (some 27) (.mkmap 62) none, SO.mk (some 7) (.move (.tmp 27)) none]) (.keep [2, 1, 7] c16_39))
theorem u16_40 : type_of% (@swc _ _ c16_40.eq_1) := @swc _ _ c16_40.eq_1
def c16_41 : SC := (.seq (.seq (.reg ((SO.mk (some 21) (.move (.tmp 1)) none) :: (SO.mk (some 22) (.bin .lss 3 (.tmp 21) (.const (Value.int .i64 0))) none) :: (SO.mk (some 23) (.move (.tmp 22)) none) :: (SO.mk (some 24) (.move (.tmp 1)) (some (23 , false))) :: o16_4)) (.keep [26, 2, 1] c16_6)) (.keep [2, 1] c16_40))
theorem u16_41 : type_of% (@swc _ _ c16_41.eq_1) := @swc _ _ c16_41.eq_1
def c16_42 : SC := (.seq (.seq (.reg [SO.mk (some 16) (.load 30 (.tmp 2)) none, SO.mk (some 17) (.call 20 [(.tmp 16)]) none, SO.mk (some 6) (.move (.tmp 17)) none]) (.keep [6, 2, 1] c16_3)) (.keep [2, 1] c16_41))
theorem u16_42 : type_of% (@swc _ _ c16_42.eq_1) := @swc _ _ c16_42.eq_1
def c16 : SC := (.seq (.reg [SO.mk (some 2) (.box 30 (.tmp 0)) none, SO.mk (some 4) (.move (.const (Value.slice none 0 0))) none, SO.mk (some 5) (.move (.const (Value.int .i64 0))) none]) (.keep [2, 1] c16_42))
theorem c16_eq : annC Try.f16 = some c16 := by kernel_rfl
theorem r16 : Try.f16.results.toList = [.tmp 4, .tmp 5] := by kernel_rfl
theorem e16 : enters Try.prog 16 = true := by kernel_rfl
def c17_1 : SC := (.seq (.reg [SO.mk (some 4) (.move (.const (Value.slice none 0 0))) none, SO.mk (some 5) (.move (.const (Value.int .i64 9))) none]) (.keep [4, 5] .ret))
theorem u17_1 : type_of% (@swc _ _ c17_1.eq_1) := @swc _ _ c17_1.eq_1
def c17_2 : SC := (.cond (.tmp 13) c17_1 .skip)
theorem u17_2 : type_of% (@swc _ _ c17_2.eq_1) := @swc _ _ c17_2.eq_1
def c17_3 : SC := (.seq (.reg [SO.mk (some 4) (.move (.const (Value.slice none 0 0))) none, SO.mk (some 5) (.move (.const (Value.int .i64 2))) none]) (.keep [4, 5] .ret))
theorem u17_3 : type_of% (@swc _ _ c17_3.eq_1) := @swc _ _ c17_3.eq_1
def c17_4 : SC := (.cond (.tmp 16) c17_3 .skip)
theorem u17_4 : type_of% (@swc _ _ c17_4.eq_1) := @swc _ _ c17_4.eq_1
def c17_5 : SC := (.cond (.tmp 21) .skip (.exit 0))
theorem u17_5 : type_of% (@swc _ _ c17_5.eq_1) := @swc _ _ c17_5.eq_1
def c17_6 : SC := (.cond (.tmp 27) .skip (.exit 2))
theorem u17_6 : type_of% (@swc _ _ c17_6.eq_1) := @swc _ _ c17_6.eq_1
def o17_7 : List SO := ((SO.mk (some 38) (.pick (.tmp 31) (.const (Value.bool true)) (.tmp 37)) none) :: (SO.mk (some 9) (.move (.tmp 38)) none) :: [])
theorem v17_7 : type_of% (@swl _ _ o17_7.eq_1) := @swl _ _ o17_7.eq_1
def o17_8 : List SO := ((SO.mk (some 34) (.iaddr 28 (.tmp 32) (.tmp 33)) (some (31 , false))) :: (SO.mk (some 35) (.load 3 (.tmp 34)) (some (31 , false))) :: (SO.mk (some 36) (.move (.tmp 8)) (some (31 , false))) :: (SO.mk (some 37) (.bin .eql 3 (.tmp 35) (.tmp 36)) (some (31 , false))) :: o17_7)
theorem v17_8 : type_of% (@swl _ _ o17_8.eq_1) := @swl _ _ o17_8.eq_1
def c17_9 : SC := (.reg [SO.mk (some 28) (.move (.tmp 10)) none, SO.mk (some 29) (.bin .add 3 (.tmp 28) (.const (Value.int .i64 1))) none, SO.mk (some 10) (.move (.tmp 29)) none])
theorem u17_9 : type_of% (@swc _ _ c17_9.eq_1) := @swc _ _ c17_9.eq_1
def c17_10 : SC := (.seq (.block 3 (.reg ((SO.mk (some 30) (.move (.tmp 9)) none) :: (SO.mk (some 31) (.move (.tmp 30)) none) :: (SO.mk (some 32) (.move (.tmp 6)) (some (31 , false))) :: (SO.mk (some 33) (.move (.tmp 10)) (some (31 , false))) :: o17_8))) (.keep [10, 9, 8, 1, 6, 7] c17_9))
theorem u17_10 : type_of% (@swc _ _ c17_10.eq_1) := @swc _ _ c17_10.eq_1
def c17_11 : SC := (.seq (.seq (.reg [SO.mk (some 24) (.move (.tmp 10)) none, SO.mk (some 25) (.move (.tmp 6)) none, SO.mk (some 26) (.len 28 (.tmp 25)) none, SO.mk (some 27) (.bin .lss 3 (.tmp 24) (.tmp 26)) none]) (.keep [27, 10, 9, 8, 1, 6, 7] c17_6)) (.keep [9, 10, 8, 1, 6, 7] c17_10))
theorem u17_11 : type_of% (@swc _ _ c17_11.eq_1) := @swc _ _ c17_11.eq_1
def c17_12 : SC := (.block 2 (.loop (.keep [10, 9, 8, 1, 6, 7] c17_11)))
theorem u17_12 : type_of% (@swc _ _ c17_12.eq_1) := @swc _ _ c17_12.eq_1
def c17_13 : SC := (.reg [SO.mk (some 41) (.move (.tmp 7)) none, SO.mk (some 42) (.move (.tmp 8)) none, SO.mk (some 43) (.bslice 28 1 [(0 , (.tmp 42))]) none, SO.mk (some 44) (.app 28 28 (.tmp 41) (.tmp 43)) none, SO.mk (some 7) (.move (.tmp 44)) none])
theorem u17_13 : type_of% (@swc _ _ c17_13.eq_1) := @swc _ _ c17_13.eq_1
def c17_14 : SC := (.cond (.tmp 40) c17_13 .skip)
theorem u17_14 : type_of% (@swc _ _ c17_14.eq_1) := @swc _ _ c17_14.eq_1
def c17_15 : SC := (.seq (.reg [SO.mk (some 39) (.move (.tmp 9)) none, SO.mk (some 40) (.un .not (.tmp 39)) none]) (.keep [40, 8, 1, 6, 7] c17_14))
theorem u17_15 : type_of% (@swc _ _ c17_15.eq_1) := @swc _ _ c17_15.eq_1
def c17_16 : SC := (.seq (.seq (.reg [SO.mk (some 10) (.move (.const (Value.int .i64 0))) none]) (.keep [10, 9, 8, 1, 6, 7] c17_12)) (.keep [9, 8, 1, 6, 7] c17_15))
theorem u17_16 : type_of% (@swc _ _ c17_16.eq_1) := @swc _ _ c17_16.eq_1
def c17_17 : SC := (.reg [SO.mk (some 22) (.move (.tmp 8)) none, SO.mk (some 23) (.bin .add 3 (.tmp 22) (.const (Value.int .i64 1))) none, SO.mk (some 8) (.move (.tmp 23)) none])
theorem u17_17 : type_of% (@swc _ _ c17_17.eq_1) := @swc _ _ c17_17.eq_1
def c17_18 : SC := (.seq (.block 1 (.seq (.reg [SO.mk (some 9) (.move (.const (Value.bool false))) none]) (.keep [9, 8, 1, 6, 7] c17_16))) (.keep [8, 1, 6, 7] c17_17))
theorem u17_18 : type_of% (@swc _ _ c17_18.eq_1) := @swc _ _ c17_18.eq_1
def c17_19 : SC := (.seq (.seq (.reg [SO.mk (some 19) (.move (.tmp 8)) none, SO.mk (some 20) (.move (.tmp 1)) none, SO.mk (some 21) (.bin .lss 3 (.tmp 19) (.tmp 20)) none]) (.keep [21, 6, 1, 8, 7] c17_5)) (.keep [8, 1, 6, 7] c17_18))
theorem u17_19 : type_of% (@swc _ _ c17_19.eq_1) := @swc _ _ c17_19.eq_1
def c17_20 : SC := (.block 0 (.loop (.keep [6, 1, 8, 7] c17_19)))
theorem u17_20 : type_of% (@swc _ _ c17_20.eq_1) := @swc _ _ c17_20.eq_1
def c17_21 : SC := (.seq (.reg [SO.mk (some 45) (.move (.tmp 7)) none, SO.mk (some 4) (.move (.tmp 45)) none, SO.mk (some 5) (.move (.const (Value.int .i64 0))) none]) (.keep [4, 5] .ret))
theorem u17_21 : type_of% (@swc _ _ c17_21.eq_1) := @swc _ _ c17_21.eq_1
def c17_22 : SC := (.seq (.seq (.reg [SO.mk (some 8) (.move (.const (Value.int .i64 0))) none]) (.keep [6, 1, 8, 7] c17_20)) (.keep [7] c17_21))
theorem u17_22 : type_of% (@swc _ _ c17_22.eq_1) := @swc _ _ c17_22.eq_1
def c17_23 : SC := (.seq (.reg [SO.mk (some 7) (.move (.const (Value.slice none 0 0))) none]) (.keep [6, 1, 7] c17_22))
theorem u17_23 : type_of% (@swc _ _ c17_23.eq_1) := @swc _ _ c17_23.eq_1
def c17_24 : SC := (.seq (.reg [SO.mk (some 17) (.load 30 (.tmp 2)) none, SO.mk (some 18) (.call 33 [(.tmp 17)]) none, SO.mk (some 6) (.move (.tmp 18)) none]) (.keep [6, 1] c17_23))
theorem u17_24 : type_of% (@swc _ _ c17_24.eq_1) := @swc _ _ c17_24.eq_1
def c17_25 : SC := (.seq (.seq (.reg [SO.mk (some 14) (.move (.tmp 1)) none, SO.mk (some 15) (.call 26 [(.tmp 14), (.const (Value.int .i64 0)), (.const (Value.int .i64 200))]) none, SO.mk (some 16) (.un .not (.tmp 15)) none]) (.keep [16, 2, 1] c17_4)) (.keep [2, 1] c17_24))
theorem u17_25 : type_of% (@swc _ _ c17_25.eq_1) := @swc _ _ c17_25.eq_1
def c17_26 : SC := (.seq (.seq (.reg [SO.mk (some 11) (.load 30 (.tmp 2)) none, SO.mk (some 12) (.call 24 [(.tmp 11)]) none, SO.mk (some 13) (.un .not (.tmp 12)) none]) (.keep [13, 2, 1] c17_2)) (.keep [2, 1] c17_25))
theorem u17_26 : type_of% (@swc _ _ c17_26.eq_1) := @swc _ _ c17_26.eq_1
def c17 : SC := (.seq (.reg [SO.mk (some 2) (.box 30 (.tmp 0)) none, SO.mk (some 4) (.move (.const (Value.slice none 0 0))) none, SO.mk (some 5) (.move (.const (Value.int .i64 0))) none]) (.keep [2, 1] c17_26))
theorem c17_eq : annC Try.f17 = some c17 := by kernel_rfl
theorem r17 : Try.f17.results.toList = [.tmp 4, .tmp 5] := by kernel_rfl
theorem e17 : enters Try.prog 17 = true := by kernel_rfl
end Go.Proofs.Yteaojhieghakfaa
namespace Go.Proofs.Yteaojhieghakfaa
open Go.RowKit
set_option maxHeartbeats 4000000
set_option maxRecDepth 20000
attribute [local irreducible] SW SWL SWLn SWD SEcall SEcallv SDv SE SO1 SOg ACalls ACallv Wk EndV
set_option linter.unusedSimpArgs false
set_option linter.unusedVariables false
def fsK (l : List Int) (k : Nat) : List Int := ((List.range k).filter (fun (i : Nat) => !decide ((i : Int) ∈ l))).map (fun (i : Nat) => (i : Int))
theorem fs_yes {l : List Int} {k : Nat} (h : decide ((k : Int) ∈ l) = false) : fsK l (k + 1) = fsK l k ++ [(k : Int)] := by
  unfold fsK; rw [List.range_succ, List.filter_append, List.map_append]
  simp only [List.filter_cons, List.filter_nil, h, Bool.not_false, if_true, List.map_cons, List.map_nil]
theorem fs_no {l : List Int} {k : Nat} (h : decide ((k : Int) ∈ l) = true) : fsK l (k + 1) = fsK l k := by
  unfold fsK; rw [List.range_succ, List.filter_append, List.map_append]
  simp only [List.filter_cons, List.filter_nil, h, Bool.not_true, Bool.false_eq_true, if_false, List.map_nil, List.append_nil]
theorem fs_len (l : List Int) (k : Nat) : (fsK l k).length ≤ k := by
  unfold fsK; rw [List.length_map]
  exact Nat.le_trans (List.length_filter_le _ _) (by simp)
theorem fsK_0 (l : List Int) : fsK l 0 = [] := rfl
def fsV (s : SttD) (many : Int) : AV := bif mayF s then (bif inR many 0 200 then .tup [.d (ints (fsK (allSec s) many.toNat)), I 0] else .tup [.d (.ro []), I 2]) else .tup [.d (.ro []), I 9]
def frV (s : SttD) : Nat → List (KV × Bool)
  | 0 => []
  | k + 1 => (takeF (frV s k) s.vers[k]!.secs s.vers[k]!.size).2
theorem frV_end {s : SttD} {k : Nat} (hk : k ≤ s.vers.length) (h : decide ((k : Int) < (s.vers.length : Int)) = false) : frV s k = frV s s.vers.length := by
  have : k = s.vers.length := by have := geS h; omega
  rw [this]
theorem upE_end {s : SttD} {e : List (KV × Bool)} {k : Nat} (hk : k ≤ s.ups.length) (h : decide ((k : Int) < (s.ups.length : Int)) = false) : upE s e k = upE s e s.ups.length := by
  have : k = s.ups.length := by have := geS h; omega
  rw [this]
theorem ptE_end {l : List PartD} {e : List (KV × Bool)} {k : Nat} (hk : k ≤ l.length) (h : decide ((k : Int) < (l.length : Int)) = false) : ptE l e k = ptE l e l.length := by
  have : k = l.length := by have := geS h; omega
  rw [this]
theorem fsK_end {l : List Int} {n : Int} {k : Nat} (hk : k ≤ n.toNat) (h : decide ((k : Int) < n) = false) : fsK l k = fsK l n.toNat := by
  have : k = n.toNat := by have := of_decide_eq_false h; omega
  rw [this]
theorem vm_len {s : SttD} {v : VerD} (h : vmF s v = true) : (v.secs.length : Int) = secN v.size ∨ v.secs = [] := by
  unfold vmF at h
  cases hb : vmBad s v <;> simp only [hb, cond_true, cond_false] at h
  · cases hm : v.mark <;> simp only [hm, cond_true, cond_false] at h
    · cases h1 : (!inR v.size 0 600 || !inR v.tier 1 3) <;> simp only [h1, cond_true, cond_false] at h
      · cases h2 : ((v.secs.length : Int) != (bif v.tier == 2 then 0 else secN v.size)) <;> simp only [h2, cond_true, cond_false] at h
        · have h2' : (v.secs.length : Int) = (bif v.tier == 2 then 0 else secN v.size) := by simpa using h2
          cases ht : v.tier == 2 <;> simp only [ht, cond_true, cond_false] at h2'
          · exact .inl h2'
          · exact .inr (nil_of_len h2')
        · cases h
      · cases h
    · unfold markF at h
      simp only [Bool.and_eq_true, beq_iff_eq] at h
      exact .inr (nil_of_len h.2.2.1)
  · cases h
theorem frV_has {s : SttD} (hv : ∀ i, i < s.vers.length → mVer s i = false) (hs : SecOk (sVall s)) : ∀ k, k ≤ s.vers.length → Has (frV s k) (sV s k)
  | 0, _ => Has.nil
  | k + 1, hk => by
    have ih := frV_has hv hs k (by omega)
    have hlt : k < s.vers.length := by omega
    have hm := hv k hlt
    unfold mVer at hm
    simp only [Bool.or_eq_false_iff, Bool.not_eq_false'] at hm
    have hall : ∀ j, j ≤ s.vers.length → SecOk (sV s j) := fun j hj => by
      have e : sVall s = sV s j ++ (s.vers.drop j).flatMap VerD.secs := by
        unfold sVall sV; rw [← List.flatMap_append, List.take_append_drop]
      rw [e] at hs; exact hs.left
    obtain ⟨g1, g2⟩ := takeF_has (l := s.vers[k]!.secs) (size := s.vers[k]!.size) ih (hall k (by omega))
    rw [sV_succ hlt]
    show Has (takeF (frV s k) s.vers[k]!.secs s.vers[k]!.size).2 _
    rcases vm_len hm.1.1 with h | h
    · exact g2 (g1.2 ⟨h, by rw [← sV_succ hlt]; exact hall (k + 1) hk⟩)
    · rw [h, List.append_nil]
      unfold takeF
      split
      · exact ih
      · exact ih
theorem may_parts {s : SttD} (h : mayF s = true) : (∀ i, i < s.vers.length → mVer s i = false) ∧ (∀ i, i < s.ups.length → mUp s i = false) ∧ SecOk (allSec s) ∧ (∀ k, k < s.bkts.length → mBkt s.bkts k = false) ∧ mNum s = false := by
  unfold mayF at h
  simp only [Bool.and_eq_true, none_iff, Bool.not_eq_true'] at h
  exact ⟨h.2.2.2.1, h.2.2.2.2.1, sec_iff.2 h.2.2.2.2.2.2, h.2.2.1, h.1⟩
theorem may_next {s : SttD} (h : mNum s = false) : 1 ≤ s.next ∧ s.next ≤ 1048576 := by
  unfold mNum at h
  simp only [Bool.or_eq_false_iff, Bool.not_eq_false', inR_iff] at h
  exact h.1
theorem bnds_may {s : SttD} (h : mayF s = true) : Bnds s := by
  obtain ⟨h1, h2, h3, h4, h5⟩ := may_parts h
  unfold mNum at h5
  simp only [Bool.or_eq_false_iff] at h5
  exact bnds_of (kv := s.vers.length) (ku := s.ups.length) h1 h2 (by simp) (by simp) h5.2.2.2.1 h5.2.2.2.2.1
theorem map_may {s : SttD} (h : mayF s = true) (x : Int) : getM (upE s (frV s s.vers.length) s.ups.length) (.i x) = decide (x ∈ allSec s) := by
  obtain ⟨h1, h2, h3, h4, h5⟩ := may_parts h
  have hS : SortB s.bkts := sortB_of fun k hk => by rw [bk_eq]; exact h4 k hk
  have hsv : SecOk (sVall s) := by unfold allSec at h3; exact h3.left
  have hV := frV_has h1 hsv s.vers.length (Nat.le_refl _)
  rw [sV_len] at hV
  obtain ⟨u1, u2⟩ := up_step (may_next h5) hS hV hsv s.ups.length (Nat.le_refl _)
  rw [sU_len] at u1 u2
  exact u2 (u1.2 ⟨h2, h3⟩) x
theorem free_p (s : SttD) (hw : s.wf) (many : Int) : Pure Try.prog 16 [s.av, I many] (fsV s many) := by
  refine pureZ_of follows Try.func16 c16_eq r16 (Nat.le_of_ble_eq_true rfl) fun B σ hcl hsz => ?_
  obtain ⟨z1, z2, z3, z4, z5⟩ := st_sz5 (hsz s.av (by simp))
  clear hsz
  have hc := check9_p s hw
  have hpl := fit_pts (st_fit hw)
  have hmm := map_may (s := s)
  unfold fsV
  generalize mayF s = b at hc hmm ⊢
  cases b
  · simp only [cond_false] at hc ⊢
    repeat' (first | (simp -implicitDefEqProofs only [*, contN, contC, Nat.reduceBEq, Bool.or_false, Bool.or_true, Bool.false_or, Bool.true_or, Bool.not_true, Bool.not_false, w_skip, w_ret, w_exit, w_reg, w_dreg, w_seq, SK_n, SK_r, SK_x, w_keep, w_block, w_cond, w_nil, w_cons, w_consg, w_nnil, w_ncons, w_dnil, w_dcons, w_dconsg, HK_app, HD_app, HQ_n, HQ_r, HQ_x, HQ_bn, HQ_br, HQ_bx, HQ_en, HQ_er, HQ_ex, CondB_true, CondB_false, SO1, w_sdv, SDe_alloc, SDe_box, SDe_bslice, SDe_app, true_imp_iff, false_imp_iff, and_false, false_and, not_false_eq_true, not_true_eq_false, addN, mkNames, killT, killD, killO, List.foldl_nil, List.foldl_cons, List.append_nil, List.nil_append, List.cons_append, GuardS_true, GuardS_false, GuardD_true, GuardD_false, DK_true, DK_false, lt_self_add, le_self_add, decide_true, decide_false, Bool.false_eq_true, Bool.true_eq_false, Nat.add_left_cancel_iff, SE, SEalloc, SEbox, SEstore, w_bs, SEbl, SEfz, SEbs0, fzName, osOf, AV.fz1, w_app, w_mk, aev, opd, Fr.get, putO, Fr.norm, List.map_cons, List.map_nil, with1, with2, onInt, AV.lit, entry, ↓reduceIte, Nat.reduceEqDiff, Nat.reduceAdd, reduceCtorEq, true_and, and_true, Option.map_some, Option.map_none, Option.bind_some, Option.bind_none, cond_true, cond_false, binV, unV, fieldV, loadV, sto, cellsAV, newF, newL, Fr.map, Loc.kill, Loc.set, AO.kill, AV.kill, AV.mapN, AV.mapNL, List.filter_nil, List.filter_cons, allP, EndV, retV, resV, resL, frz, dropL, AV.pick, nilV, tupV, imp_self, ne_eq, Int.cast_ofNat_Int, Int.reduceLT, Int.reduceToNat, List.getD_cons_zero, List.getD_cons_succ, bsliceV, buildV, afill, repl, chunk, rvs, AV.rv, RV.nrm, List.getElem?_nil, List.append_assoc, Nat.reduceMul, Nat.reducePow, Nat.zero_lt_succ, Nat.zero_add, Nat.add_zero, List.length_cons, List.length_nil, Nat.reduceLeDiff, Nat.le_refl, List.take_succ_cons, List.take_zero, List.drop_succ_cons, List.drop_zero, indexV, lenV, rowOf_mapD, rowOf_mapI, rowOf_mapA, List.length_map, Int.toNat_natCast, List.getElem?_cons_zero, List.getElem?_cons_succ, and_self, implies_true, if_true, if_false, HQ_zn, HQ_zr, HQ_wn, HQ_wr, AV.nz, AV.nzL, RV.nrm, SEbin, SEnil, nilK, srcV, dstV, appName, List.length_append, Nat.mul_one, take_map_len, take_map_app, List.getElem?_cons_zero, List.map_append, SEmkmap, SEmset, mgetV, kvOf, getM, setM, c16, r16, u16_1, u16_2, u16_3, v16_4, u16_5, u16_6, v16_7, u16_8, u16_9, u16_10, u16_11, u16_12, u16_13, v16_14, u16_15, u16_16, u16_17, u16_18, u16_19, u16_20, u16_21, u16_22, u16_23, u16_24, u16_25, u16_26, u16_27, u16_28, u16_29, u16_30, u16_31, u16_32, u16_33, u16_34, u16_35, u16_36, u16_37, u16_38, u16_39, u16_40, u16_41, u16_42, ty30, ty31, ty3, ty62, ty25, ty57, ty28, ty26, ty65, ty63, ty67, mt62, SttD.av, SttD.cells, ints]) | (with_reducible refine And.intro ?_ ?_) | (refine call_ro e20 ( hc) rfl ?_ ?_ ?_ ?_) | (refine gcall_ro e20 ( hc) rfl ?_ ?_ ?_ ?_) | (refine dcall_ro e20 ( hc) rfl ?_ ?_ ?_ ?_) | (refine gdcall_ro rfl e20 ( hc) rfl ?_ ?_ ?_ ?_) | (refine EndX.plain ?_) | (refine nil_split (fun hn => ?_) (fun hn => ?_)) | (refine gcall_no not_false ?_) | (refine gdcall_no not_false ?_) | (refine GuardS_of _ _ _ _ _ _ (fun hg => ?_) (fun hg => ?_)) | (refine GuardD_of _ _ _ _ (fun hg => ?_) (fun hg => ?_)) | (refine CondB_of _ _ _ _ _ _ _ ?_ (fun hg => ?_) (fun hg => ?_)))
    all_goals (try (first | ((first | unfold noN | unfold Fr.below | unfold Loc.below); simp [Fr.allN, AV.allN, AV.allNL, AO.allN]; done) | rfl | trivial | assumption | (intro row hrow; simp only [List.mem_map] at hrow; obtain ⟨x, _, rfl⟩ := hrow; rfl) | (refine Wk.keep hcl ?_ ?_ ?_; (focus (simp [Fr.get, SttD.av, SttD.cells, ints] <;> fail)); (focus (simp [sto, SttD.av, SttD.cells, ints] <;> fail)); (focus (simp <;> fail))) | (simp [allP, opd, Fr.get, Fr.below, Fr.allN, AV.allN, AV.allNL, Loc.below, AO.allN, noN, killO, killT, killD, mkNames, AO.kill, AV.kill, AV.mapN, AV.mapNL]; done) | (with_reducible exact ltD (by assumption)) | omega | (simp only [decide_eq_true_eq, decide_eq_false_iff_not] at *; omega)))
  · simp only [cond_true] at hc ⊢
    have hm := hmm rfl
    clear hmm
    repeat' (first | (simp -implicitDefEqProofs only [*, contN, contC, Nat.reduceBEq, Bool.or_false, Bool.or_true, Bool.false_or, Bool.true_or, Bool.not_true, Bool.not_false, w_skip, w_ret, w_exit, w_reg, w_dreg, w_seq, SK_n, SK_r, SK_x, w_keep, w_block, w_cond, w_nil, w_cons, w_consg, w_nnil, w_ncons, w_dnil, w_dcons, w_dconsg, HK_app, HD_app, HQ_n, HQ_r, HQ_x, HQ_bn, HQ_br, HQ_bx, HQ_en, HQ_er, HQ_ex, CondB_true, CondB_false, SO1, w_sdv, SDe_alloc, SDe_box, SDe_bslice, SDe_app, true_imp_iff, false_imp_iff, and_false, false_and, not_false_eq_true, not_true_eq_false, addN, mkNames, killT, killD, killO, List.foldl_nil, List.foldl_cons, List.append_nil, List.nil_append, List.cons_append, GuardS_true, GuardS_false, GuardD_true, GuardD_false, DK_true, DK_false, lt_self_add, le_self_add, decide_true, decide_false, Bool.false_eq_true, Bool.true_eq_false, Nat.add_left_cancel_iff, SE, SEalloc, SEbox, SEstore, w_bs, SEbl, SEfz, SEbs0, fzName, osOf, AV.fz1, w_app, w_mk, aev, opd, Fr.get, putO, Fr.norm, List.map_cons, List.map_nil, with1, with2, onInt, AV.lit, entry, ↓reduceIte, Nat.reduceEqDiff, Nat.reduceAdd, reduceCtorEq, true_and, and_true, Option.map_some, Option.map_none, Option.bind_some, Option.bind_none, cond_true, cond_false, binV, unV, fieldV, loadV, sto, cellsAV, newF, newL, Fr.map, Loc.kill, Loc.set, AO.kill, AV.kill, AV.mapN, AV.mapNL, List.filter_nil, List.filter_cons, allP, EndV, retV, resV, resL, frz, dropL, AV.pick, nilV, tupV, imp_self, ne_eq, Int.cast_ofNat_Int, Int.reduceLT, Int.reduceToNat, List.getD_cons_zero, List.getD_cons_succ, bsliceV, buildV, afill, repl, chunk, rvs, AV.rv, RV.nrm, List.getElem?_nil, List.append_assoc, Nat.reduceMul, Nat.reducePow, Nat.zero_lt_succ, Nat.zero_add, Nat.add_zero, List.length_cons, List.length_nil, Nat.reduceLeDiff, Nat.le_refl, List.take_succ_cons, List.take_zero, List.drop_succ_cons, List.drop_zero, indexV, lenV, rowOf_mapD, rowOf_mapI, rowOf_mapA, List.length_map, Int.toNat_natCast, List.getElem?_cons_zero, List.getElem?_cons_succ, and_self, implies_true, if_true, if_false, HQ_zn, HQ_zr, HQ_wn, HQ_wr, AV.nz, AV.nzL, RV.nrm, SEbin, SEnil, nilK, srcV, dstV, appName, List.length_append, Nat.mul_one, take_map_len, take_map_app, List.getElem?_cons_zero, List.map_append, SEmkmap, SEmset, mgetV, kvOf, getM, setM, c16, r16, u16_1, u16_2, u16_3, v16_4, u16_5, u16_6, v16_7, u16_8, u16_9, u16_10, u16_11, u16_12, u16_13, v16_14, u16_15, u16_16, u16_17, u16_18, u16_19, u16_20, u16_21, u16_22, u16_23, u16_24, u16_25, u16_26, u16_27, u16_28, u16_29, u16_30, u16_31, u16_32, u16_33, u16_34, u16_35, u16_36, u16_37, u16_38, u16_39, u16_40, u16_41, u16_42, ty30, ty31, ty3, ty62, ty25, ty57, ty28, ty26, ty65, ty63, ty67, mt62, SttD.av, SttD.cells, ints, int_, VerD.row, UpD.row, PartD.row, frV, upE, ptE, fsK_0, frV_end, upE_end, ptE_end, fsK_end]) | (with_reducible refine And.intro ?_ ?_) | (refine call_ro e20 ( hc) rfl ?_ ?_ ?_ ?_) | (refine gcall_ro e20 ( hc) rfl ?_ ?_ ?_ ?_) | (refine dcall_ro e20 ( hc) rfl ?_ ?_ ?_ ?_) | (refine gdcall_ro rfl e20 ( hc) rfl ?_ ?_ ?_ ?_) | (refine call_own [] [(B + 27, .mp false (takeF (frV s k) s.vers[k]!.secs s.vers[k]!.size).2)] e32 (take_p s.vers[k]!.secs s.vers[k]!.size (frV s k) _ _ (B + 27) (by omega) (by simp [sto])) rfl ?_ ?_ ?_ ?_ ?_) | (refine call_own [] [(B + 27, .mp false (takeF (ptE s.ups[ku]!.parts (upE s (frV s s.vers.length) ku) j) s.ups[ku]!.parts[j]!.secs s.ups[ku]!.parts[j]!.size).2)] e32 (take_p s.ups[ku]!.parts[j]!.secs s.ups[ku]!.parts[j]!.size (ptE s.ups[ku]!.parts (upE s (frV s s.vers.length) ku) j) _ _ (B + 27) (by omega) (by simp [sto])) rfl ?_ ?_ ?_ ?_ ?_) | (refine loop_nat (many.toNat) (fun _ => 0 ≤ many ∧ many ≤ 200) (fun kf => [(65, I kf), (64, I many), (7, .mp (B + 27)), (14, .os (B + 75) (fsK (allSec s) kf).length)]) (fun kf => [(B + 27, .mp false (upE s (frV s s.vers.length) s.ups.length)), (B + 75, .arr 1 3 ((fsK (allSec s) kf).map int_))]) ?_ (Wk.trans (Wk.nameF (s := 14) (n := B + 75) (k := 1) (E := 3) rfl (by omega) (.inl (by omega)) (fun m => AO.kill_below (q := fun m => decide (m < B)) (by simp) _ (hcl m).1)) (Wk.keep hcl ?_ ?_ ?_)) fun kf hkf hFkf => ?_; rotate_left 1; (focus (simp [Fr.get, newF, Fr.map, AV.kill, AV.mapN, SttD.av, SttD.cells, ints, int_, VerD.row, UpD.row, PartD.row, frV, upE, ptE, fsK_0, frV_end, upE_end, ptE_end, fsK_end] <;> fail)); (focus (simp [sto, newL, Loc.kill, Loc.set, AO.kill, AV.kill, AV.mapN, SttD.av, SttD.cells, ints, int_, VerD.row, UpD.row, PartD.row, frV, upE, ptE, fsK_0, frV_end, upE_end, ptE_end, fsK_end] <;> fail)); (focus (simp [newL, Loc.kill, Loc.set, SttD.av, SttD.cells, ints, int_, VerD.row, UpD.row, PartD.row, frV, upE, ptE, fsK_0, frV_end, upE_end, ptE_end, fsK_end] <;> fail)); (try have hwkf : IntKind.i64.wrap ((kf : Int) + 1) = (kf : Int) + 1 := IntWalk.i64_in _ (by omega))) | (refine loop_nat ((s.ups[ku]!).parts.length) (fun _ => (s.ups[ku]!).parts.length ≤ 2 ^ 47) (fun j => [(52, I j), (51, I (s.ups[ku]!).parts.length), (50, .d (.ro ((s.ups[ku]!).parts.map PartD.row))), (45, I ku), (44, I s.ups.length), (43, .d (.ro (s.ups.map UpD.row))), (1, I many), (7, .mp (B + 27))]) (fun j => [(B + 27, .mp false (ptE s.ups[ku]!.parts (upE s (frV s s.vers.length) ku) j))]) ?_ (Wk.keep hcl ?_ ?_ ?_) fun j hj hFj => ?_; rotate_left 1; (focus (simp [Fr.get, newF, Fr.map, AV.kill, AV.mapN, SttD.av, SttD.cells, ints, int_, VerD.row, UpD.row, PartD.row, frV, upE, ptE, fsK_0, frV_end, upE_end, ptE_end, fsK_end] <;> fail)); (focus (simp [sto, newL, Loc.kill, Loc.set, AO.kill, AV.kill, AV.mapN, SttD.av, SttD.cells, ints, int_, VerD.row, UpD.row, PartD.row, frV, upE, ptE, fsK_0, frV_end, upE_end, ptE_end, fsK_end] <;> fail)); (focus (simp [newL, Loc.kill, Loc.set, SttD.av, SttD.cells, ints, int_, VerD.row, UpD.row, PartD.row, frV, upE, ptE, fsK_0, frV_end, upE_end, ptE_end, fsK_end] <;> fail)); (try have hwj : IntKind.i64.wrap ((j : Int) + 1) = (j : Int) + 1 := IntWalk.i64_in _ (by omega))) | (refine loop_nat (s.ups.length) (fun _ => True) (fun ku => [(45, I ku), (44, I s.ups.length), (43, .d (.ro (s.ups.map UpD.row))), (1, I many), (7, .mp (B + 27))]) (fun ku => [(B + 27, .mp false (upE s (frV s s.vers.length) ku))]) ?_ (Wk.keep hcl ?_ ?_ ?_) fun ku hku hFku => ?_; rotate_left 1; (focus (simp [Fr.get, newF, Fr.map, AV.kill, AV.mapN, SttD.av, SttD.cells, ints, int_, VerD.row, UpD.row, PartD.row, frV, upE, ptE, fsK_0, frV_end, upE_end, ptE_end, fsK_end] <;> fail)); (focus (simp [sto, newL, Loc.kill, Loc.set, AO.kill, AV.kill, AV.mapN, SttD.av, SttD.cells, ints, int_, VerD.row, UpD.row, PartD.row, frV, upE, ptE, fsK_0, frV_end, upE_end, ptE_end, fsK_end] <;> fail)); (focus (simp [newL, Loc.kill, Loc.set, SttD.av, SttD.cells, ints, int_, VerD.row, UpD.row, PartD.row, frV, upE, ptE, fsK_0, frV_end, upE_end, ptE_end, fsK_end] <;> fail)); (try have hwku : IntKind.i64.wrap ((ku : Int) + 1) = (ku : Int) + 1 := IntWalk.i64_in _ (by omega))) | (refine loop_nat (s.vers.length) (fun _ => True) (fun k => [(29, .d (.ro (s.vers.map VerD.row))), (30, I s.vers.length), (31, I k), (2, .lp (B + 2) 0), (1, I many), (7, .mp (B + 27))]) (fun k => [(B + 27, .mp false (frV s k)), (B + 2, .box s.cells)]) ?_ (Wk.keep hcl ?_ ?_ ?_) fun k hk hF => ?_; rotate_left 1; (focus (simp [Fr.get, newF, Fr.map, AV.kill, AV.mapN, SttD.av, SttD.cells, ints, int_, VerD.row, UpD.row, PartD.row, frV, upE, ptE, fsK_0, frV_end, upE_end, ptE_end, fsK_end] <;> fail)); (focus (simp [sto, newL, Loc.kill, Loc.set, AO.kill, AV.kill, AV.mapN, SttD.av, SttD.cells, ints, int_, VerD.row, UpD.row, PartD.row, frV, upE, ptE, fsK_0, frV_end, upE_end, ptE_end, fsK_end] <;> fail)); (focus (simp [newL, Loc.kill, Loc.set, SttD.av, SttD.cells, ints, int_, VerD.row, UpD.row, PartD.row, frV, upE, ptE, fsK_0, frV_end, upE_end, ptE_end, fsK_end] <;> fail)); (try have hw : IntKind.i64.wrap ((k : Int) + 1) = (k : Int) + 1 := IntWalk.i64_in _ (by omega))) | (refine EndX.plain ?_) | (refine nil_split (fun hn => ?_) (fun hn => ?_)) | (refine gcall_no not_false ?_) | (refine gdcall_no not_false ?_) | (refine GuardS_of _ _ _ _ _ _ (fun hg => ?_) (fun hg => ?_)) | (refine GuardD_of _ _ _ _ (fun hg => ?_) (fun hg => ?_)) | (refine CondB_of _ _ _ _ _ _ _ ?_ (fun hg => ?_) (fun hg => ?_)))
    all_goals (try (first | ((first | unfold noN | unfold Fr.below | unfold Loc.below); simp [Fr.allN, AV.allN, AV.allNL, AO.allN]; done) | rfl | trivial | assumption | (intro row hrow; simp only [List.mem_map] at hrow; obtain ⟨x, _, rfl⟩ := hrow; rfl) | (refine Wk.keep hcl ?_ ?_ ?_; (focus (simp [Fr.get, SttD.av, SttD.cells, ints, int_, VerD.row, UpD.row, PartD.row, frV, upE, ptE, fsK_0, frV_end, upE_end, ptE_end, fsK_end] <;> fail)); (focus (simp [sto, SttD.av, SttD.cells, ints, int_, VerD.row, UpD.row, PartD.row, frV, upE, ptE, fsK_0, frV_end, upE_end, ptE_end, fsK_end] <;> fail)); (focus (simp <;> fail))) | (simp [allP, opd, Fr.get, Fr.below, Fr.allN, AV.allN, AV.allNL, Loc.below, AO.allN, noN, killO, killT, killD, mkNames, AO.kill, AV.kill, AV.mapN, AV.mapNL]; done) | (with_reducible exact ltD (by assumption)) | omega | (simp only [decide_eq_true_eq, decide_eq_false_iff_not] at *; omega)))
    all_goals (try (simp [Fr.below, Loc.below, Fr.allN, AO.allN, AV.allN, AV.allNL]; done))
    all_goals first
      | (rw [inR_no1 (by assumption)]; rfl)
      | (rw [inR_no2 (by assumption)]; rfl)
      | (have hl := fs_len (allSec s) kf
         omega)
      | (simp only [Bool.not_eq_true', Bool.not_eq_false'] at *
         first | rw [fs_yes (by assumption)] | rw [fs_no (by assumption)]
         refine Wk.keep hcl ?_ ?_ ?_
         · simp [Fr.get]
         · simp [sto, SttD.cells, ints, int_]
         · simp)
      | (have e : kf = many.toNat := by
           have := of_decide_eq_false (by assumption : decide ((kf : Int) < many) = false)
           omega
         have e2 : inR many 0 200 = true := inR_yes (by assumption) (by assumption)
         rw [e2, e]; rfl)
def anyK (l : List Int) (x : Int) (j : Nat) : Bool := (List.range j).any fun i => l[i]! == x
theorem anyK_next (l : List Int) (x : Int) (j : Nat) : anyK l x (j + 1) = (anyK l x j || l[j]! == x) := by
  unfold anyK; rw [List.range_succ, List.any_append]; simp
theorem anyK_0 (l : List Int) (x : Int) : anyK l x 0 = false := rfl
theorem anyK_end {l : List Int} {x : Int} {j : Nat} (hj : j ≤ l.length) (h : decide ((j : Int) < (l.length : Int)) = false) : anyK l x j = decide (x ∈ l) := by
  have : j = l.length := by have := geS h; omega
  subst this
  unfold anyK
  rw [Bool.eq_iff_iff, List.any_eq_true, decide_eq_true_eq]
  constructor
  · rintro ⟨i, hi, e⟩
    have hi := List.mem_range.1 hi
    have e := eq_of_beq e
    rw [← e, getElem!_pos l i hi]
    exact List.getElem_mem hi
  · intro hx
    obtain ⟨i, hi, e⟩ := mem_get hx
    exact ⟨i, List.mem_range.2 hi, by rw [e]; simp⟩
theorem freeOf_p (s : SttD) (hm : Pure Try.prog 24 [s.av] (Bo (mayF s))) (many : Int) : Pure Try.prog 17 [s.av, I many] (fsV s many) := by
  refine pureZ_of follows Try.func17 c17_eq r17 (Nat.le_of_ble_eq_true rfl) fun B σ hcl hsz => ?_
  clear hsz
  have hbm := bnds_may (s := s)
  unfold fsV
  generalize mayF s = b at hm hbm ⊢
  cases b
  · simp only [cond_false] at hm ⊢
    clear hbm
    repeat' (first | (simp -implicitDefEqProofs only [*, contN, contC, Nat.reduceBEq, Bool.or_false, Bool.or_true, Bool.false_or, Bool.true_or, Bool.not_true, Bool.not_false, w_skip, w_ret, w_exit, w_reg, w_dreg, w_seq, SK_n, SK_r, SK_x, w_keep, w_block, w_cond, w_nil, w_cons, w_consg, w_nnil, w_ncons, w_dnil, w_dcons, w_dconsg, HK_app, HD_app, HQ_n, HQ_r, HQ_x, HQ_bn, HQ_br, HQ_bx, HQ_en, HQ_er, HQ_ex, CondB_true, CondB_false, SO1, w_sdv, SDe_alloc, SDe_box, SDe_bslice, SDe_app, true_imp_iff, false_imp_iff, and_false, false_and, not_false_eq_true, not_true_eq_false, addN, mkNames, killT, killD, killO, List.foldl_nil, List.foldl_cons, List.append_nil, List.nil_append, List.cons_append, GuardS_true, GuardS_false, GuardD_true, GuardD_false, DK_true, DK_false, lt_self_add, le_self_add, decide_true, decide_false, Bool.false_eq_true, Bool.true_eq_false, Nat.add_left_cancel_iff, SE, SEalloc, SEbox, SEstore, w_bs, SEbl, SEfz, SEbs0, fzName, osOf, AV.fz1, w_app, w_mk, aev, opd, Fr.get, putO, Fr.norm, List.map_cons, List.map_nil, with1, with2, onInt, AV.lit, entry, ↓reduceIte, Nat.reduceEqDiff, Nat.reduceAdd, reduceCtorEq, true_and, and_true, Option.map_some, Option.map_none, Option.bind_some, Option.bind_none, cond_true, cond_false, binV, unV, fieldV, loadV, sto, cellsAV, newF, newL, Fr.map, Loc.kill, Loc.set, AO.kill, AV.kill, AV.mapN, AV.mapNL, List.filter_nil, List.filter_cons, allP, EndV, retV, resV, resL, frz, dropL, AV.pick, nilV, tupV, imp_self, ne_eq, Int.cast_ofNat_Int, Int.reduceLT, Int.reduceToNat, List.getD_cons_zero, List.getD_cons_succ, bsliceV, buildV, afill, repl, chunk, rvs, AV.rv, RV.nrm, List.getElem?_nil, List.append_assoc, Nat.reduceMul, Nat.reducePow, Nat.zero_lt_succ, Nat.zero_add, Nat.add_zero, List.length_cons, List.length_nil, Nat.reduceLeDiff, Nat.le_refl, List.take_succ_cons, List.take_zero, List.drop_succ_cons, List.drop_zero, indexV, lenV, rowOf_mapD, rowOf_mapI, rowOf_mapA, List.length_map, Int.toNat_natCast, List.getElem?_cons_zero, List.getElem?_cons_succ, and_self, implies_true, if_true, if_false, HQ_zn, HQ_zr, HQ_wn, HQ_wr, AV.nz, AV.nzL, RV.nrm, SEbin, SEnil, nilK, srcV, dstV, appName, List.length_append, Nat.mul_one, take_map_len, take_map_app, List.getElem?_cons_zero, List.map_append, SEmkmap, SEmset, mgetV, kvOf, getM, setM, c17, r17, u17_1, u17_2, u17_3, u17_4, u17_5, u17_6, v17_7, v17_8, u17_9, u17_10, u17_11, u17_12, u17_13, u17_14, u17_15, u17_16, u17_17, u17_18, u17_19, u17_20, u17_21, u17_22, u17_23, u17_24, u17_25, u17_26, ty30, ty3, ty28, SttD.av, SttD.cells, ints]) | (with_reducible refine And.intro ?_ ?_) | (refine call_ro e24 ( hm) rfl ?_ ?_ ?_ ?_) | (refine gcall_ro e24 ( hm) rfl ?_ ?_ ?_ ?_) | (refine dcall_ro e24 ( hm) rfl ?_ ?_ ?_ ?_) | (refine gdcall_ro rfl e24 ( hm) rfl ?_ ?_ ?_ ?_) | (refine EndX.plain ?_) | (refine nil_split (fun hn => ?_) (fun hn => ?_)) | (refine gcall_no not_false ?_) | (refine gdcall_no not_false ?_) | (refine GuardS_of _ _ _ _ _ _ (fun hg => ?_) (fun hg => ?_)) | (refine GuardD_of _ _ _ _ (fun hg => ?_) (fun hg => ?_)) | (refine CondB_of _ _ _ _ _ _ _ ?_ (fun hg => ?_) (fun hg => ?_)))
    all_goals (try (first | ((first | unfold noN | unfold Fr.below | unfold Loc.below); simp [Fr.allN, AV.allN, AV.allNL, AO.allN]; done) | rfl | trivial | assumption | (intro row hrow; simp only [List.mem_map] at hrow; obtain ⟨x, _, rfl⟩ := hrow; rfl) | (refine Wk.keep hcl ?_ ?_ ?_; (focus (simp [Fr.get, SttD.av, SttD.cells, ints] <;> fail)); (focus (simp [sto, SttD.av, SttD.cells, ints] <;> fail)); (focus (simp <;> fail))) | (simp [allP, opd, Fr.get, Fr.below, Fr.allN, AV.allN, AV.allNL, Loc.below, AO.allN, noN, killO, killT, killD, mkNames, AO.kill, AV.kill, AV.mapN, AV.mapNL]; done) | (with_reducible exact ltD (by assumption)) | omega | (simp only [decide_eq_true_eq, decide_eq_false_iff_not] at *; omega)))
  · simp only [cond_true] at hm ⊢
    have hbs := hbm rfl
    have hb6 := hbs.b6
    have hall := allS_p s hbs.b1 hbs.b2 hbs.b3 hbs.b4 hbs.b5
    clear hbm hbs
    repeat' (first | (simp -implicitDefEqProofs only [*, contN, contC, Nat.reduceBEq, Bool.or_false, Bool.or_true, Bool.false_or, Bool.true_or, Bool.not_true, Bool.not_false, w_skip, w_ret, w_exit, w_reg, w_dreg, w_seq, SK_n, SK_r, SK_x, w_keep, w_block, w_cond, w_nil, w_cons, w_consg, w_nnil, w_ncons, w_dnil, w_dcons, w_dconsg, HK_app, HD_app, HQ_n, HQ_r, HQ_x, HQ_bn, HQ_br, HQ_bx, HQ_en, HQ_er, HQ_ex, CondB_true, CondB_false, SO1, w_sdv, SDe_alloc, SDe_box, SDe_bslice, SDe_app, true_imp_iff, false_imp_iff, and_false, false_and, not_false_eq_true, not_true_eq_false, addN, mkNames, killT, killD, killO, List.foldl_nil, List.foldl_cons, List.append_nil, List.nil_append, List.cons_append, GuardS_true, GuardS_false, GuardD_true, GuardD_false, DK_true, DK_false, lt_self_add, le_self_add, decide_true, decide_false, Bool.false_eq_true, Bool.true_eq_false, Nat.add_left_cancel_iff, SE, SEalloc, SEbox, SEstore, w_bs, SEbl, SEfz, SEbs0, fzName, osOf, AV.fz1, w_app, w_mk, aev, opd, Fr.get, putO, Fr.norm, List.map_cons, List.map_nil, with1, with2, onInt, AV.lit, entry, ↓reduceIte, Nat.reduceEqDiff, Nat.reduceAdd, reduceCtorEq, true_and, and_true, Option.map_some, Option.map_none, Option.bind_some, Option.bind_none, cond_true, cond_false, binV, unV, fieldV, loadV, sto, cellsAV, newF, newL, Fr.map, Loc.kill, Loc.set, AO.kill, AV.kill, AV.mapN, AV.mapNL, List.filter_nil, List.filter_cons, allP, EndV, retV, resV, resL, frz, dropL, AV.pick, nilV, tupV, imp_self, ne_eq, Int.cast_ofNat_Int, Int.reduceLT, Int.reduceToNat, List.getD_cons_zero, List.getD_cons_succ, bsliceV, buildV, afill, repl, chunk, rvs, AV.rv, RV.nrm, List.getElem?_nil, List.append_assoc, Nat.reduceMul, Nat.reducePow, Nat.zero_lt_succ, Nat.zero_add, Nat.add_zero, List.length_cons, List.length_nil, Nat.reduceLeDiff, Nat.le_refl, List.take_succ_cons, List.take_zero, List.drop_succ_cons, List.drop_zero, indexV, lenV, rowOf_mapD, rowOf_mapI, rowOf_mapA, List.length_map, Int.toNat_natCast, List.getElem?_cons_zero, List.getElem?_cons_succ, and_self, implies_true, if_true, if_false, HQ_zn, HQ_zr, HQ_wn, HQ_wr, AV.nz, AV.nzL, RV.nrm, SEbin, SEnil, nilK, srcV, dstV, appName, List.length_append, Nat.mul_one, take_map_len, take_map_app, List.getElem?_cons_zero, List.map_append, SEmkmap, SEmset, mgetV, kvOf, getM, setM, c17, r17, u17_1, u17_2, u17_3, u17_4, u17_5, u17_6, v17_7, v17_8, u17_9, u17_10, u17_11, u17_12, u17_13, u17_14, u17_15, u17_16, u17_17, u17_18, u17_19, u17_20, u17_21, u17_22, u17_23, u17_24, u17_25, u17_26, ty30, ty3, ty28, SttD.av, SttD.cells, ints, int_, fsK_0, anyK_0, anyK_next, anyK_end]) | (with_reducible refine And.intro ?_ ?_) | (refine call_ro e24 ( hm) rfl ?_ ?_ ?_ ?_) | (refine gcall_ro e24 ( hm) rfl ?_ ?_ ?_ ?_) | (refine dcall_ro e24 ( hm) rfl ?_ ?_ ?_ ?_) | (refine gdcall_ro rfl e24 ( hm) rfl ?_ ?_ ?_ ?_) | (refine call_ro e26 ( In_p _ _ _) rfl ?_ ?_ ?_ ?_) | (refine gcall_ro e26 ( In_p _ _ _) rfl ?_ ?_ ?_ ?_) | (refine dcall_ro e26 ( In_p _ _ _) rfl ?_ ?_ ?_ ?_) | (refine gdcall_ro rfl e26 ( In_p _ _ _) rfl ?_ ?_ ?_ ?_) | (refine call_ro e33 ( hall) rfl ?_ ?_ ?_ ?_) | (refine gcall_ro e33 ( hall) rfl ?_ ?_ ?_ ?_) | (refine dcall_ro e33 ( hall) rfl ?_ ?_ ?_ ?_) | (refine gdcall_ro rfl e33 ( hall) rfl ?_ ?_ ?_ ?_) | (refine loop_nat ((allSec s).length) (fun _ => (allSec s).length ≤ 2 ^ 47) (fun j => [(10, I j), (9, Bo (anyK (allSec s) (kf : Int) j)), (8, I kf), (1, I many), (6, .d (.ro ((allSec s).map int_))), (7, .os (B + 44) (fsK (allSec s) kf).length)]) (fun j => [(B + 44, .arr 1 3 ((fsK (allSec s) kf).map int_))]) ?_ (Wk.keep hcl ?_ ?_ ?_) fun j hj hFj => ?_; rotate_left 1; (focus (simp [Fr.get, newF, Fr.map, AV.kill, AV.mapN, SttD.av, SttD.cells, ints, int_, fsK_0, anyK_0, anyK_next, anyK_end] <;> fail)); (focus (simp [sto, newL, Loc.kill, Loc.set, AO.kill, AV.kill, AV.mapN, SttD.av, SttD.cells, ints, int_, fsK_0, anyK_0, anyK_next, anyK_end] <;> fail)); (focus (simp [newL, Loc.kill, Loc.set, SttD.av, SttD.cells, ints, int_, fsK_0, anyK_0, anyK_next, anyK_end] <;> fail)); (try have hwj : IntKind.i64.wrap ((j : Int) + 1) = (j : Int) + 1 := IntWalk.i64_in _ (by omega))) | (refine loop_nat (many.toNat) (fun _ => 0 ≤ many ∧ many ≤ 200) (fun kf => [(6, .d (.ro ((allSec s).map int_))), (1, I many), (8, I kf), (7, .os (B + 44) (fsK (allSec s) kf).length)]) (fun kf => [(B + 44, .arr 1 3 ((fsK (allSec s) kf).map int_))]) ?_ (Wk.trans (Wk.nameF (s := 7) (n := B + 44) (k := 1) (E := 3) rfl (by omega) (.inl (by omega)) (fun m => AO.kill_below (q := fun m => decide (m < B)) (by simp) _ (hcl m).1)) (Wk.keep hcl ?_ ?_ ?_)) fun kf hkf hFkf => ?_; rotate_left 1; (focus (simp [Fr.get, newF, Fr.map, AV.kill, AV.mapN, SttD.av, SttD.cells, ints, int_, fsK_0, anyK_0, anyK_next, anyK_end] <;> fail)); (focus (simp [sto, newL, Loc.kill, Loc.set, AO.kill, AV.kill, AV.mapN, SttD.av, SttD.cells, ints, int_, fsK_0, anyK_0, anyK_next, anyK_end] <;> fail)); (focus (simp [newL, Loc.kill, Loc.set, SttD.av, SttD.cells, ints, int_, fsK_0, anyK_0, anyK_next, anyK_end] <;> fail)); (try have hwkf : IntKind.i64.wrap ((kf : Int) + 1) = (kf : Int) + 1 := IntWalk.i64_in _ (by omega))) | (refine EndX.plain ?_) | (refine nil_split (fun hn => ?_) (fun hn => ?_)) | (refine gcall_no not_false ?_) | (refine gdcall_no not_false ?_) | (refine GuardS_of _ _ _ _ _ _ (fun hg => ?_) (fun hg => ?_)) | (refine GuardD_of _ _ _ _ (fun hg => ?_) (fun hg => ?_)) | (refine CondB_of _ _ _ _ _ _ _ ?_ (fun hg => ?_) (fun hg => ?_)))
    all_goals (try (first | ((first | unfold noN | unfold Fr.below | unfold Loc.below); simp [Fr.allN, AV.allN, AV.allNL, AO.allN]; done) | rfl | trivial | assumption | (intro row hrow; simp only [List.mem_map] at hrow; obtain ⟨x, _, rfl⟩ := hrow; rfl) | (refine Wk.keep hcl ?_ ?_ ?_; (focus (simp [Fr.get, SttD.av, SttD.cells, ints, int_, fsK_0, anyK_0, anyK_next, anyK_end] <;> fail)); (focus (simp [sto, SttD.av, SttD.cells, ints, int_, fsK_0, anyK_0, anyK_next, anyK_end] <;> fail)); (focus (simp <;> fail))) | (simp [allP, opd, Fr.get, Fr.below, Fr.allN, AV.allN, AV.allNL, Loc.below, AO.allN, noN, killO, killT, killD, mkNames, AO.kill, AV.kill, AV.mapN, AV.mapNL]; done) | (with_reducible exact ltD (by assumption)) | omega | (simp only [decide_eq_true_eq, decide_eq_false_iff_not] at *; omega)))
    all_goals (try (simp only [Bool.not_eq_true', Bool.not_eq_false'] at *))
    all_goals first
      | (simp only [*, Bool.false_or, Bool.true_or, Bool.or_true, Bool.or_false, Bool.and_true, Bool.true_and, Bool.false_and, Bool.and_false, Bool.not_true, Bool.not_false, cond_true, cond_false]; done)
      | (have hl := fs_len (allSec s) kf
         omega)
      | (have h3 := inR_iff.1 (by assumption : inR many 0 200 = true)
         omega)
      | (first | rw [fs_yes (by assumption)] | rw [fs_no (by assumption)]
         refine Wk.keep hcl ?_ ?_ ?_
         · simp [Fr.get]
         · simp [sto, SttD.cells, ints, int_]
         · simp)
      | (have e : kf = many.toNat := by
           have := of_decide_eq_false (by assumption : decide ((kf : Int) < many) = false)
           omega
         have e2 : inR many 0 200 = true := by assumption
         rw [e2, e]; rfl)
end Go.Proofs.Yteaojhieghakfaa
