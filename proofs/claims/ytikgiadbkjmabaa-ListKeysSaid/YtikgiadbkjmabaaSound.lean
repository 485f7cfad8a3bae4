/- Versions that may be. -/
import Derived.Test.YtikgiadbkjmabaaTake
import Derived.Test.YtikgiadbkjmabaaBs
import Derived.Test.YtikgiadbkjmabaaChk
import Derived.Test.YtikgiadbkjmabaaIdx
import Derived.Test.YtikgiadbkjmabaaTypes
namespace Go.Proofs.Ytikgiadbkjmabaa
open Go.RowKit
set_option maxRecDepth 100000
def o83_1:List SO:=((SO.mk (some 32) (.un .not (.tmp 31)) (some (26 ,true))) :: (SO.mk (some 33) (.pick (.tmp 26) (.tmp 32) (.const (Value.bool false))) none) :: (SO.mk (some 7) (.move (.tmp 33)) none) :: [])
theorem v83_1:type_of% (@swl _ _ o83_1.eq_1):=@swl _ _ o83_1.eq_1
def o83_2:List SO:=((SO.mk (some 28) (.load 26 (.tmp 27)) (some (26 ,true))) :: (SO.mk (some 29) (.faddr 41 (.tmp 4) 9) (some (26 ,true))) :: (SO.mk (some 30) (.load 3 (.tmp 29)) (some (26 ,true))) :: (SO.mk (some 31) (.call 95 [(.tmp 28),(.tmp 30)]) (some (26 ,true))) :: o83_1)
theorem v83_2:type_of% (@swl _ _ o83_2.eq_1):=@swl _ _ o83_2.eq_1
def o83_3:List SO:=((SO.mk (some 24) (.bin .leq 3 (.tmp 23) (.const (Value.int .i64 4000))) (some (21 ,true))) :: (SO.mk (some 25) (.pick (.tmp 21) (.tmp 24) (.const (Value.bool false))) none) :: (SO.mk (some 26) (.move (.tmp 25)) none) :: (SO.mk (some 27) (.faddr 28 (.tmp 3) 6) (some (26 ,true))) :: o83_2)
theorem v83_3:type_of% (@swl _ _ o83_3.eq_1):=@swl _ _ o83_3.eq_1
def o83_4:List SO:=((SO.mk (some 20) (.pick (.tmp 16) (.tmp 19) (.const (Value.bool false))) none) :: (SO.mk (some 21) (.move (.tmp 20)) none) :: (SO.mk (some 22) (.faddr 41 (.tmp 4) 10) (some (21 ,true))) :: (SO.mk (some 23) (.load 3 (.tmp 22)) (some (21 ,true))) :: o83_3)
theorem v83_4:type_of% (@swl _ _ o83_4.eq_1):=@swl _ _ o83_4.eq_1
def o83_5:List SO:=((SO.mk (some 16) (.move (.tmp 15)) none) :: (SO.mk (some 17) (.faddr 41 (.tmp 4) 10) (some (16 ,true))) :: (SO.mk (some 18) (.load 3 (.tmp 17)) (some (16 ,true))) :: (SO.mk (some 19) (.bin .geq 3 (.tmp 18) (.const (Value.int .i64 0))) (some (16 ,true))) :: o83_4)
theorem v83_5:type_of% (@swl _ _ o83_5.eq_1):=@swl _ _ o83_5.eq_1
def o83_6:List SO:=((SO.mk (some 12) (.faddr 41 (.tmp 4) 9) (some (11 ,true))) :: (SO.mk (some 13) (.load 3 (.tmp 12)) (some (11 ,true))) :: (SO.mk (some 14) (.bin .lss 3 (.tmp 13) (.const (Value.int .i64 8))) (some (11 ,true))) :: (SO.mk (some 15) (.pick (.tmp 11) (.tmp 14) (.const (Value.bool false))) none) :: o83_5)
theorem v83_6:type_of% (@swl _ _ o83_6.eq_1):=@swl _ _ o83_6.eq_1
def o83_7:List SO:=((SO.mk (some 58) (.pick (.tmp 51) (.tmp 57) (.const (Value.bool false))) none) :: (SO.mk (some 6) (.move (.tmp 58)) none) :: [])
theorem v83_7:type_of% (@swl _ _ o83_7.eq_1):=@swl _ _ o83_7.eq_1
def o83_8:List SO:=((SO.mk (some 54) (.load 26 (.tmp 53)) (some (51 ,true))) :: (SO.mk (some 55) (.faddr 41 (.tmp 4) 5) (some (51 ,true))) :: (SO.mk (some 56) (.load 3 (.tmp 55)) (some (51 ,true))) :: (SO.mk (some 57) (.call 64 [(.tmp 52),(.tmp 54),(.tmp 56)]) (some (51 ,true))) :: o83_7)
theorem v83_8:type_of% (@swl _ _ o83_8.eq_1):=@swl _ _ o83_8.eq_1
def o83_9:List SO:=((SO.mk (some 50) (.pick (.tmp 46) (.tmp 49) (.const (Value.bool false))) none) :: (SO.mk (some 51) (.move (.tmp 50)) none) :: (SO.mk (some 52) (.move (.tmp 2)) (some (51 ,true))) :: (SO.mk (some 53) (.faddr 41 (.tmp 4) 8) (some (51 ,true))) :: o83_8)
theorem v83_9:type_of% (@swl _ _ o83_9.eq_1):=@swl _ _ o83_9.eq_1
def o83_10:List SO:=((SO.mk (some 46) (.move (.tmp 45)) none) :: (SO.mk (some 47) (.faddr 41 (.tmp 4) 11) (some (46 ,true))) :: (SO.mk (some 48) (.load 3 (.tmp 47)) (some (46 ,true))) :: (SO.mk (some 49) (.bin .eql 3 (.tmp 48) (.const (Value.int .i64 0))) (some (46 ,true))) :: o83_9)
theorem v83_10:type_of% (@swl _ _ o83_10.eq_1):=@swl _ _ o83_10.eq_1
def o83_11:List SO:=((SO.mk (some 42) (.faddr 41 (.tmp 4) 10) (some (41 ,true))) :: (SO.mk (some 43) (.load 3 (.tmp 42)) (some (41 ,true))) :: (SO.mk (some 44) (.bin .eql 3 (.tmp 43) (.const (Value.int .i64 0))) (some (41 ,true))) :: (SO.mk (some 45) (.pick (.tmp 41) (.tmp 44) (.const (Value.bool false))) none) :: o83_10)
theorem v83_11:type_of% (@swl _ _ o83_11.eq_1):=@swl _ _ o83_11.eq_1
def c83_12:SC:=(.seq (.reg ((SO.mk (some 38) (.faddr 41 (.tmp 4) 9) none) :: (SO.mk (some 39) (.load 3 (.tmp 38)) none) :: (SO.mk (some 40) (.bin .eql 3 (.tmp 39) (.const (Value.int .i64 0))) none) :: (SO.mk (some 41) (.move (.tmp 40)) none) :: o83_11)) (.keep [6] .ret))
theorem u83_12:type_of% (@swc _ _ c83_12.eq_1):=@swc _ _ c83_12.eq_1
def o83_13:List SO:=((SO.mk (some 6) (.move (.tmp 72)) none) :: [])
theorem v83_13:type_of% (@swl _ _ o83_13.eq_1):=@swl _ _ o83_13.eq_1
def o83_14:List SO:=((SO.mk (some 69) (.load 26 (.tmp 68)) (some (67 ,true))) :: (SO.mk (some 70) (.len 26 (.tmp 69)) (some (67 ,true))) :: (SO.mk (some 71) (.bin .eql 3 (.tmp 70) (.const (Value.int .i64 0))) (some (67 ,true))) :: (SO.mk (some 72) (.pick (.tmp 67) (.tmp 71) (.const (Value.bool false))) none) :: o83_13)
theorem v83_14:type_of% (@swl _ _ o83_14.eq_1):=@swl _ _ o83_14.eq_1
def o83_15:List SO:=((SO.mk (some 65) (.bin .eql 3 (.tmp 64) (.const (Value.int .i64 0))) (some (62 ,true))) :: (SO.mk (some 66) (.pick (.tmp 62) (.tmp 65) (.const (Value.bool false))) none) :: (SO.mk (some 67) (.move (.tmp 66)) none) :: (SO.mk (some 68) (.faddr 41 (.tmp 4) 8) (some (67 ,true))) :: o83_14)
theorem v83_15:type_of% (@swl _ _ o83_15.eq_1):=@swl _ _ o83_15.eq_1
def c83_16:SC:=(.seq (.reg ((SO.mk (some 61) (.move (.tmp 7)) none) :: (SO.mk (some 62) (.move (.tmp 61)) none) :: (SO.mk (some 63) (.faddr 41 (.tmp 4) 11) (some (62 ,true))) :: (SO.mk (some 64) (.load 3 (.tmp 63)) (some (62 ,true))) :: o83_15)) (.keep [6] .ret))
theorem u83_16:type_of% (@swc _ _ c83_16.eq_1):=@swc _ _ c83_16.eq_1
def o83_17:List SO:=((SO.mk (some 91) (.load 3 (.tmp 90)) (some (86 ,true))) :: (SO.mk (some 92) (.call 64 [(.tmp 87),(.tmp 89),(.tmp 91)]) (some (86 ,true))) :: (SO.mk (some 93) (.pick (.tmp 86) (.tmp 92) (.const (Value.bool false))) none) :: (SO.mk (some 6) (.move (.tmp 93)) none) :: [])
theorem v83_17:type_of% (@swl _ _ o83_17.eq_1):=@swl _ _ o83_17.eq_1
def o83_18:List SO:=((SO.mk (some 87) (.move (.tmp 2)) (some (86 ,true))) :: (SO.mk (some 88) (.faddr 41 (.tmp 4) 8) (some (86 ,true))) :: (SO.mk (some 89) (.load 26 (.tmp 88)) (some (86 ,true))) :: (SO.mk (some 90) (.faddr 41 (.tmp 4) 5) (some (86 ,true))) :: o83_17)
theorem v83_18:type_of% (@swl _ _ o83_18.eq_1):=@swl _ _ o83_18.eq_1
def o83_19:List SO:=((SO.mk (some 83) (.load 3 (.tmp 82)) (some (81 ,true))) :: (SO.mk (some 84) (.bin .leq 3 (.tmp 83) (.const (Value.int .i64 1073742824))) (some (81 ,true))) :: (SO.mk (some 85) (.pick (.tmp 81) (.tmp 84) (.const (Value.bool false))) none) :: (SO.mk (some 86) (.move (.tmp 85)) none) :: o83_18)
theorem v83_19:type_of% (@swl _ _ o83_19.eq_1):=@swl _ _ o83_19.eq_1
def o83_20:List SO:=((SO.mk (some 79) (.bin .geq 3 (.tmp 78) (.const (Value.int .i64 0))) (some (76 ,true))) :: (SO.mk (some 80) (.pick (.tmp 76) (.tmp 79) (.const (Value.bool false))) none) :: (SO.mk (some 81) (.move (.tmp 80)) none) :: (SO.mk (some 82) (.faddr 41 (.tmp 4) 11) (some (81 ,true))) :: o83_19)
theorem v83_20:type_of% (@swl _ _ o83_20.eq_1):=@swl _ _ o83_20.eq_1
def c83_21:SC:=(.seq (.reg ((SO.mk (some 75) (.move (.tmp 7)) none) :: (SO.mk (some 76) (.move (.tmp 75)) none) :: (SO.mk (some 77) (.faddr 41 (.tmp 4) 11) (some (76 ,true))) :: (SO.mk (some 78) (.load 3 (.tmp 77)) (some (76 ,true))) :: o83_20)) (.keep [6] .ret))
theorem u83_21:type_of% (@swc _ _ c83_21.eq_1):=@swc _ _ c83_21.eq_1
def c83_22:SC:=(.cond (.tmp 73) c83_21 .skip)
theorem u83_22:type_of% (@swc _ _ c83_22.eq_1):=@swc _ _ c83_22.eq_1
def c83_23:SC:=(.seq (.reg [SO.mk (some 74) (.bin .eql 3 (.tmp 35) (.const (Value.int .i64 3))) none,SO.mk (some 73) (.move (.tmp 74)) none]) (.keep [73,4,2,7] c83_22))
theorem u83_23:type_of% (@swc _ _ c83_23.eq_1):=@swc _ _ c83_23.eq_1
def c83_24:SC:=(.cond (.tmp 59) c83_16 c83_23)
theorem u83_24:type_of% (@swc _ _ c83_24.eq_1):=@swc _ _ c83_24.eq_1
def c83_25:SC:=(.seq (.reg [SO.mk (some 60) (.bin .eql 3 (.tmp 35) (.const (Value.int .i64 2))) none,SO.mk (some 59) (.move (.tmp 60)) none]) (.keep [59,35,4,2,7] c83_24))
theorem u83_25:type_of% (@swc _ _ c83_25.eq_1):=@swc _ _ c83_25.eq_1
def c83_26:SC:=(.cond (.tmp 36) c83_12 c83_25)
theorem u83_26:type_of% (@swc _ _ c83_26.eq_1):=@swc _ _ c83_26.eq_1
def c83_27:SC:=(.block 0 (.seq (.reg [SO.mk (some 37) (.bin .eql 3 (.tmp 35) (.const (Value.int .i64 1))) none,SO.mk (some 36) (.move (.tmp 37)) none]) (.keep [36,35,4,2,7] c83_26)))
theorem u83_27:type_of% (@swc _ _ c83_27.eq_1):=@swc _ _ c83_27.eq_1
def c83_28:SC:=(.seq (.reg [SO.mk (some 6) (.move (.const (Value.bool false))) none]) (.keep [6] .ret))
theorem u83_28:type_of% (@swc _ _ c83_28.eq_1):=@swc _ _ c83_28.eq_1
def c83_29:SC:=(.seq (.seq (.reg [SO.mk (some 34) (.faddr 41 (.tmp 4) 7) none,SO.mk (some 35) (.load 3 (.tmp 34)) none]) (.keep [35,4,2,7] c83_27)) (.keep [] c83_28))
theorem u83_29:type_of% (@swc _ _ c83_29.eq_1):=@swc _ _ c83_29.eq_1
def c83_30:SC:=(.seq (.reg ((SO.mk (some 8) (.faddr 41 (.tmp 4) 9) none) :: (SO.mk (some 9) (.load 3 (.tmp 8)) none) :: (SO.mk (some 10) (.bin .geq 3 (.tmp 9) (.const (Value.int .i64 0))) none) :: (SO.mk (some 11) (.move (.tmp 10)) none) :: o83_6)) (.keep [4,2,7] c83_29))
theorem u83_30:type_of% (@swc _ _ c83_30.eq_1):=@swc _ _ c83_30.eq_1
def c83:SC:=(.seq (.reg [SO.mk (some 3) (.box 28 (.tmp 0)) none,SO.mk (some 4) (.box 41 (.tmp 1)) none,SO.mk (some 6) (.move (.const (Value.bool false))) none]) (.keep [3,4,2] c83_30))
theorem c83_eq:annC Try.f83 = some c83:=by kernel_rfl
theorem r83:Try.f83.results.toList = [.tmp 6]:=by kernel_rfl
theorem e83:enters Try.prog 83 = true:=by kernel_rfl
def o61_1:List SO:=((SO.mk (some 8) (.move (.tmp 15)) none) :: [])
theorem v61_1:type_of% (@swl _ _ o61_1.eq_1):=@swl _ _ o61_1.eq_1
def o61_2:List SO:=((SO.mk (some 9) (.move (.tmp 13)) none) :: (SO.mk (some 14) (.extract (.tmp 9) 0) none) :: (SO.mk (some 15) (.extract (.tmp 9) 1) none) :: (SO.mk (some 7) (.move (.tmp 14)) none) :: o61_1)
theorem v61_2:type_of% (@swl _ _ o61_2.eq_1):=@swl _ _ o61_2.eq_1
def o61_3:List SO:=((SO.mk (some 44) (.faddr 28 (.tmp 3) 1) (some (41 ,false))) :: (SO.mk (some 45) (.load 3 (.tmp 44)) (some (41 ,false))) :: (SO.mk (some 46) (.bin .gtr 3 (.tmp 43) (.tmp 45)) (some (41 ,false))) :: (SO.mk (some 47) (.pick (.tmp 41) (.const (Value.bool true)) (.tmp 46)) none) :: [])
theorem v61_3:type_of% (@swl _ _ o61_3.eq_1):=@swl _ _ o61_3.eq_1
def o61_4:List SO:=((SO.mk (some 40) (.pick (.tmp 36) (.const (Value.bool true)) (.tmp 39)) none) :: (SO.mk (some 41) (.move (.tmp 40)) none) :: (SO.mk (some 42) (.faddr 41 (.tmp 4) 6) (some (41 ,false))) :: (SO.mk (some 43) (.load 3 (.tmp 42)) (some (41 ,false))) :: o61_3)
theorem v61_4:type_of% (@swl _ _ o61_4.eq_1):=@swl _ _ o61_4.eq_1
def o61_5:List SO:=((SO.mk (some 36) (.move (.tmp 35)) none) :: (SO.mk (some 37) (.faddr 41 (.tmp 4) 6) (some (36 ,false))) :: (SO.mk (some 38) (.load 3 (.tmp 37)) (some (36 ,false))) :: (SO.mk (some 39) (.bin .lss 3 (.tmp 38) (.const (Value.int .i64 0))) (some (36 ,false))) :: o61_4)
theorem v61_5:type_of% (@swl _ _ o61_5.eq_1):=@swl _ _ o61_5.eq_1
def o61_6:List SO:=((SO.mk (some 32) (.faddr 28 (.tmp 3) 0) (some (29 ,false))) :: (SO.mk (some 33) (.load 3 (.tmp 32)) (some (29 ,false))) :: (SO.mk (some 34) (.bin .geq 3 (.tmp 31) (.tmp 33)) (some (29 ,false))) :: (SO.mk (some 35) (.pick (.tmp 29) (.const (Value.bool true)) (.tmp 34)) none) :: o61_5)
theorem v61_6:type_of% (@swl _ _ o61_6.eq_1):=@swl _ _ o61_6.eq_1
def o61_7:List SO:=((SO.mk (some 28) (.pick (.tmp 24) (.const (Value.bool true)) (.tmp 27)) none) :: (SO.mk (some 29) (.move (.tmp 28)) none) :: (SO.mk (some 30) (.faddr 41 (.tmp 4) 0) (some (29 ,false))) :: (SO.mk (some 31) (.load 3 (.tmp 30)) (some (29 ,false))) :: o61_6)
theorem v61_7:type_of% (@swl _ _ o61_7.eq_1):=@swl _ _ o61_7.eq_1
def o61_8:List SO:=((SO.mk (some 24) (.move (.tmp 23)) none) :: (SO.mk (some 25) (.faddr 41 (.tmp 4) 0) (some (24 ,false))) :: (SO.mk (some 26) (.load 3 (.tmp 25)) (some (24 ,false))) :: (SO.mk (some 27) (.bin .lss 3 (.tmp 26) (.const (Value.int .i64 1))) (some (24 ,false))) :: o61_7)
theorem v61_8:type_of% (@swl _ _ o61_8.eq_1):=@swl _ _ o61_8.eq_1
def o61_9:List SO:=((SO.mk (some 20) (.load 9 (.tmp 19)) (some (18 ,false))) :: (SO.mk (some 21) (.call 63 [(.tmp 20)]) (some (18 ,false))) :: (SO.mk (some 22) (.bin .neq 30 (.tmp 21) (.const (Value.int .i64 0))) (some (18 ,false))) :: (SO.mk (some 23) (.pick (.tmp 18) (.const (Value.bool true)) (.tmp 22)) none) :: o61_8)
theorem v61_9:type_of% (@swl _ _ o61_9.eq_1):=@swl _ _ o61_9.eq_1
def c61_10:SC:=(.seq (.reg [SO.mk (some 6) (.move (.const (Value.bool false))) none]) (.keep [6] .ret))
theorem u61_10:type_of% (@swc _ _ c61_10.eq_1):=@swc _ _ c61_10.eq_1
def c61_11:SC:=(.cond (.tmp 47) c61_10 .skip)
theorem u61_11:type_of% (@swc _ _ c61_11.eq_1):=@swc _ _ c61_11.eq_1
def c61_12:SC:=(.seq (.reg ((SO.mk (some 16) (.move (.tmp 8)) none) :: (SO.mk (some 17) (.un .not (.tmp 16)) none) :: (SO.mk (some 18) (.move (.tmp 17)) none) :: (SO.mk (some 19) (.faddr 41 (.tmp 4) 2) (some (18 ,false))) :: o61_9)) (.keep [47,3,4,2] c61_11))
theorem u61_12:type_of% (@swc _ _ c61_12.eq_1):=@swc _ _ c61_12.eq_1
def o61_13:List SO:=((SO.mk (some 78) (.pick (.tmp 74) (.tmp 77) (.const (Value.bool false))) none) :: (SO.mk (some 6) (.move (.tmp 78)) none) :: [])
theorem v61_13:type_of% (@swl _ _ o61_13.eq_1):=@swl _ _ o61_13.eq_1
def o61_14:List SO:=((SO.mk (some 74) (.move (.tmp 73)) none) :: (SO.mk (some 75) (.faddr 41 (.tmp 4) 11) (some (74 ,true))) :: (SO.mk (some 76) (.load 3 (.tmp 75)) (some (74 ,true))) :: (SO.mk (some 77) (.bin .eql 3 (.tmp 76) (.const (Value.int .i64 0))) (some (74 ,true))) :: o61_13)
theorem v61_14:type_of% (@swl _ _ o61_14.eq_1):=@swl _ _ o61_14.eq_1
def o61_15:List SO:=((SO.mk (some 70) (.faddr 41 (.tmp 4) 10) (some (69 ,true))) :: (SO.mk (some 71) (.load 3 (.tmp 70)) (some (69 ,true))) :: (SO.mk (some 72) (.bin .eql 3 (.tmp 71) (.const (Value.int .i64 0))) (some (69 ,true))) :: (SO.mk (some 73) (.pick (.tmp 69) (.tmp 72) (.const (Value.bool false))) none) :: o61_14)
theorem v61_15:type_of% (@swl _ _ o61_15.eq_1):=@swl _ _ o61_15.eq_1
def o61_16:List SO:=((SO.mk (some 66) (.load 3 (.tmp 65)) (some (64 ,true))) :: (SO.mk (some 67) (.bin .eql 3 (.tmp 66) (.const (Value.int .i64 0))) (some (64 ,true))) :: (SO.mk (some 68) (.pick (.tmp 64) (.tmp 67) (.const (Value.bool false))) none) :: (SO.mk (some 69) (.move (.tmp 68)) none) :: o61_15)
theorem v61_16:type_of% (@swl _ _ o61_16.eq_1):=@swl _ _ o61_16.eq_1
def o61_17:List SO:=((SO.mk (some 62) (.bin .eql 3 (.tmp 61) (.const (Value.int .i64 0))) (some (58 ,true))) :: (SO.mk (some 63) (.pick (.tmp 58) (.tmp 62) (.const (Value.bool false))) none) :: (SO.mk (some 64) (.move (.tmp 63)) none) :: (SO.mk (some 65) (.faddr 41 (.tmp 4) 9) (some (64 ,true))) :: o61_16)
theorem v61_17:type_of% (@swl _ _ o61_17.eq_1):=@swl _ _ o61_17.eq_1
def o61_18:List SO:=((SO.mk (some 58) (.move (.tmp 57)) none) :: (SO.mk (some 59) (.faddr 41 (.tmp 4) 8) (some (58 ,true))) :: (SO.mk (some 60) (.load 26 (.tmp 59)) (some (58 ,true))) :: (SO.mk (some 61) (.len 26 (.tmp 60)) (some (58 ,true))) :: o61_17)
theorem v61_18:type_of% (@swl _ _ o61_18.eq_1):=@swl _ _ o61_18.eq_1
def o61_19:List SO:=((SO.mk (some 54) (.faddr 41 (.tmp 4) 7) (some (53 ,true))) :: (SO.mk (some 55) (.load 3 (.tmp 54)) (some (53 ,true))) :: (SO.mk (some 56) (.bin .eql 3 (.tmp 55) (.const (Value.int .i64 0))) (some (53 ,true))) :: (SO.mk (some 57) (.pick (.tmp 53) (.tmp 56) (.const (Value.bool false))) none) :: o61_18)
theorem v61_19:type_of% (@swl _ _ o61_19.eq_1):=@swl _ _ o61_19.eq_1
def c61_20:SC:=(.seq (.reg ((SO.mk (some 50) (.faddr 41 (.tmp 4) 5) none) :: (SO.mk (some 51) (.load 3 (.tmp 50)) none) :: (SO.mk (some 52) (.bin .eql 3 (.tmp 51) (.const (Value.int .i64 0))) none) :: (SO.mk (some 53) (.move (.tmp 52)) none) :: o61_19)) (.keep [6] .ret))
theorem u61_20:type_of% (@swc _ _ c61_20.eq_1):=@swc _ _ c61_20.eq_1
def c61_21:SC:=(.cond (.tmp 49) c61_20 .skip)
theorem u61_21:type_of% (@swc _ _ c61_21.eq_1):=@swc _ _ c61_21.eq_1
def o61_22:List SO:=((SO.mk (some 91) (.call 83 [(.tmp 88),(.tmp 89),(.tmp 90)]) (some (87 ,true))) :: (SO.mk (some 92) (.pick (.tmp 87) (.tmp 91) (.const (Value.bool false))) none) :: (SO.mk (some 6) (.move (.tmp 92)) none) :: [])
theorem v61_22:type_of% (@swl _ _ o61_22.eq_1):=@swl _ _ o61_22.eq_1
def o61_23:List SO:=((SO.mk (some 87) (.move (.tmp 86)) none) :: (SO.mk (some 88) (.load 28 (.tmp 3)) (some (87 ,true))) :: (SO.mk (some 89) (.load 41 (.tmp 4)) (some (87 ,true))) :: (SO.mk (some 90) (.move (.tmp 2)) (some (87 ,true))) :: o61_22)
theorem v61_23:type_of% (@swl _ _ o61_23.eq_1):=@swl _ _ o61_23.eq_1
def o61_24:List SO:=((SO.mk (some 83) (.faddr 41 (.tmp 4) 5) (some (82 ,true))) :: (SO.mk (some 84) (.load 3 (.tmp 83)) (some (82 ,true))) :: (SO.mk (some 85) (.bin .leq 3 (.tmp 84) (.const (Value.int .i64 600))) (some (82 ,true))) :: (SO.mk (some 86) (.pick (.tmp 82) (.tmp 85) (.const (Value.bool false))) none) :: o61_23)
theorem v61_24:type_of% (@swl _ _ o61_24.eq_1):=@swl _ _ o61_24.eq_1
def c61_25:SC:=(.seq (.reg ((SO.mk (some 79) (.faddr 41 (.tmp 4) 5) none) :: (SO.mk (some 80) (.load 3 (.tmp 79)) none) :: (SO.mk (some 81) (.bin .geq 3 (.tmp 80) (.const (Value.int .i64 0))) none) :: (SO.mk (some 82) (.move (.tmp 81)) none) :: o61_24)) (.keep [6] .ret))
theorem u61_25:type_of% (@swc _ _ c61_25.eq_1):=@swc _ _ c61_25.eq_1
def c61_26:SC:=(.seq (.seq (.reg [SO.mk (some 48) (.faddr 41 (.tmp 4) 4) none,SO.mk (some 49) (.load 4 (.tmp 48)) none]) (.keep [49,3,4,2] c61_21)) (.keep [3,4,2] c61_25))
theorem u61_26:type_of% (@swc _ _ c61_26.eq_1):=@swc _ _ c61_26.eq_1
def c61_27:SC:=(.seq (.seq (.reg ((SO.mk (some 10) (.load 28 (.tmp 3)) none) :: (SO.mk (some 11) (.faddr 41 (.tmp 4) 1) none) :: (SO.mk (some 12) (.load 9 (.tmp 11)) none) :: (SO.mk (some 13) (.call 62 [(.tmp 10),(.tmp 12)]) none) :: o61_2)) (.keep [8,3,4,2] c61_12)) (.keep [3,4,2] c61_26))
theorem u61_27:type_of% (@swc _ _ c61_27.eq_1):=@swc _ _ c61_27.eq_1
def c61:SC:=(.seq (.reg [SO.mk (some 3) (.box 28 (.tmp 0)) none,SO.mk (some 4) (.box 41 (.tmp 1)) none,SO.mk (some 6) (.move (.const (Value.bool false))) none]) (.keep [3,4,2] c61_27))
theorem c61_eq:annC Try.f61 = some c61:=by kernel_rfl
theorem r61:Try.f61.results.toList = [.tmp 6]:=by kernel_rfl
theorem e61:enters Try.prog 61 = true:=by kernel_rfl
end Go.Proofs.Ytikgiadbkjmabaa
namespace Go.Proofs.Ytikgiadbkjmabaa
open Go.RowKit
set_option maxHeartbeats 4000000
set_option maxRecDepth 20000
attribute [local irreducible] SW OSW SWL SWLn SWD SEcall SEcallv SDv SE SO1 SOg ACalls ACallv Wk EndV
set_option linter.unusedSimpArgs false
set_option linter.unusedVariables false
def tapedF (s:SttD) (v:VerD):Bool:=decide (v.vol ≥ 0) && (decide (v.vol < 8) && (decide (v.pos ≥ 0) && (decide (v.pos ≤ 4000) && !decide (idxD s.gone.length (pI s.gone v.vol) ≥ 0))))
def tierF (s:SttD) (v:VerD) (es:List (KV × Bool)):Bool × List (KV × Bool) :=
  bif v.tier == 1 then (bif v.vol == 0 && (v.pos == 0 && v.till == 0) then takeF es v.secs v.size else (false,es))
  else bif v.tier == 2 then (tapedF s v && (v.till == 0 && ((v.secs.length:Int) == 0)),es)
  else bif v.tier == 3 then (bif tapedF s v && (decide (v.till ≥ 0) && decide (v.till ≤ 1073742824)) then takeF es v.secs v.size else (false,es))
  else (false,es)
theorem tiered_p (s:SttD) (v:VerD) (m:Bool) (es:List (KV × Bool)) (B:Nat) (σ:Sto) (n:Nat) (hn:n < B) (hσ:σ n = .mp false es) :
    ACalls Try.prog 83 [s.av,.agg [I v.id,.d (.v (.string v.bkt)),.d (.v (.string v.key)),Bo v.null,Bo m,I v.size,I v.time,I v.tier,.d (ints v.secs),I v.vol,I v.pos,I v.till],.mp n] σ B [] (fun v' σ'=>v' = Bo (tierF s v es).1 ∧ σ' = sto [(n,.mp false (tierF s v es).2)] σ):=by
  refine own_of follows Try.func83 c83_eq r83 (Nat.le_of_ble_eq_true rfl) fun hcl hsz=>?_
  clear hsz
  have y1:∀ s,(n = B + s) = False:=fun s=>by simp;omega
  have y2:∀ s,(B + s = n) = False:=fun s=>by simp;omega
  have y3:(n < B) = True:=eq_true hn
  have y4:decide (n < B) = true:=by simpa using hn
  have y5:decide (n < B + 100000) = true:=by simp;omega
  repeat' (first | (simp -implicitDefEqProofs only [*,Nat.reduceBEq,↓reduceIte,Nat.reduceEqDiff,Nat.reduceAdd,reduceCtorEq,AO.kill,Int.reduceLT,Int.reduceToNat,List.getElem?_nil,Nat.reduceMul,Nat.reducePow,Nat.reduceLeDiff,rowOf_mapD,rowOf_mapI,rowOf_mapA,List.getElem?_cons_zero,List.getElem?_cons_succ,take_map_len,take_map_app,List.getElem?_cons_zero,c83,r83,v83_1,v83_2,v83_3,v83_4,v83_5,v83_6,v83_7,v83_8,v83_9,v83_10,v83_11,u83_12,v83_13,v83_14,v83_15,u83_16,v83_17,v83_18,v83_19,v83_20,u83_21,u83_22,u83_23,u83_24,u83_25,u83_26,u83_27,u83_28,u83_29,u83_30,ty28,ty41,ty3,ty26,y1,y2,y3,y4,y5,SttD.av,SttD.cells,VerD.row,ints,hσ,mvcgen_simp]) | (with_reducible refine And.intro ?_ ?_) | (refine call_ro e95 ( contains_p s.gone v.vol) rfl ?_ ?_ ?_ ?_) | (refine gcall_ro e95 ( contains_p s.gone v.vol) rfl ?_ ?_ ?_ ?_) | (refine dcall_ro e95 ( contains_p s.gone v.vol) rfl ?_ ?_ ?_ ?_) | (refine gdcall_ro rfl e95 ( contains_p s.gone v.vol) rfl ?_ ?_ ?_ ?_) | (refine gcall_do trivial ?_) | (refine call_own [] [(n,.mp false (takeF es v.secs v.size).2)] e64 (take_p v.secs v.size es _ _ n (by omega) (by simp [sto,y1,y2,hσ])) rfl ?_ ?_ ?_ ?_ ?_) | (refine EndX.plain ?_) | (refine nil_split (fun hn=>?_) (fun hn=>?_)) | (refine gcall_no not_false ?_) | (refine gdcall_no not_false ?_) | (refine GuardS_of _ _ _ _ _ _ (fun hg=>?_) (fun hg=>?_)) | (refine GuardD_of _ _ _ _ (fun hg=>?_) (fun hg=>?_)) | (refine CondB_of _ _ _ _ _ _ _ ?_ (fun hg=>?_) (fun hg=>?_)))
  all_goals (try (first | ((first | unfold noN | unfold Fr.below | unfold Loc.below);simp [Fr.allN,AV.allN,AV.allNL,AO.allN];done) | rfl | trivial | assumption | (intro row hrow;simp only [List.mem_map] at hrow;obtain ⟨x,_,rfl⟩:=hrow;rfl) | (refine Wk.keep hcl ?_ ?_ ?_;(focus (simp [Fr.get,y1,y2,y3,y4,y5,SttD.av,SttD.cells,VerD.row,ints,hσ]<;>fail));(focus (simp [sto,y1,y2,y3,y4,y5,SttD.av,SttD.cells,VerD.row,ints,hσ]<;>fail));(focus (simp<;>fail))) | (simp [allP,opd,Fr.get,Fr.below,Fr.allN,AV.allN,AV.allNL,Loc.below,AO.allN,noN,killO,killT,killD,mkNames,AO.kill,AV.kill,AV.mapN,AV.mapNL];done) | (with_reducible exact ltD (by assumption)) | omega | (simp only [decide_eq_true_eq,decide_eq_false_iff_not] at *;omega)))
  all_goals (try (simp [Fr.below,Loc.below,Fr.allN,AO.allN,AV.allN,AV.allNL,y5];done))
  all_goals (clear y1 y2 y3 y4 y5)
  all_goals first
    | (simp only [tierF,tapedF, *,Bool.false_or,Bool.true_or,Bool.or_true,Bool.or_false,Bool.and_true,Bool.true_and,Bool.false_and,Bool.and_false,Bool.not_true,Bool.not_false,cond_true,cond_false];done)
    | (simp only [tierF,tapedF, *,Bool.false_or,Bool.true_or,Bool.or_true,Bool.or_false,Bool.and_true,Bool.true_and,Bool.false_and,Bool.and_false,Bool.not_true,Bool.not_false,cond_true,cond_false];exact sto_same hσ rfl)
def bktI (s:SttD) (x:ByteArray):Int:=bsP (cB s.bkts x) s.bkts.length
def thereB (s:SttD) (x:ByteArray):Bool:=decide (bsP (cB s.bkts x) s.bkts.length < s.bkts.length) && (cB s.bkts x (bsP (cB s.bkts x) s.bkts.length) == 0)
theorem bkt_p (s:SttD) (x:ByteArray):Pure Try.prog 62 [s.av,.d (.v (.string x))] (.tup [I (bktI s x),Bo (thereB s x)]):=bucket_p s x
def verI (s:SttD) (x:Int):Nat:=bsP (cV s.vers x) s.vers.length
def thereV (s:SttD) (x:Int):Bool:=decide (bsP (cV s.vers x) s.vers.length < s.vers.length) && (cV s.vers x (bsP (cV s.vers x) s.vers.length) == 0)
theorem ver_p (s:SttD) (x:Int):Pure Try.prog 65 [s.av,I x] (.tup [I (verI s x),Bo (thereV s x)]):=version_p s x
def badF (s:SttD) (v:VerD):Bool:=!thereB s v.bkt || (wordF v.key 16 != 0 || (decide (v.id < 1) || (decide (v.id ≥ s.next) || (decide (v.time < 0) || decide (v.time > s.clock)))))
def markF (v:VerD):Bool:=v.size == 0 && (v.tier == 0 && (((v.secs.length:Int) == 0) && (v.vol == 0 && (v.pos == 0 && v.till == 0))))
def soundF (s:SttD) (v:VerD) (es:List (KV × Bool)):Bool × List (KV × Bool) :=
  bif badF s v then (false,es) else bif v.mark then (markF v,es) else bif decide (v.size ≥ 0) && decide (v.size ≤ 600) then tierF s v es else (false,es)
theorem sound_p (s:SttD) (v:VerD) (es:List (KV × Bool)) (B:Nat) (σ:Sto) (n:Nat) (hn:n < B) (hσ:σ n = .mp false es) :
    ACalls Try.prog 61 [s.av,.agg (v.row.map .d),.mp n] σ B [] (fun v' σ'=>v' = Bo (soundF s v es).1 ∧ σ' = sto [(n,.mp false (soundF s v es).2)] σ):=by
  refine own_of follows Try.func61 c61_eq r61 (Nat.le_of_ble_eq_true rfl) fun hcl hsz=>?_
  clear hsz
  have y1:∀ s,(n = B + s) = False:=fun s=>by simp;omega
  have y2:∀ s,(B + s = n) = False:=fun s=>by simp;omega
  have y3:(n < B) = True:=eq_true hn
  have y4:decide (n < B) = true:=by simpa using hn
  have y5:decide (n < B + 100000) = true:=by simp;omega
  repeat' (first | (simp -implicitDefEqProofs only [*,Nat.reduceBEq,↓reduceIte,Nat.reduceEqDiff,Nat.reduceAdd,reduceCtorEq,AO.kill,Int.reduceLT,Int.reduceToNat,List.getElem?_nil,Nat.reduceMul,Nat.reducePow,Nat.reduceLeDiff,rowOf_mapD,rowOf_mapI,rowOf_mapA,List.getElem?_cons_zero,List.getElem?_cons_succ,take_map_len,take_map_app,List.getElem?_cons_zero,c61,r61,v61_1,v61_2,v61_3,v61_4,v61_5,v61_6,v61_7,v61_8,v61_9,u61_10,u61_11,u61_12,v61_13,v61_14,v61_15,v61_16,v61_17,v61_18,v61_19,u61_20,u61_21,v61_22,v61_23,v61_24,u61_25,u61_26,u61_27,ty28,ty41,ty9,ty30,ty3,ty4,ty26,y1,y2,y3,y4,y5,SttD.av,SttD.cells,VerD.row,ints,hσ,mvcgen_simp]) | (with_reducible refine And.intro ?_ ?_) | (refine call_ro e62 ( bkt_p s v.bkt) rfl ?_ ?_ ?_ ?_) | (refine gcall_ro e62 ( bkt_p s v.bkt) rfl ?_ ?_ ?_ ?_) | (refine dcall_ro e62 ( bkt_p s v.bkt) rfl ?_ ?_ ?_ ?_) | (refine gdcall_ro rfl e62 ( bkt_p s v.bkt) rfl ?_ ?_ ?_ ?_) | (refine call_ro e63 ( key_p v.key) rfl ?_ ?_ ?_ ?_) | (refine gcall_ro e63 ( key_p v.key) rfl ?_ ?_ ?_ ?_) | (refine dcall_ro e63 ( key_p v.key) rfl ?_ ?_ ?_ ?_) | (refine gdcall_ro rfl e63 ( key_p v.key) rfl ?_ ?_ ?_ ?_) | (refine gcall_do trivial ?_) | (refine call_own [] [(n,.mp false (tierF s v es).2)] e83 (tiered_p s v false es _ _ n (by omega) (by simp [sto,y1,y2,hσ])) rfl ?_ ?_ ?_ ?_ ?_) | (refine EndX.plain ?_) | (refine nil_split (fun hn=>?_) (fun hn=>?_)) | (refine gcall_no not_false ?_) | (refine gdcall_no not_false ?_) | (refine GuardS_of _ _ _ _ _ _ (fun hg=>?_) (fun hg=>?_)) | (refine GuardD_of _ _ _ _ (fun hg=>?_) (fun hg=>?_)) | (refine CondB_of _ _ _ _ _ _ _ ?_ (fun hg=>?_) (fun hg=>?_)))
  all_goals (try (first | ((first | unfold noN | unfold Fr.below | unfold Loc.below);simp [Fr.allN,AV.allN,AV.allNL,AO.allN];done) | rfl | trivial | assumption | (intro row hrow;simp only [List.mem_map] at hrow;obtain ⟨x,_,rfl⟩:=hrow;rfl) | (refine Wk.keep hcl ?_ ?_ ?_;(focus (simp [Fr.get,y1,y2,y3,y4,y5,SttD.av,SttD.cells,VerD.row,ints,hσ]<;>fail));(focus (simp [sto,y1,y2,y3,y4,y5,SttD.av,SttD.cells,VerD.row,ints,hσ]<;>fail));(focus (simp<;>fail))) | (simp [allP,opd,Fr.get,Fr.below,Fr.allN,AV.allN,AV.allNL,Loc.below,AO.allN,noN,killO,killT,killD,mkNames,AO.kill,AV.kill,AV.mapN,AV.mapNL];done) | (with_reducible exact ltD (by assumption)) | omega | (simp only [decide_eq_true_eq,decide_eq_false_iff_not] at *;omega)))
  all_goals (try (simp [Fr.below,Loc.below,Fr.allN,AO.allN,AV.allN,AV.allNL,y5];done))
  all_goals (clear y1 y2 y3 y4 y5)
  all_goals (simp only [Bool.not_eq_true',Bool.not_eq_false'] at *)
  all_goals first
    | (simp only [soundF,badF,markF, *,Bool.false_or,Bool.true_or,Bool.or_true,Bool.or_false,Bool.and_true,Bool.true_and,Bool.false_and,Bool.and_false,Bool.not_true,Bool.not_false,cond_true,cond_false];done)
    | (simp only [soundF,badF,markF, *,Bool.false_or,Bool.true_or,Bool.or_true,Bool.or_false,Bool.and_true,Bool.true_and,Bool.false_and,Bool.and_false,Bool.not_true,Bool.not_false,cond_true,cond_false];exact sto_same hσ rfl)
end Go.Proofs.Ytikgiadbkjmabaa
