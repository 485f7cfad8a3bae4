/- slices.SortFunc where there is nothing to sort. -/
import Derived.Test.YtikgiadbkjmabaaLkS
import Derived.Test.YtikgiadbkjmabaaNm
import Derived.Test.YtikgiadbkjmabaaTypes
namespace Go.Proofs.Ytikgiadbkjmabaa
open Go.RowKit
set_option maxRecDepth 100000
def c68_1:SC:=(.cond (.tmp 14) .skip (.exit 0))
theorem u68_1:type_of% (@swc _ _ c68_1.eq_1):=@swc _ _ c68_1.eq_1
def o68_2:List SO:=((SO.mk (some 30) (.iaddr 23 (.tmp 27) (.tmp 29)) (some (21 ,true))) :: (SO.mk (some 31) (.load 41 (.tmp 30)) (some (21 ,true))) :: [])
theorem v68_2:type_of% (@swd _ _ o68_2.eq_1):=@swd _ _ o68_2.eq_1
def o68_3:List SO:=((SO.mk (some 26) (.load 41 (.tmp 25)) (some (21 ,true))) :: (SO.mk (some 27) (.move (.tmp 0)) (some (21 ,true))) :: (SO.mk (some 28) (.move (.tmp 9)) (some (21 ,true))) :: (SO.mk (some 29) (.bin .sub 3 (.tmp 28) (.const (Value.int .i64 1))) (some (21 ,true))) :: o68_2)
theorem v68_3:type_of% (@swd _ _ o68_3.eq_1):=@swd _ _ o68_3.eq_1
def o68_4:List SO:=((SO.mk (some 22) (.move (.tmp 3)) (some (21 ,true))) :: (SO.mk (some 23) (.move (.tmp 0)) (some (21 ,true))) :: (SO.mk (some 24) (.move (.tmp 9)) (some (21 ,true))) :: (SO.mk (some 25) (.iaddr 23 (.tmp 23) (.tmp 24)) (some (21 ,true))) :: o68_3)
theorem v68_4:type_of% (@swd _ _ o68_4.eq_1):=@swd _ _ o68_4.eq_1
def o68_5:List SO:=((SO.mk (some 18) (.move (.tmp 9)) none) :: (SO.mk (some 19) (.move (.tmp 1)) none) :: (SO.mk (some 20) (.bin .gtr 3 (.tmp 18) (.tmp 19)) none) :: (SO.mk (some 21) (.move (.tmp 20)) none) :: o68_4)
theorem v68_5:type_of% (@swd _ _ o68_5.eq_1):=@swd _ _ o68_5.eq_1
theorem m68_5 (B:Nat):mkNames B o68_5 = []:=(rfl)
def c68_6:SC:=(.cond (.tmp 34) .skip (.exit 2))
theorem u68_6:type_of% (@swc _ _ c68_6.eq_1):=@swc _ _ c68_6.eq_1
def o68_7:List SO:=((SO.mk (some 49) (.iaddr 23 (.tmp 47) (.tmp 48)) none) :: (SO.mk (some 50) (.load 41 (.tmp 49)) none) :: (SO.mk (some 51) (.iaddr 23 (.tmp 37) (.tmp 38)) none) :: [])
theorem v68_7:type_of% (@swd _ _ o68_7.eq_1):=@swd _ _ o68_7.eq_1
def o68_8:List SO:=((SO.mk (some 45) (.iaddr 23 (.tmp 42) (.tmp 44)) none) :: (SO.mk (some 46) (.load 41 (.tmp 45)) none) :: (SO.mk (some 47) (.move (.tmp 0)) none) :: (SO.mk (some 48) (.move (.tmp 9)) none) :: o68_7)
theorem v68_8:type_of% (@swd _ _ o68_8.eq_1):=@swd _ _ o68_8.eq_1
def o68_9:List SO:=((SO.mk (some 41) (.bin .sub 3 (.tmp 40) (.const (Value.int .i64 1))) none) :: (SO.mk (some 42) (.move (.tmp 0)) none) :: (SO.mk (some 43) (.move (.tmp 9)) none) :: (SO.mk (some 44) (.bin .sub 3 (.tmp 43) (.const (Value.int .i64 1))) none) :: o68_8)
theorem v68_9:type_of% (@swd _ _ o68_9.eq_1):=@swd _ _ o68_9.eq_1
def o68_10:List SO:=((SO.mk (some 37) (.move (.tmp 0)) none) :: (SO.mk (some 38) (.move (.tmp 9)) none) :: (SO.mk (some 39) (.move (.tmp 0)) none) :: (SO.mk (some 40) (.move (.tmp 9)) none) :: o68_9)
theorem v68_10:type_of% (@swd _ _ o68_10.eq_1):=@swd _ _ o68_10.eq_1
theorem m68_10 (B:Nat):mkNames B o68_10 = []:=(rfl)
def c68_11:SC:=(.reg [SO.mk (some 35) (.move (.tmp 9)) none,SO.mk (some 36) (.bin .sub 3 (.tmp 35) (.const (Value.int .i64 1))) none,SO.mk (some 9) (.move (.tmp 36)) none])
theorem u68_11:type_of% (@swc _ _ c68_11.eq_1):=@swc _ _ c68_11.eq_1
def c68_12:SC:=(.seq (.block 3 (.dreg false o68_10 [SO.mk none (.store 41 (.tmp 51) (.tmp 46)) none,SO.mk (some 52) (.iaddr 23 (.tmp 39) (.tmp 41)) none,SO.mk none (.store 41 (.tmp 52) (.tmp 50)) none])) (.keep [9,8,2,1,3,0] c68_11))
theorem u68_12:type_of% (@swc _ _ c68_12.eq_1):=@swc _ _ c68_12.eq_1
def c68_13:SC:=(.seq (.seq (.dreg false o68_5 [SO.mk (some 32) (.callv (.tmp 22) [(.tmp 26),(.tmp 31)]) (some (21 ,true)),SO.mk (some 33) (.bin .lss 3 (.tmp 32) (.const (Value.int .i64 0))) (some (21 ,true)),SO.mk (some 34) (.pick (.tmp 21) (.tmp 33) (.const (Value.bool false))) none]) (.keep [34,9,8,2,1,3,0] c68_6)) (.keep [9,8,2,1,3,0] c68_12))
theorem u68_13:type_of% (@swc _ _ c68_13.eq_1):=@swc _ _ c68_13.eq_1
def c68_14:SC:=(.block 2 (.loop (.keep [9,8,2,1,3,0] c68_13)))
theorem u68_14:type_of% (@swc _ _ c68_14.eq_1):=@swc _ _ c68_14.eq_1
def c68_15:SC:=(.reg [SO.mk (some 15) (.move (.tmp 8)) none,SO.mk (some 16) (.bin .add 3 (.tmp 15) (.const (Value.int .i64 1))) none,SO.mk (some 8) (.move (.tmp 16)) none])
theorem u68_15:type_of% (@swc _ _ c68_15.eq_1):=@swc _ _ c68_15.eq_1
def c68_16:SC:=(.seq (.block 1 (.seq (.reg [SO.mk (some 17) (.move (.tmp 8)) none,SO.mk (some 9) (.move (.tmp 17)) none]) (.keep [9,8,2,1,3,0] c68_14))) (.keep [8,2,1,3,0] c68_15))
theorem u68_16:type_of% (@swc _ _ c68_16.eq_1):=@swc _ _ c68_16.eq_1
def c68_17:SC:=(.seq (.seq (.reg [SO.mk (some 12) (.move (.tmp 8)) none,SO.mk (some 13) (.move (.tmp 2)) none,SO.mk (some 14) (.bin .lss 3 (.tmp 12) (.tmp 13)) none]) (.keep [14,0,3,1,2,8] c68_1)) (.keep [8,2,1,3,0] c68_16))
theorem u68_17:type_of% (@swc _ _ c68_17.eq_1):=@swc _ _ c68_17.eq_1
def c68_18:SC:=(.block 0 (.loop (.keep [0,3,1,2,8] c68_17)))
theorem u68_18:type_of% (@swc _ _ c68_18.eq_1):=@swc _ _ c68_18.eq_1
def c68:SC:=(.seq (.reg [SO.mk (some 10) (.move (.tmp 1)) none,SO.mk (some 11) (.bin .add 3 (.tmp 10) (.const (Value.int .i64 1))) none,SO.mk (some 8) (.move (.tmp 11)) none]) (.keep [0,3,1,2,8] c68_18))
theorem c68_eq:annC Try.f68 = some c68:=by kernel_rfl
theorem r68:Try.f68.results.toList = []:=by kernel_rfl
theorem e68:enters Try.prog 68 = true:=by kernel_rfl
def c45_1:SC:=(.seq (.reg [SO.mk (some 26) (.move (.tmp 0)) none,SO.mk (some 27) (.move (.tmp 1)) none,SO.mk (some 28) (.move (.tmp 2)) none,SO.mk (some 29) (.move (.tmp 4)) none,SO.mk (some 30) (.call 68 [(.tmp 26),(.tmp 27),(.tmp 28),(.tmp 29)]) none]) (.keep [] .ret))
theorem u45_1:type_of% (@swc _ _ c45_1.eq_1):=@swc _ _ c45_1.eq_1
def c45_2:SC:=(.cond (.tmp 25) c45_1 .skip)
theorem u45_2:type_of% (@swc _ _ c45_2.eq_1):=@swc _ _ c45_2.eq_1
def c45_3:SC:=(.seq (.reg [SO.mk (some 33) (.move (.tmp 0)) none,SO.mk (some 34) (.move (.tmp 1)) none,SO.mk (some 35) (.move (.tmp 2)) none,SO.mk (some 36) (.move (.tmp 4)) none,SO.mk (some 37) (.call 69 [(.tmp 33),(.tmp 34),(.tmp 35),(.tmp 36)]) none]) (.keep [] .ret))
theorem u45_3:type_of% (@swc _ _ c45_3.eq_1):=@swc _ _ c45_3.eq_1
def c45_4:SC:=(.cond (.tmp 32) c45_3 .skip)
theorem u45_4:type_of% (@swc _ _ c45_4.eq_1):=@swc _ _ c45_4.eq_1
def c45_5:SC:=(.reg [SO.mk (some 45) (.move (.tmp 3)) none,SO.mk (some 46) (.bin .sub 3 (.tmp 45) (.const (Value.int .i64 1))) none,SO.mk (some 3) (.move (.tmp 46)) none])
theorem u45_5:type_of% (@swc _ _ c45_5.eq_1):=@swc _ _ c45_5.eq_1
def c45_6:SC:=(.seq (.reg [SO.mk (some 40) (.move (.tmp 0)) none,SO.mk (some 41) (.move (.tmp 1)) none,SO.mk (some 42) (.move (.tmp 2)) none,SO.mk (some 43) (.move (.tmp 4)) none,SO.mk (some 44) (.call 70 [(.tmp 40),(.tmp 41),(.tmp 42),(.tmp 43)]) none]) (.keep [3,11,10,12,2,1,0,4] c45_5))
theorem u45_6:type_of% (@swc _ _ c45_6.eq_1):=@swc _ _ c45_6.eq_1
def c45_7:SC:=(.cond (.tmp 39) c45_6 .skip)
theorem u45_7:type_of% (@swc _ _ c45_7.eq_1):=@swc _ _ c45_7.eq_1
def o45_8:List SO:=((SO.mk (some 13) (.move (.tmp 53)) none) :: (SO.mk (some 14) (.move (.tmp 54)) none) :: [])
theorem v45_8:type_of% (@swl _ _ o45_8.eq_1):=@swl _ _ o45_8.eq_1
def o45_9:List SO:=((SO.mk (some 52) (.call 71 [(.tmp 48),(.tmp 49),(.tmp 50),(.tmp 51)]) none) :: (SO.mk (some 47) (.move (.tmp 52)) none) :: (SO.mk (some 53) (.extract (.tmp 47) 0) none) :: (SO.mk (some 54) (.extract (.tmp 47) 1) none) :: o45_8)
theorem v45_9:type_of% (@swl _ _ o45_9.eq_1):=@swl _ _ o45_9.eq_1
def o45_10:List SO:=((SO.mk (some 66) (.bin .sub 3 (.tmp 64) (.tmp 65)) none) :: (SO.mk (some 67) (.bin .sub 3 (.tmp 63) (.tmp 66)) none) :: (SO.mk (some 13) (.move (.tmp 67)) none) :: [])
theorem v45_10:type_of% (@swl _ _ o45_10.eq_1):=@swl _ _ o45_10.eq_1
def c45_11:SC:=(.seq (.reg ((SO.mk (some 62) (.move (.tmp 2)) none) :: (SO.mk (some 63) (.bin .sub 3 (.tmp 62) (.const (Value.int .i64 1))) none) :: (SO.mk (some 64) (.move (.tmp 13)) none) :: (SO.mk (some 65) (.move (.tmp 1)) none) :: o45_10)) (.keep [11,10,13,12,2,1,0,3,4] (.reg [SO.mk (some 14) (.move (.const (Value.int .i64 1))) none])))
theorem u45_11:type_of% (@swc _ _ c45_11.eq_1):=@swc _ _ c45_11.eq_1
def c45_12:SC:=(.seq (.reg [SO.mk (some 57) (.move (.tmp 0)) none,SO.mk (some 58) (.move (.tmp 1)) none,SO.mk (some 59) (.move (.tmp 2)) none,SO.mk (some 60) (.move (.tmp 4)) none,SO.mk (some 61) (.call 72 [(.tmp 57),(.tmp 58),(.tmp 59),(.tmp 60)]) none]) (.keep [13,11,10,12,2,1,0,3,4] c45_11))
theorem u45_12:type_of% (@swc _ _ c45_12.eq_1):=@swc _ _ c45_12.eq_1
def c45_13:SC:=(.cond (.tmp 56) c45_12 .skip)
theorem u45_13:type_of% (@swc _ _ c45_13.eq_1):=@swc _ _ c45_13.eq_1
def o45_14:List SO:=((SO.mk (some 72) (.move (.tmp 71)) none) :: (SO.mk (some 73) (.move (.tmp 14)) (some (72 ,true))) :: (SO.mk (some 74) (.bin .eql 102 (.tmp 73) (.const (Value.int .i64 1))) (some (72 ,true))) :: (SO.mk (some 75) (.pick (.tmp 72) (.tmp 74) (.const (Value.bool false))) none) :: [])
theorem v45_14:type_of% (@swl _ _ o45_14.eq_1):=@swl _ _ o45_14.eq_1
def c45_15:SC:=(.cond (.tmp 80) .ret .skip)
theorem u45_15:type_of% (@swc _ _ c45_15.eq_1):=@swc _ _ c45_15.eq_1
def c45_16:SC:=(.seq (.reg [SO.mk (some 76) (.move (.tmp 0)) none,SO.mk (some 77) (.move (.tmp 1)) none,SO.mk (some 78) (.move (.tmp 2)) none,SO.mk (some 79) (.move (.tmp 4)) none,SO.mk (some 80) (.call 73 [(.tmp 76),(.tmp 77),(.tmp 78),(.tmp 79)]) none]) (.keep [80,11,10,13,12,2,1,0,3,4] c45_15))
theorem u45_16:type_of% (@swc _ _ c45_16.eq_1):=@swc _ _ c45_16.eq_1
def c45_17:SC:=(.cond (.tmp 75) c45_16 .skip)
theorem u45_17:type_of% (@swc _ _ c45_17.eq_1):=@swc _ _ c45_17.eq_1
def o45_18:List SO:=((SO.mk (some 93) (.load 41 (.tmp 92)) (some (83 ,true))) :: [])
theorem v45_18:type_of% (@swd _ _ o45_18.eq_1):=@swd _ _ o45_18.eq_1
def o45_19:List SO:=((SO.mk (some 89) (.load 41 (.tmp 88)) (some (83 ,true))) :: (SO.mk (some 90) (.move (.tmp 0)) (some (83 ,true))) :: (SO.mk (some 91) (.move (.tmp 13)) (some (83 ,true))) :: (SO.mk (some 92) (.iaddr 23 (.tmp 90) (.tmp 91)) (some (83 ,true))) :: o45_18)
theorem v45_19:type_of% (@swd _ _ o45_19.eq_1):=@swd _ _ o45_19.eq_1
def o45_20:List SO:=((SO.mk (some 85) (.move (.tmp 0)) (some (83 ,true))) :: (SO.mk (some 86) (.move (.tmp 1)) (some (83 ,true))) :: (SO.mk (some 87) (.bin .sub 3 (.tmp 86) (.const (Value.int .i64 1))) (some (83 ,true))) :: (SO.mk (some 88) (.iaddr 23 (.tmp 85) (.tmp 87)) (some (83 ,true))) :: o45_19)
theorem v45_20:type_of% (@swd _ _ o45_20.eq_1):=@swd _ _ o45_20.eq_1
def o45_21:List SO:=((SO.mk (some 81) (.move (.tmp 1)) none) :: (SO.mk (some 82) (.bin .gtr 3 (.tmp 81) (.const (Value.int .i64 0))) none) :: (SO.mk (some 83) (.move (.tmp 82)) none) :: (SO.mk (some 84) (.move (.tmp 4)) (some (83 ,true))) :: o45_20)
theorem v45_21:type_of% (@swd _ _ o45_21.eq_1):=@swd _ _ o45_21.eq_1
theorem m45_21 (B:Nat):mkNames B o45_21 = []:=(rfl)
def o45_22:List SO:=((SO.mk (some 102) (.move (.tmp 4)) none) :: (SO.mk (some 103) (.call 74 [(.tmp 98),(.tmp 99),(.tmp 100),(.tmp 101),(.tmp 102)]) none) :: (SO.mk (some 15) (.move (.tmp 103)) none) :: [])
theorem v45_22:type_of% (@swl _ _ o45_22.eq_1):=@swl _ _ o45_22.eq_1
def c45_23:SC:=(.seq (.reg [SO.mk (some 104) (.move (.tmp 15)) none,SO.mk (some 1) (.move (.tmp 104)) none]) (.keep [10,11,1,0,2,3,4] (.exit 1)))
theorem u45_23:type_of% (@swc _ _ c45_23.eq_1):=@swc _ _ c45_23.eq_1
def c45_24:SC:=(.seq (.reg ((SO.mk (some 98) (.move (.tmp 0)) none) :: (SO.mk (some 99) (.move (.tmp 1)) none) :: (SO.mk (some 100) (.move (.tmp 2)) none) :: (SO.mk (some 101) (.move (.tmp 13)) none) :: o45_22)) (.keep [15,10,11,0,2,3,4] c45_23))
theorem u45_24:type_of% (@swc _ _ c45_24.eq_1):=@swc _ _ c45_24.eq_1
def c45_25:SC:=(.cond (.tmp 97) c45_24 .skip)
theorem u45_25:type_of% (@swc _ _ c45_25.eq_1):=@swc _ _ c45_25.eq_1
def o45_26:List SO:=((SO.mk (some 113) (.extract (.tmp 105) 1) none) :: (SO.mk (some 16) (.move (.tmp 112)) none) :: (SO.mk (some 17) (.move (.tmp 113)) none) :: [])
theorem v45_26:type_of% (@swl _ _ o45_26.eq_1):=@swl _ _ o45_26.eq_1
def o45_27:List SO:=((SO.mk (some 110) (.move (.tmp 4)) none) :: (SO.mk (some 111) (.call 75 [(.tmp 106),(.tmp 107),(.tmp 108),(.tmp 109),(.tmp 110)]) none) :: (SO.mk (some 105) (.move (.tmp 111)) none) :: (SO.mk (some 112) (.extract (.tmp 105) 0) none) :: o45_26)
theorem v45_27:type_of% (@swl _ _ o45_27.eq_1):=@swl _ _ o45_27.eq_1
def o45_28:List SO:=((SO.mk (some 119) (.move (.tmp 16)) none) :: (SO.mk (some 120) (.bin .sub 3 (.tmp 118) (.tmp 119)) none) :: (SO.mk (some 18) (.move (.tmp 117)) none) :: (SO.mk (some 19) (.move (.tmp 120)) none) :: [])
theorem v45_28:type_of% (@swl _ _ o45_28.eq_1):=@swl _ _ o45_28.eq_1
def o45_29:List SO:=((SO.mk (some 133) (.move (.tmp 4)) none) :: (SO.mk (some 134) (.call 45 [(.tmp 129),(.tmp 130),(.tmp 131),(.tmp 132),(.tmp 133)]) none) :: [])
theorem v45_29:type_of% (@swl _ _ o45_29.eq_1):=@swl _ _ o45_29.eq_1
def c45_30:SC:=(.reg [SO.mk (some 135) (.move (.tmp 16)) none,SO.mk (some 136) (.bin .add 3 (.tmp 135) (.const (Value.int .i64 1))) none,SO.mk (some 1) (.move (.tmp 136)) none])
theorem u45_30:type_of% (@swc _ _ c45_30.eq_1):=@swc _ _ c45_30.eq_1
def c45_31:SC:=(.seq (.reg ((SO.mk (some 129) (.move (.tmp 0)) none) :: (SO.mk (some 130) (.move (.tmp 1)) none) :: (SO.mk (some 131) (.move (.tmp 16)) none) :: (SO.mk (some 132) (.move (.tmp 3)) none) :: o45_29)) (.keep [16,10,11,0,2,3,4] c45_30))
theorem u45_31:type_of% (@swc _ _ c45_31.eq_1):=@swc _ _ c45_31.eq_1
def c45_32:SC:=(.seq (.reg [SO.mk (some 126) (.move (.tmp 18)) none,SO.mk (some 127) (.move (.tmp 20)) none,SO.mk (some 128) (.bin .geq 3 (.tmp 126) (.tmp 127)) none,SO.mk (some 10) (.move (.tmp 128)) none]) (.keep [1,16,10,11,0,2,3,4] c45_31))
theorem u45_32:type_of% (@swc _ _ c45_32.eq_1):=@swc _ _ c45_32.eq_1
def o45_33:List SO:=((SO.mk (some 144) (.move (.tmp 3)) none) :: (SO.mk (some 145) (.move (.tmp 4)) none) :: (SO.mk (some 146) (.call 45 [(.tmp 140),(.tmp 142),(.tmp 143),(.tmp 144),(.tmp 145)]) none) :: [])
theorem v45_33:type_of% (@swl _ _ o45_33.eq_1):=@swl _ _ o45_33.eq_1
def c45_34:SC:=(.reg [SO.mk (some 147) (.move (.tmp 16)) none,SO.mk (some 2) (.move (.tmp 147)) none])
theorem u45_34:type_of% (@swc _ _ c45_34.eq_1):=@swc _ _ c45_34.eq_1
def c45_35:SC:=(.seq (.reg ((SO.mk (some 140) (.move (.tmp 0)) none) :: (SO.mk (some 141) (.move (.tmp 16)) none) :: (SO.mk (some 142) (.bin .add 3 (.tmp 141) (.const (Value.int .i64 1))) none) :: (SO.mk (some 143) (.move (.tmp 2)) none) :: o45_33)) (.keep [16,10,11,1,0,3,4] c45_34))
theorem u45_35:type_of% (@swc _ _ c45_35.eq_1):=@swc _ _ c45_35.eq_1
def c45_36:SC:=(.seq (.reg [SO.mk (some 137) (.move (.tmp 19)) none,SO.mk (some 138) (.move (.tmp 20)) none,SO.mk (some 139) (.bin .geq 3 (.tmp 137) (.tmp 138)) none,SO.mk (some 10) (.move (.tmp 139)) none]) (.keep [2,16,10,11,1,0,3,4] c45_35))
theorem u45_36:type_of% (@swc _ _ c45_36.eq_1):=@swc _ _ c45_36.eq_1
def c45_37:SC:=(.cond (.tmp 125) c45_32 c45_36)
theorem u45_37:type_of% (@swc _ _ c45_37.eq_1):=@swc _ _ c45_37.eq_1
def c45_38:SC:=(.seq (.reg [SO.mk (some 123) (.move (.tmp 18)) none,SO.mk (some 124) (.move (.tmp 19)) none,SO.mk (some 125) (.bin .lss 3 (.tmp 123) (.tmp 124)) none]) (.keep [125,18,19,20,2,16,11,1,0,3,4] c45_37))
theorem u45_38:type_of% (@swc _ _ c45_38.eq_1):=@swc _ _ c45_38.eq_1
def c45_39:SC:=(.seq (.reg [SO.mk (some 121) (.move (.tmp 12)) none,SO.mk (some 122) (.bin .quo 3 (.tmp 121) (.const (Value.int .i64 8))) none,SO.mk (some 20) (.move (.tmp 122)) none]) (.keep [18,19,20,2,16,11,1,0,3,4] c45_38))
theorem u45_39:type_of% (@swc _ _ c45_39.eq_1):=@swc _ _ c45_39.eq_1
def c45_40:SC:=(.seq (.reg ((SO.mk (some 115) (.move (.tmp 16)) none) :: (SO.mk (some 116) (.move (.tmp 1)) none) :: (SO.mk (some 117) (.bin .sub 3 (.tmp 115) (.tmp 116)) none) :: (SO.mk (some 118) (.move (.tmp 2)) none) :: o45_28)) (.keep [12,18,19,2,16,11,1,0,3,4] c45_39))
theorem u45_40:type_of% (@swc _ _ c45_40.eq_1):=@swc _ _ c45_40.eq_1
def c45_41:SC:=(.seq (.reg [SO.mk (some 114) (.move (.tmp 17)) none,SO.mk (some 11) (.move (.tmp 114)) none]) (.keep [12,2,16,11,1,0,3,4] c45_40))
theorem u45_41:type_of% (@swc _ _ c45_41.eq_1):=@swc _ _ c45_41.eq_1
def c45_42:SC:=(.seq (.reg ((SO.mk (some 106) (.move (.tmp 0)) none) :: (SO.mk (some 107) (.move (.tmp 1)) none) :: (SO.mk (some 108) (.move (.tmp 2)) none) :: (SO.mk (some 109) (.move (.tmp 13)) none) :: o45_27)) (.keep [17,12,2,16,1,0,3,4] c45_41))
theorem u45_42:type_of% (@swc _ _ c45_42.eq_1):=@swc _ _ c45_42.eq_1
def c45_43:SC:=(.seq (.seq (.dreg false o45_21 [SO.mk (some 94) (.callv (.tmp 84) [(.tmp 89),(.tmp 93)]) (some (83 ,true)),SO.mk (some 95) (.bin .lss 3 (.tmp 94) (.const (Value.int .i64 0))) (some (83 ,true)),SO.mk (some 96) (.un .not (.tmp 95)) (some (83 ,true)),SO.mk (some 97) (.pick (.tmp 83) (.tmp 96) (.const (Value.bool false))) none]) (.keep [97,11,10,13,12,2,1,0,3,4] c45_25)) (.keep [13,12,2,1,0,3,4] c45_42))
theorem u45_43:type_of% (@swc _ _ c45_43.eq_1):=@swc _ _ c45_43.eq_1
def c45_44:SC:=(.seq (.seq (.reg ((SO.mk (some 68) (.move (.tmp 10)) none) :: (SO.mk (some 69) (.move (.tmp 68)) none) :: (SO.mk (some 70) (.move (.tmp 11)) (some (69 ,true))) :: (SO.mk (some 71) (.pick (.tmp 69) (.tmp 70) (.const (Value.bool false))) none) :: o45_14)) (.keep [75,11,10,13,12,2,1,0,3,4] c45_17)) (.keep [11,10,13,12,2,1,0,3,4] c45_43))
theorem u45_44:type_of% (@swc _ _ c45_44.eq_1):=@swc _ _ c45_44.eq_1
def c45_45:SC:=(.seq (.seq (.reg [SO.mk (some 55) (.move (.tmp 14)) none,SO.mk (some 56) (.bin .eql 102 (.tmp 55) (.const (Value.int .i64 2))) none]) (.keep [56,14,11,10,13,12,2,1,0,3,4] c45_13)) (.keep [14,11,10,13,12,2,1,0,3,4] c45_44))
theorem u45_45:type_of% (@swc _ _ c45_45.eq_1):=@swc _ _ c45_45.eq_1
def c45_46:SC:=(.seq (.reg ((SO.mk (some 48) (.move (.tmp 0)) none) :: (SO.mk (some 49) (.move (.tmp 1)) none) :: (SO.mk (some 50) (.move (.tmp 2)) none) :: (SO.mk (some 51) (.move (.tmp 4)) none) :: o45_9)) (.keep [14,11,10,13,12,2,1,0,3,4] c45_45))
theorem u45_46:type_of% (@swc _ _ c45_46.eq_1):=@swc _ _ c45_46.eq_1
def c45_47:SC:=(.seq (.seq (.reg [SO.mk (some 38) (.move (.tmp 10)) none,SO.mk (some 39) (.un .not (.tmp 38)) none]) (.keep [39,11,10,12,2,1,0,3,4] c45_7)) (.keep [11,10,12,2,1,0,3,4] c45_46))
theorem u45_47:type_of% (@swc _ _ c45_47.eq_1):=@swc _ _ c45_47.eq_1
def c45_48:SC:=(.seq (.seq (.reg [SO.mk (some 31) (.move (.tmp 3)) none,SO.mk (some 32) (.bin .eql 3 (.tmp 31) (.const (Value.int .i64 0))) none]) (.keep [32,11,10,12,2,1,0,3,4] c45_4)) (.keep [11,10,12,2,1,0,3,4] c45_47))
theorem u45_48:type_of% (@swc _ _ c45_48.eq_1):=@swc _ _ c45_48.eq_1
def c45_49:SC:=(.seq (.seq (.reg [SO.mk (some 24) (.move (.tmp 12)) none,SO.mk (some 25) (.bin .leq 3 (.tmp 24) (.const (Value.int .i64 12))) none]) (.keep [25,11,10,12,2,1,0,3,4] c45_2)) (.keep [11,10,12,2,1,0,3,4] c45_48))
theorem u45_49:type_of% (@swc _ _ c45_49.eq_1):=@swc _ _ c45_49.eq_1
def c45_50:SC:=(.block 1 (.seq (.reg [SO.mk (some 21) (.move (.tmp 2)) none,SO.mk (some 22) (.move (.tmp 1)) none,SO.mk (some 23) (.bin .sub 3 (.tmp 21) (.tmp 22)) none,SO.mk (some 12) (.move (.tmp 23)) none]) (.keep [11,10,12,2,1,0,3,4] c45_49)))
theorem u45_50:type_of% (@swc _ _ c45_50.eq_1):=@swc _ _ c45_50.eq_1
def c45_51:SC:=(.block 0 (.loop (.keep [11,10,2,1,0,3,4] c45_50)))
theorem u45_51:type_of% (@swc _ _ c45_51.eq_1):=@swc _ _ c45_51.eq_1
def c45_52:SC:=(.seq (.reg [SO.mk (some 11) (.move (.const (Value.bool true))) none]) (.keep [11,10,2,1,0,3,4] c45_51))
theorem u45_52:type_of% (@swc _ _ c45_52.eq_1):=@swc _ _ c45_52.eq_1
def c45:SC:=(.seq (.reg [SO.mk (some 10) (.move (.const (Value.bool true))) none]) (.keep [10,2,1,0,3,4] c45_52))
theorem c45_eq:annC Try.f45 = some c45:=by kernel_rfl
theorem r45:Try.f45.results.toList = []:=by kernel_rfl
theorem e45:enters Try.prog 45 = true:=by kernel_rfl
def o26_1:List SO:=((SO.mk (some 11) (.call 46 [(.tmp 10)]) none) :: (SO.mk (some 12) (.move (.tmp 1)) none) :: (SO.mk (some 13) (.call 45 [(.tmp 7),(.const (Value.int .i64 0)),(.tmp 8),(.tmp 11),(.tmp 12)]) none) :: [])
theorem v26_1:type_of% (@swl _ _ o26_1.eq_1):=@swl _ _ o26_1.eq_1
def c26_2:SC:=(.reg ((SO.mk (some 7) (.move (.tmp 0)) none) :: (SO.mk (some 8) (.move (.tmp 4)) none) :: (SO.mk (some 9) (.move (.tmp 4)) none) :: (SO.mk (some 10) (.conv 3 77 (.tmp 9)) none) :: o26_1))
theorem u26_2:type_of% (@swc _ _ c26_2.eq_1):=@swc _ _ c26_2.eq_1
def c26:SC:=(.seq (.reg [SO.mk (some 5) (.move (.tmp 0)) none,SO.mk (some 6) (.len 23 (.tmp 5)) none,SO.mk (some 4) (.move (.tmp 6)) none]) (.keep [0,4,1] c26_2))
theorem c26_eq:annC Try.f26 = some c26:=by kernel_rfl
theorem r26:Try.f26.results.toList = []:=by kernel_rfl
theorem e26:enters Try.prog 26 = true:=by kernel_rfl
end Go.Proofs.Ytikgiadbkjmabaa
namespace Go.Proofs.Ytikgiadbkjmabaa
open Go.RowKit
set_option maxHeartbeats 4000000
set_option maxRecDepth 20000
attribute [local irreducible] SW OSW SWL SWLn SWD SEcall SEcallv SDv SE SO1 SOg ACalls ACallv Wk EndV
set_option linter.unusedSimpArgs false
set_option linter.unusedVariables false
theorem len0_p:Pure Try.prog 46 [.d (.v (.int .u64 0))] (I 0):=by
  unfold Pure
  intro B σ
  unfold ACalls
  intro xs w ⟨K0,hK0⟩
  have hxs:xs = [.int .u64 0]:=by
    obtain ⟨_,_,h3,h4⟩:=hK0
    match xs,h3,h4 with
    | [x],h3,h4 =>
      have e1:=h4 0 _ x rfl rfl
      cases e1 with | d e1=>cases e1 with | v _=>rfl
  subst hxs
  have h:=Any.bits_Len (SlLaysF0.n15.bits (P:=Try.prog) (ρ:=Try.sortV_ren) { Try.sortV with }) (0:Int) w (by omega) (by omega)
  change Calls Try.prog 46 _ _ _ at h
  refine h.mono ?_
  rintro e w' ⟨rfl,rfl⟩
  exact ⟨_,_,σ,rfl,⟨rfl,rfl⟩,fun K hK=>⟨K,Ext.refl _ _ _ _ _,hK.1,.d (.v rfl)⟩⟩
theorem e46:enters Try.prog 46 = true:=by kernel_rfl
theorem ins0_own (m:Nat) (g:FuncId) (B:Nat) (σ:Sto) (hm:m < B):ACalls Try.prog 68 [.os m 0,I 0,I 0,.clo (.func g) [] []] σ B [] (fun v' σ'=>v' = .tup [] ∧ σ' = σ):=by
  refine own_of follows Try.func68 c68_eq r68 (Nat.le_of_ble_eq_true rfl) fun hcl hsz=>?_
  clear hsz
  have y1:=nbF hm
  have y4:=nbF' hm
  have w1:IntKind.i64.wrap (0 + 1) = 1:=by decide
  repeat' (first | (simp -implicitDefEqProofs only [*,Nat.reduceBEq,↓reduceIte,Nat.reduceEqDiff,Nat.reduceAdd,reduceCtorEq,Int.reduceLT,Int.reduceToNat,List.getElem?_nil,Nat.reduceMul,Nat.reducePow,Nat.reduceLeDiff,rowOf_mapD,rowOf_mapI,rowOf_mapA,List.getElem?_cons_zero,List.getElem?_cons_succ,take_map_len,take_map_app,List.getElem?_cons_zero,c68,r68,u68_1,v68_2,v68_3,v68_4,v68_5,m68_5,u68_6,v68_7,v68_8,v68_9,v68_10,m68_10,u68_11,u68_12,u68_13,u68_14,u68_15,u68_16,u68_17,u68_18,ty3,ty23,ty41,y1,y4,mvcgen_simp]) | (with_reducible refine And.intro ?_ ?_) | (refine loop_nat (0) (fun _=>True) (fun k=>[(0,.os m 0),(3,.clo (.func g) [] []),(1,I 0),(2,I 0),(8,I 1)]) (fun k=>[]) ?_ (Wk.keep hcl ?_ ?_ ?_) fun k hk hF=>?_;rotate_left 1;(focus (simp [Fr.get,newF,Fr.map,AV.kill,AV.mapN,y1,y4]<;>fail));(focus (simp [sto,newL,Loc.kill,Loc.set,AO.kill,AV.kill,AV.mapN,y1,y4]<;>fail));(focus (simp [newL,Loc.kill,Loc.set,y1,y4]<;>fail));(try have hw:IntKind.i64.wrap ((k:Int) + 1) = (k:Int) + 1:=IntWalk.i64_in _ (by omega))) | (refine EndX.plain ?_) | (refine nil_split (fun hn=>?_) (fun hn=>?_)) | (refine gcall_no not_false ?_) | (refine gdcall_no not_false ?_) | (refine GuardS_of _ _ _ _ _ _ (fun hg=>?_) (fun hg=>?_)) | (refine GuardD_of _ _ _ _ (fun hg=>?_) (fun hg=>?_)) | (refine CondB_of _ _ _ _ _ _ _ ?_ (fun hg=>?_) (fun hg=>?_)))
  all_goals (try (first | ((first | unfold noN | unfold Fr.below | unfold Loc.below);simp [Fr.allN,AV.allN,AV.allNL,AO.allN];done) | rfl | trivial | assumption | (intro row hrow;simp only [List.mem_map] at hrow;obtain ⟨x,_,rfl⟩:=hrow;rfl) | (refine Wk.keep hcl ?_ ?_ ?_;(focus (simp [Fr.get,y1,y4]<;>fail));(focus (simp [sto,y1,y4]<;>fail));(focus (simp<;>fail))) | (simp [allP,opd,Fr.get,Fr.below,Fr.allN,AV.allN,AV.allNL,Loc.below,AO.allN,noN,killO,killT,killD,mkNames,AO.kill,AV.kill,AV.mapN,AV.mapNL];done) | (with_reducible exact ltD (by assumption)) | omega | (simp only [decide_eq_true_eq,decide_eq_false_iff_not] at *;omega)))
theorem pdq0_own (m:Nat) (g:FuncId) (B:Nat) (σ:Sto) (hm:m < B):ACalls Try.prog 45 [.os m 0,I 0,I 0,I 0,.clo (.func g) [] []] σ B [] (fun v' σ'=>v' = .tup [] ∧ σ' = σ):=by
  refine own_of follows Try.func45 c45_eq r45 (Nat.le_of_ble_eq_true rfl) fun hcl hsz=>?_
  clear hsz
  have y1:=nbF hm
  have y4:=nbF' hm
  have g1:decide (m < B + 100000) = true:=by simp;omega
  repeat' (first | (simp -implicitDefEqProofs only [*,Nat.reduceBEq,↓reduceIte,Nat.reduceEqDiff,Nat.reduceAdd,reduceCtorEq,Int.reduceLT,Int.reduceToNat,List.getElem?_nil,Nat.reduceMul,Nat.reducePow,Nat.reduceLeDiff,rowOf_mapD,rowOf_mapI,rowOf_mapA,List.getElem?_cons_zero,List.getElem?_cons_succ,take_map_len,take_map_app,List.getElem?_cons_zero,c45,r45,u45_1,u45_2,u45_3,u45_4,u45_5,u45_6,u45_7,v45_8,v45_9,v45_10,u45_11,u45_12,u45_13,v45_14,u45_15,u45_16,u45_17,v45_18,v45_19,v45_20,v45_21,m45_21,v45_22,u45_23,u45_24,u45_25,v45_26,v45_27,v45_28,v45_29,u45_30,u45_31,u45_32,v45_33,u45_34,u45_35,u45_36,u45_37,u45_38,u45_39,u45_40,u45_41,u45_42,u45_43,u45_44,u45_45,u45_46,u45_47,u45_48,u45_49,u45_50,u45_51,u45_52,ty3,ty102,ty23,ty41,y1,y4,mvcgen_simp]) | (with_reducible refine And.intro ?_ ?_) | (refine call_own [] [] e68 (ins0_own m g (B + 100000) _ (by omega)) rfl ?_ ?_ ?_ ?_ ?_) | (refine loop_nat (0) (fun _=>True) (fun k=>[(11,Bo true),(10,Bo true),(2,I 0),(1,I 0),(0,.os m 0),(3,I 0),(4,.clo (.func g) [] [])]) (fun k=>[]) ?_ (Wk.keep hcl ?_ ?_ ?_) fun k hk hF=>?_;rotate_left 1;(focus (simp [Fr.get,newF,Fr.map,AV.kill,AV.mapN,y1,y4]<;>fail));(focus (simp [sto,newL,Loc.kill,Loc.set,AO.kill,AV.kill,AV.mapN,y1,y4]<;>fail));(focus (simp [newL,Loc.kill,Loc.set,y1,y4]<;>fail));(try have hw:IntKind.i64.wrap ((k:Int) + 1) = (k:Int) + 1:=IntWalk.i64_in _ (by omega))) | (refine EndX.plain ?_) | (refine nil_split (fun hn=>?_) (fun hn=>?_)) | (refine gcall_no not_false ?_) | (refine gdcall_no not_false ?_) | (refine GuardS_of _ _ _ _ _ _ (fun hg=>?_) (fun hg=>?_)) | (refine GuardD_of _ _ _ _ (fun hg=>?_) (fun hg=>?_)) | (refine CondB_of _ _ _ _ _ _ _ ?_ (fun hg=>?_) (fun hg=>?_)))
  all_goals (try (first | ((first | unfold noN | unfold Fr.below | unfold Loc.below);simp [Fr.allN,AV.allN,AV.allNL,AO.allN];done) | rfl | trivial | assumption | (intro row hrow;simp only [List.mem_map] at hrow;obtain ⟨x,_,rfl⟩:=hrow;rfl) | (refine Wk.keep hcl ?_ ?_ ?_;(focus (simp [Fr.get,y1,y4]<;>fail));(focus (simp [sto,y1,y4]<;>fail));(focus (simp<;>fail))) | (simp [allP,opd,Fr.get,Fr.below,Fr.allN,AV.allN,AV.allNL,Loc.below,AO.allN,noN,killO,killT,killD,mkNames,AO.kill,AV.kill,AV.mapN,AV.mapNL];done) | (with_reducible exact ltD (by assumption)) | omega | (simp only [decide_eq_true_eq,decide_eq_false_iff_not] at *;omega)))
  all_goals (try (simp [Fr.below,Fr.allN,AV.allN,AV.allNL,Loc.below,AO.allN,g1];done))
theorem sort0_own (m:Nat) (g:FuncId) (B:Nat) (σ:Sto) (hm:m < B) (ho:σ m = .arr 12 41 []):ACalls Try.prog 26 [.os m 0,.clo (.func g) [] []] σ B [] (fun v' σ'=>v' = .tup [] ∧ σ' = σ):=by
  refine own_of follows Try.func26 c26_eq r26 (Nat.le_of_ble_eq_true rfl) fun hcl hsz=>?_
  clear hsz
  have y1:=nbF hm
  have y4:=nbF' hm
  have g1:decide (m < B + 100000) = true:=by simp;omega
  repeat' (first | (simp -implicitDefEqProofs only [*,Nat.reduceBEq,↓reduceIte,Nat.reduceEqDiff,Nat.reduceAdd,reduceCtorEq,Int.reduceLT,Int.reduceToNat,List.getElem?_nil,Nat.reduceMul,Nat.reducePow,Nat.reduceLeDiff,rowOf_mapD,rowOf_mapI,rowOf_mapA,List.getElem?_cons_zero,List.getElem?_cons_succ,take_map_len,take_map_app,List.getElem?_cons_zero,c26,r26,v26_1,u26_2,ty23,ty3,ty77,ty41,y1,y4,ho,convV,mvcgen_simp]) | (with_reducible refine And.intro ?_ ?_) | (refine call_ro e46 ( len0_p) rfl ?_ ?_ ?_ ?_) | (refine gcall_ro e46 ( len0_p) rfl ?_ ?_ ?_ ?_) | (refine dcall_ro e46 ( len0_p) rfl ?_ ?_ ?_ ?_) | (refine gdcall_ro rfl e46 ( len0_p) rfl ?_ ?_ ?_ ?_) | (refine call_own [] [] e45 (pdq0_own m g (B + 100000) _ (by omega)) rfl ?_ ?_ ?_ ?_ ?_) | (refine EndX.plain ?_) | (refine nil_split (fun hn=>?_) (fun hn=>?_)) | (refine gcall_no not_false ?_) | (refine gdcall_no not_false ?_) | (refine GuardS_of _ _ _ _ _ _ (fun hg=>?_) (fun hg=>?_)) | (refine GuardD_of _ _ _ _ (fun hg=>?_) (fun hg=>?_)) | (refine CondB_of _ _ _ _ _ _ _ ?_ (fun hg=>?_) (fun hg=>?_)))
  all_goals (try (first | ((first | unfold noN | unfold Fr.below | unfold Loc.below);simp [Fr.allN,AV.allN,AV.allNL,AO.allN];done) | rfl | trivial | assumption | (intro row hrow;simp only [List.mem_map] at hrow;obtain ⟨x,_,rfl⟩:=hrow;rfl) | (refine Wk.keep hcl ?_ ?_ ?_;(focus (simp [Fr.get,y1,y4,ho,convV]<;>fail));(focus (simp [sto,y1,y4,ho,convV]<;>fail));(focus (simp<;>fail))) | (simp [allP,opd,Fr.get,Fr.below,Fr.allN,AV.allN,AV.allNL,Loc.below,AO.allN,noN,killO,killT,killD,mkNames,AO.kill,AV.kill,AV.mapN,AV.mapNL];done) | (with_reducible exact ltD (by assumption)) | omega | (simp only [decide_eq_true_eq,decide_eq_false_iff_not] at *;omega)))
  all_goals (try (simp [Fr.below,Fr.allN,AV.allN,AV.allNL,Loc.below,AO.allN,g1];done))
end Go.Proofs.Ytikgiadbkjmabaa
