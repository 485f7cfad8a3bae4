/- The reference's StateMay,walked. UNDER WAY (does not build yet). -/
import Derived.Test.YtikgiadbkjmabaaMayH
import Derived.Test.YtikgiadbkjmabaaTypes
namespace Go.Proofs.Ytikgiadbkjmabaa
open Go.RowKit
set_option maxRecDepth 100000
def o31_1:List SO:=((SO.mk (some 53) (.bin .gtr 3 (.tmp 52) (.const (Value.int .i64 10))) (some (49 ,false))) :: (SO.mk (some 54) (.pick (.tmp 49) (.const (Value.bool true)) (.tmp 53)) none) :: [])
theorem v31_1:type_of% (@swl _ _ o31_1.eq_1):=@swl _ _ o31_1.eq_1
def o31_2:List SO:=((SO.mk (some 49) (.move (.tmp 48)) none) :: (SO.mk (some 50) (.faddr 28 (.tmp 1) 5) (some (49 ,false))) :: (SO.mk (some 51) (.load 25 (.tmp 50)) (some (49 ,false))) :: (SO.mk (some 52) (.len 25 (.tmp 51)) (some (49 ,false))) :: o31_1)
theorem v31_2:type_of% (@swl _ _ o31_2.eq_1):=@swl _ _ o31_2.eq_1
def o31_3:List SO:=((SO.mk (some 45) (.load 24 (.tmp 44)) (some (43 ,false))) :: (SO.mk (some 46) (.len 24 (.tmp 45)) (some (43 ,false))) :: (SO.mk (some 47) (.bin .gtr 3 (.tmp 46) (.const (Value.int .i64 4))) (some (43 ,false))) :: (SO.mk (some 48) (.pick (.tmp 43) (.const (Value.bool true)) (.tmp 47)) none) :: o31_2)
theorem v31_3:type_of% (@swl _ _ o31_3.eq_1):=@swl _ _ o31_3.eq_1
def o31_4:List SO:=((SO.mk (some 41) (.bin .gtr 3 (.tmp 40) (.const (Value.int .i64 40))) (some (37 ,false))) :: (SO.mk (some 42) (.pick (.tmp 37) (.const (Value.bool true)) (.tmp 41)) none) :: (SO.mk (some 43) (.move (.tmp 42)) none) :: (SO.mk (some 44) (.faddr 28 (.tmp 1) 4) (some (43 ,false))) :: o31_3)
theorem v31_4:type_of% (@swl _ _ o31_4.eq_1):=@swl _ _ o31_4.eq_1
def o31_5:List SO:=((SO.mk (some 37) (.move (.tmp 36)) none) :: (SO.mk (some 38) (.faddr 28 (.tmp 1) 3) (some (37 ,false))) :: (SO.mk (some 39) (.load 23 (.tmp 38)) (some (37 ,false))) :: (SO.mk (some 40) (.len 23 (.tmp 39)) (some (37 ,false))) :: o31_4)
theorem v31_5:type_of% (@swl _ _ o31_5.eq_1):=@swl _ _ o31_5.eq_1
def o31_6:List SO:=((SO.mk (some 33) (.load 22 (.tmp 32)) (some (31 ,false))) :: (SO.mk (some 34) (.len 22 (.tmp 33)) (some (31 ,false))) :: (SO.mk (some 35) (.bin .gtr 3 (.tmp 34) (.const (Value.int .i64 4))) (some (31 ,false))) :: (SO.mk (some 36) (.pick (.tmp 31) (.const (Value.bool true)) (.tmp 35)) none) :: o31_5)
theorem v31_6:type_of% (@swl _ _ o31_6.eq_1):=@swl _ _ o31_6.eq_1
def o31_7:List SO:=((SO.mk (some 29) (.un .not (.tmp 28)) (some (25 ,false))) :: (SO.mk (some 30) (.pick (.tmp 25) (.const (Value.bool true)) (.tmp 29)) none) :: (SO.mk (some 31) (.move (.tmp 30)) none) :: (SO.mk (some 32) (.faddr 28 (.tmp 1) 2) (some (31 ,false))) :: o31_6)
theorem v31_7:type_of% (@swl _ _ o31_7.eq_1):=@swl _ _ o31_7.eq_1
def o31_8:List SO:=((SO.mk (some 25) (.move (.tmp 24)) none) :: (SO.mk (some 26) (.faddr 28 (.tmp 1) 1) (some (25 ,false))) :: (SO.mk (some 27) (.load 3 (.tmp 26)) (some (25 ,false))) :: (SO.mk (some 28) (.call 34 [(.tmp 27),(.const (Value.int .i64 0)),(.const (Value.int .i64 1073741824))]) (some (25 ,false))) :: o31_7)
theorem v31_8:type_of% (@swl _ _ o31_8.eq_1):=@swl _ _ o31_8.eq_1
def c31_9:SC:=(.seq (.reg [SO.mk (some 2) (.move (.const (Value.bool false))) none]) (.keep [2] .ret))
theorem u31_9:type_of% (@swc _ _ c31_9.eq_1):=@swc _ _ c31_9.eq_1
def c31_10:SC:=(.cond (.tmp 54) c31_9 .skip)
theorem u31_10:type_of% (@swc _ _ c31_10.eq_1):=@swc _ _ c31_10.eq_1
def c31_11:SC:=(.cond (.tmp 59) .skip (.exit 0))
theorem u31_11:type_of% (@swc _ _ c31_11.eq_1):=@swc _ _ c31_11.eq_1
def o31_12:List SO:=((SO.mk (some 66) (.load 3 (.tmp 65)) none) :: [])
theorem v31_12:type_of% (@swd _ _ o31_12.eq_1):=@swd _ _ o31_12.eq_1
def o31_13:List SO:=((SO.mk (some 62) (.faddr 28 (.tmp 1) 6) none) :: (SO.mk (some 63) (.load 26 (.tmp 62)) none) :: (SO.mk (some 64) (.move (.tmp 3)) none) :: (SO.mk (some 65) (.iaddr 26 (.tmp 63) (.tmp 64)) none) :: o31_12)
theorem v31_13:type_of% (@swd _ _ o31_13.eq_1):=@swd _ _ o31_13.eq_1
theorem m31_13 (B:Nat):mkNames B o31_13 = []:=(rfl)
def o31_14:List SO:=((SO.mk (some 83) (.load 3 (.tmp 82)) (some (72 ,true))) :: (SO.mk (some 84) (.bin .leq 3 (.tmp 77) (.tmp 83)) (some (72 ,true))) :: (SO.mk (some 85) (.pick (.tmp 72) (.tmp 84) (.const (Value.bool false))) (some (69 ,false))) :: (SO.mk (some 86) (.pick (.tmp 69) (.const (Value.bool true)) (.tmp 85)) none) :: [])
theorem v31_14:type_of% (@swl _ _ o31_14.eq_1):=@swl _ _ o31_14.eq_1
def o31_15:List SO:=((SO.mk (some 78) (.faddr 28 (.tmp 1) 6) (some (72 ,true))) :: (SO.mk (some 79) (.load 26 (.tmp 78)) (some (72 ,true))) :: (SO.mk (some 81) (.bin .sub 3 (.tmp 80) (.const (Value.int .i64 1))) (some (72 ,true))) :: (SO.mk (some 82) (.iaddr 26 (.tmp 79) (.tmp 81)) (some (72 ,true))) :: o31_14)
theorem v31_15:type_of% (@swl _ _ o31_15.eq_1):=@swl _ _ o31_15.eq_1
def o31_16:List SO:=((SO.mk (some 73) (.faddr 28 (.tmp 1) 6) (some (72 ,true))) :: (SO.mk (some 74) (.load 26 (.tmp 73)) (some (72 ,true))) :: (SO.mk (some 76) (.iaddr 26 (.tmp 74) (.tmp 75)) (some (72 ,true))) :: (SO.mk (some 77) (.load 3 (.tmp 76)) (some (72 ,true))) :: o31_15)
theorem v31_16:type_of% (@swl _ _ o31_16.eq_1):=@swl _ _ o31_16.eq_1
def o31_17:List SO:=((SO.mk (some 71) (.bin .gtr 3 (.tmp 70) (.const (Value.int .i64 0))) (some (69 ,false))) :: (SO.mk (some 72) (.move (.tmp 71)) (some (69 ,false))) :: (SO.mk (some 75) (.move (.tmp 3)) (some (72 ,true))) :: (SO.mk (some 80) (.move (.tmp 3)) (some (72 ,true))) :: o31_16)
theorem v31_17:type_of% (@swl _ _ o31_17.eq_1):=@swl _ _ o31_17.eq_1
def c31_18:SC:=(.seq (.reg [SO.mk (some 2) (.move (.const (Value.bool false))) none]) (.keep [2] .ret))
theorem u31_18:type_of% (@swc _ _ c31_18.eq_1):=@swc _ _ c31_18.eq_1
def c31_19:SC:=(.cond (.tmp 86) c31_18 .skip)
theorem u31_19:type_of% (@swc _ _ c31_19.eq_1):=@swc _ _ c31_19.eq_1
def c31_20:SC:=(.reg [SO.mk (some 60) (.move (.tmp 3)) none,SO.mk (some 61) (.bin .add 3 (.tmp 60) (.const (Value.int .i64 1))) none,SO.mk (some 3) (.move (.tmp 61)) none])
theorem u31_20:type_of% (@swc _ _ c31_20.eq_1):=@swc _ _ c31_20.eq_1
def c31_21:SC:=(.seq (.block 1 (.seq (.dreg false o31_13 ((SO.mk (some 67) (.call 34 [(.tmp 66),(.const (Value.int .i64 0)),(.const (Value.int .i64 7))]) none) :: (SO.mk (some 68) (.un .not (.tmp 67)) none) :: (SO.mk (some 69) (.move (.tmp 68)) none) :: (SO.mk (some 70) (.move (.tmp 3)) (some (69 ,false))) :: o31_17)) (.keep [86,3,1] c31_19))) (.keep [3,1] c31_20))
theorem u31_21:type_of% (@swc _ _ c31_21.eq_1):=@swc _ _ c31_21.eq_1
def c31_22:SC:=(.seq (.seq (.reg [SO.mk (some 55) (.move (.tmp 3)) none,SO.mk (some 56) (.faddr 28 (.tmp 1) 6) none,SO.mk (some 57) (.load 26 (.tmp 56)) none,SO.mk (some 58) (.len 26 (.tmp 57)) none,SO.mk (some 59) (.bin .lss 3 (.tmp 55) (.tmp 58)) none]) (.keep [59,3,1] c31_11)) (.keep [3,1] c31_21))
theorem u31_22:type_of% (@swc _ _ c31_22.eq_1):=@swc _ _ c31_22.eq_1
def c31_23:SC:=(.block 0 (.loop (.keep [3,1] c31_22)))
theorem u31_23:type_of% (@swc _ _ c31_23.eq_1):=@swc _ _ c31_23.eq_1
def c31_24:SC:=(.cond (.tmp 91) .skip (.exit 2))
theorem u31_24:type_of% (@swc _ _ c31_24.eq_1):=@swc _ _ c31_24.eq_1
def o31_25:List SO:=((SO.mk (some 98) (.load 54 (.tmp 97)) none) :: (SO.mk (some 5) (.alloc 54) none) :: (SO.mk none (.store 54 (.tmp 5) (.tmp 98)) none) :: [])
theorem v31_25:type_of% (@swl _ _ o31_25.eq_1):=@swl _ _ o31_25.eq_1
def o31_26:List SO:=((SO.mk (some 99) (.faddr 54 (.tmp 5) 0) none) :: (SO.mk (some 100) (.load 9 (.tmp 99)) none) :: [])
theorem v31_26:type_of% (@swd _ _ o31_26.eq_1):=@swd _ _ o31_26.eq_1
theorem m31_26 (B:Nat):mkNames B o31_26 = []:=(rfl)
def o31_27:List SO:=((SO.mk (some 129) (.pick (.tmp 118) (.tmp 128) (.const (Value.bool false))) (some (115 ,false))) :: (SO.mk (some 130) (.pick (.tmp 115) (.const (Value.bool true)) (.tmp 129)) none) :: [])
theorem v31_27:type_of% (@swl _ _ o31_27.eq_1):=@swl _ _ o31_27.eq_1
def o31_28:List SO:=((SO.mk (some 125) (.iaddr 22 (.tmp 122) (.tmp 124)) (some (118 ,true))) :: (SO.mk (some 126) (.faddr 54 (.tmp 125) 0) (some (118 ,true))) :: (SO.mk (some 127) (.load 9 (.tmp 126)) (some (118 ,true))) :: (SO.mk (some 128) (.bin .leq 9 (.tmp 120) (.tmp 127)) (some (118 ,true))) :: o31_27)
theorem v31_28:type_of% (@swl _ _ o31_28.eq_1):=@swl _ _ o31_28.eq_1
def o31_29:List SO:=((SO.mk (some 120) (.load 9 (.tmp 119)) (some (118 ,true))) :: (SO.mk (some 121) (.faddr 28 (.tmp 1) 2) (some (118 ,true))) :: (SO.mk (some 122) (.load 22 (.tmp 121)) (some (118 ,true))) :: (SO.mk (some 124) (.bin .sub 3 (.tmp 123) (.const (Value.int .i64 1))) (some (118 ,true))) :: o31_28)
theorem v31_29:type_of% (@swl _ _ o31_29.eq_1):=@swl _ _ o31_29.eq_1
def o31_30:List SO:=((SO.mk (some 117) (.bin .gtr 3 (.tmp 116) (.const (Value.int .i64 0))) (some (115 ,false))) :: (SO.mk (some 118) (.move (.tmp 117)) (some (115 ,false))) :: (SO.mk (some 123) (.move (.tmp 4)) (some (118 ,true))) :: (SO.mk (some 119) (.faddr 54 (.tmp 5) 0) (some (118 ,true))) :: o31_29)
theorem v31_30:type_of% (@swl _ _ o31_30.eq_1):=@swl _ _ o31_30.eq_1
def o31_31:List SO:=((SO.mk (some 113) (.bin .neq 30 (.tmp 112) (.const (Value.int .i64 0))) (some (109 ,false))) :: (SO.mk (some 114) (.pick (.tmp 109) (.const (Value.bool true)) (.tmp 113)) none) :: (SO.mk (some 115) (.move (.tmp 114)) none) :: (SO.mk (some 116) (.move (.tmp 4)) (some (115 ,false))) :: o31_30)
theorem v31_31:type_of% (@swl _ _ o31_31.eq_1):=@swl _ _ o31_31.eq_1
def o31_32:List SO:=((SO.mk (some 109) (.move (.tmp 108)) none) :: (SO.mk (some 110) (.faddr 54 (.tmp 5) 2) (some (109 ,false))) :: (SO.mk (some 111) (.load 52 (.tmp 110)) (some (109 ,false))) :: (SO.mk (some 112) (.call 50 [(.tmp 111)]) (some (109 ,false))) :: o31_31)
theorem v31_32:type_of% (@swl _ _ o31_32.eq_1):=@swl _ _ o31_32.eq_1
def o31_33:List SO:=((SO.mk (some 105) (.load 3 (.tmp 104)) (some (103 ,false))) :: (SO.mk (some 106) (.call 34 [(.tmp 105),(.const (Value.int .i64 0)),(.const (Value.int .i64 2))]) (some (103 ,false))) :: (SO.mk (some 107) (.un .not (.tmp 106)) (some (103 ,false))) :: (SO.mk (some 108) (.pick (.tmp 103) (.const (Value.bool true)) (.tmp 107)) none) :: o31_32)
theorem v31_33:type_of% (@swl _ _ o31_33.eq_1):=@swl _ _ o31_33.eq_1
def c31_34:SC:=(.seq (.reg [SO.mk (some 2) (.move (.const (Value.bool false))) none]) (.keep [2] .ret))
theorem u31_34:type_of% (@swc _ _ c31_34.eq_1):=@swc _ _ c31_34.eq_1
def c31_35:SC:=(.cond (.tmp 130) c31_34 .skip)
theorem u31_35:type_of% (@swc _ _ c31_35.eq_1):=@swc _ _ c31_35.eq_1
def c31_36:SC:=(.seq (.dreg false o31_26 ((SO.mk (some 101) (.call 49 [(.tmp 100)]) none) :: (SO.mk (some 102) (.bin .neq 30 (.tmp 101) (.const (Value.int .i64 0))) none) :: (SO.mk (some 103) (.move (.tmp 102)) none) :: (SO.mk (some 104) (.faddr 54 (.tmp 5) 1) (some (103 ,false))) :: o31_33)) (.keep [130,4,1] c31_35))
theorem u31_36:type_of% (@swc _ _ c31_36.eq_1):=@swc _ _ c31_36.eq_1
def c31_37:SC:=(.reg [SO.mk (some 92) (.move (.tmp 4)) none,SO.mk (some 93) (.bin .add 3 (.tmp 92) (.const (Value.int .i64 1))) none,SO.mk (some 4) (.move (.tmp 93)) none])
theorem u31_37:type_of% (@swc _ _ c31_37.eq_1):=@swc _ _ c31_37.eq_1
def c31_38:SC:=(.seq (.block 3 (.seq (.reg ((SO.mk (some 94) (.faddr 28 (.tmp 1) 2) none) :: (SO.mk (some 95) (.load 22 (.tmp 94)) none) :: (SO.mk (some 96) (.move (.tmp 4)) none) :: (SO.mk (some 97) (.iaddr 22 (.tmp 95) (.tmp 96)) none) :: o31_25)) (.keep [5,4,1] c31_36))) (.keep [4,1] c31_37))
theorem u31_38:type_of% (@swc _ _ c31_38.eq_1):=@swc _ _ c31_38.eq_1
def c31_39:SC:=(.seq (.seq (.reg [SO.mk (some 87) (.move (.tmp 4)) none,SO.mk (some 88) (.faddr 28 (.tmp 1) 2) none,SO.mk (some 89) (.load 22 (.tmp 88)) none,SO.mk (some 90) (.len 22 (.tmp 89)) none,SO.mk (some 91) (.bin .lss 3 (.tmp 87) (.tmp 90)) none]) (.keep [91,4,1] c31_24)) (.keep [4,1] c31_38))
theorem u31_39:type_of% (@swc _ _ c31_39.eq_1):=@swc _ _ c31_39.eq_1
def c31_40:SC:=(.block 2 (.loop (.keep [4,1] c31_39)))
theorem u31_40:type_of% (@swc _ _ c31_40.eq_1):=@swc _ _ c31_40.eq_1
def c31_41:SC:=(.cond (.tmp 135) .skip (.exit 4))
theorem u31_41:type_of% (@swc _ _ c31_41.eq_1):=@swc _ _ c31_41.eq_1
def o31_42:List SO:=((SO.mk (some 142) (.load 41 (.tmp 141)) none) :: (SO.mk (some 7) (.alloc 41) none) :: (SO.mk none (.store 41 (.tmp 7) (.tmp 142)) none) :: [])
theorem v31_42:type_of% (@swl _ _ o31_42.eq_1):=@swl _ _ o31_42.eq_1
def o31_43:List SO:=((SO.mk (some 143) (.load 28 (.tmp 1)) none) :: (SO.mk (some 144) (.load 41 (.tmp 7)) none) :: [])
theorem v31_43:type_of% (@swd _ _ o31_43.eq_1):=@swd _ _ o31_43.eq_1
theorem m31_43 (B:Nat):mkNames B o31_43 = []:=(rfl)
def o31_44:List SO:=((SO.mk (some 161) (.pick (.tmp 150) (.tmp 160) (.const (Value.bool false))) (some (147 ,false))) :: (SO.mk (some 162) (.pick (.tmp 147) (.const (Value.bool true)) (.tmp 161)) none) :: [])
theorem v31_44:type_of% (@swl _ _ o31_44.eq_1):=@swl _ _ o31_44.eq_1
def o31_45:List SO:=((SO.mk (some 157) (.iaddr 23 (.tmp 154) (.tmp 156)) (some (150 ,true))) :: (SO.mk (some 158) (.faddr 41 (.tmp 157) 0) (some (150 ,true))) :: (SO.mk (some 159) (.load 3 (.tmp 158)) (some (150 ,true))) :: (SO.mk (some 160) (.bin .leq 3 (.tmp 152) (.tmp 159)) (some (150 ,true))) :: o31_44)
theorem v31_45:type_of% (@swl _ _ o31_45.eq_1):=@swl _ _ o31_45.eq_1
def o31_46:List SO:=((SO.mk (some 152) (.load 3 (.tmp 151)) (some (150 ,true))) :: (SO.mk (some 153) (.faddr 28 (.tmp 1) 3) (some (150 ,true))) :: (SO.mk (some 154) (.load 23 (.tmp 153)) (some (150 ,true))) :: (SO.mk (some 156) (.bin .sub 3 (.tmp 155) (.const (Value.int .i64 1))) (some (150 ,true))) :: o31_45)
theorem v31_46:type_of% (@swl _ _ o31_46.eq_1):=@swl _ _ o31_46.eq_1
def o31_47:List SO:=((SO.mk (some 149) (.bin .gtr 3 (.tmp 148) (.const (Value.int .i64 0))) (some (147 ,false))) :: (SO.mk (some 150) (.move (.tmp 149)) (some (147 ,false))) :: (SO.mk (some 155) (.move (.tmp 6)) (some (150 ,true))) :: (SO.mk (some 151) (.faddr 41 (.tmp 7) 0) (some (150 ,true))) :: o31_46)
theorem v31_47:type_of% (@swl _ _ o31_47.eq_1):=@swl _ _ o31_47.eq_1
def c31_48:SC:=(.seq (.reg [SO.mk (some 2) (.move (.const (Value.bool false))) none]) (.keep [2] .ret))
theorem u31_48:type_of% (@swc _ _ c31_48.eq_1):=@swc _ _ c31_48.eq_1
def c31_49:SC:=(.cond (.tmp 162) c31_48 .skip)
theorem u31_49:type_of% (@swc _ _ c31_49.eq_1):=@swc _ _ c31_49.eq_1
def c31_50:SC:=(.cond (.tmp 165) .skip (.exit 6))
theorem u31_50:type_of% (@swc _ _ c31_50.eq_1):=@swc _ _ c31_50.eq_1
def o31_51:List SO:=((SO.mk (some 172) (.load 41 (.tmp 171)) none) :: (SO.mk (some 9) (.alloc 41) none) :: (SO.mk none (.store 41 (.tmp 9) (.tmp 172)) none) :: [])
theorem v31_51:type_of% (@swl _ _ o31_51.eq_1):=@swl _ _ o31_51.eq_1
def o31_52:List SO:=((SO.mk (some 189) (.faddr 41 (.tmp 9) 2) (some (186 ,true))) :: (SO.mk (some 190) (.load 9 (.tmp 189)) (some (186 ,true))) :: (SO.mk (some 191) (.bin .eql 9 (.tmp 188) (.tmp 190)) (some (186 ,true))) :: (SO.mk (some 192) (.pick (.tmp 186) (.tmp 191) (.const (Value.bool false))) none) :: [])
theorem v31_52:type_of% (@swl _ _ o31_52.eq_1):=@swl _ _ o31_52.eq_1
def o31_53:List SO:=((SO.mk (some 185) (.pick (.tmp 179) (.tmp 184) (.const (Value.bool false))) none) :: (SO.mk (some 186) (.move (.tmp 185)) none) :: (SO.mk (some 187) (.faddr 41 (.tmp 7) 2) (some (186 ,true))) :: (SO.mk (some 188) (.load 9 (.tmp 187)) (some (186 ,true))) :: o31_52)
theorem v31_53:type_of% (@swl _ _ o31_53.eq_1):=@swl _ _ o31_53.eq_1
def o31_54:List SO:=((SO.mk (some 181) (.load 9 (.tmp 180)) (some (179 ,true))) :: (SO.mk (some 182) (.faddr 41 (.tmp 9) 1) (some (179 ,true))) :: (SO.mk (some 183) (.load 9 (.tmp 182)) (some (179 ,true))) :: (SO.mk (some 184) (.bin .eql 9 (.tmp 181) (.tmp 183)) (some (179 ,true))) :: o31_53)
theorem v31_54:type_of% (@swl _ _ o31_54.eq_1):=@swl _ _ o31_54.eq_1
def o31_55:List SO:=((SO.mk (some 177) (.load 4 (.tmp 176)) (some (175 ,true))) :: (SO.mk (some 178) (.pick (.tmp 175) (.tmp 177) (.const (Value.bool false))) none) :: (SO.mk (some 179) (.move (.tmp 178)) none) :: (SO.mk (some 180) (.faddr 41 (.tmp 7) 1) (some (179 ,true))) :: o31_54)
theorem v31_55:type_of% (@swl _ _ o31_55.eq_1):=@swl _ _ o31_55.eq_1
def c31_56:SC:=(.seq (.reg [SO.mk (some 2) (.move (.const (Value.bool false))) none]) (.keep [2] .ret))
theorem u31_56:type_of% (@swc _ _ c31_56.eq_1):=@swc _ _ c31_56.eq_1
def c31_57:SC:=(.cond (.tmp 192) c31_56 .skip)
theorem u31_57:type_of% (@swc _ _ c31_57.eq_1):=@swc _ _ c31_57.eq_1
def c31_58:SC:=(.seq (.reg ((SO.mk (some 173) (.faddr 41 (.tmp 7) 3) none) :: (SO.mk (some 174) (.load 4 (.tmp 173)) none) :: (SO.mk (some 175) (.move (.tmp 174)) none) :: (SO.mk (some 176) (.faddr 41 (.tmp 9) 3) (some (175 ,true))) :: o31_55)) (.keep [192,8,7,6,1] c31_57))
theorem u31_58:type_of% (@swc _ _ c31_58.eq_1):=@swc _ _ c31_58.eq_1
def c31_59:SC:=(.reg [SO.mk (some 166) (.move (.tmp 8)) none,SO.mk (some 167) (.bin .add 3 (.tmp 166) (.const (Value.int .i64 1))) none,SO.mk (some 8) (.move (.tmp 167)) none])
theorem u31_59:type_of% (@swc _ _ c31_59.eq_1):=@swc _ _ c31_59.eq_1
def c31_60:SC:=(.seq (.block 7 (.seq (.reg ((SO.mk (some 168) (.faddr 28 (.tmp 1) 3) none) :: (SO.mk (some 169) (.load 23 (.tmp 168)) none) :: (SO.mk (some 170) (.move (.tmp 8)) none) :: (SO.mk (some 171) (.iaddr 23 (.tmp 169) (.tmp 170)) none) :: o31_51)) (.keep [9,8,7,6,1] c31_58))) (.keep [8,7,6,1] c31_59))
theorem u31_60:type_of% (@swc _ _ c31_60.eq_1):=@swc _ _ c31_60.eq_1
def c31_61:SC:=(.seq (.seq (.reg [SO.mk (some 163) (.move (.tmp 8)) none,SO.mk (some 164) (.move (.tmp 6)) none,SO.mk (some 165) (.bin .lss 3 (.tmp 163) (.tmp 164)) none]) (.keep [165,7,8,6,1] c31_50)) (.keep [8,7,6,1] c31_60))
theorem u31_61:type_of% (@swc _ _ c31_61.eq_1):=@swc _ _ c31_61.eq_1
def c31_62:SC:=(.block 6 (.loop (.keep [7,8,6,1] c31_61)))
theorem u31_62:type_of% (@swc _ _ c31_62.eq_1):=@swc _ _ c31_62.eq_1
def c31_63:SC:=(.seq (.reg [SO.mk (some 8) (.move (.const (Value.int .i64 0))) none]) (.keep [7,8,6,1] c31_62))
theorem u31_63:type_of% (@swc _ _ c31_63.eq_1):=@swc _ _ c31_63.eq_1
def c31_64:SC:=(.seq (.seq (.dreg false o31_43 ((SO.mk (some 145) (.call 51 [(.tmp 143),(.tmp 144)]) none) :: (SO.mk (some 146) (.un .not (.tmp 145)) none) :: (SO.mk (some 147) (.move (.tmp 146)) none) :: (SO.mk (some 148) (.move (.tmp 6)) (some (147 ,false))) :: o31_47)) (.keep [162,7,6,1] c31_49)) (.keep [7,6,1] c31_63))
theorem u31_64:type_of% (@swc _ _ c31_64.eq_1):=@swc _ _ c31_64.eq_1
def c31_65:SC:=(.reg [SO.mk (some 136) (.move (.tmp 6)) none,SO.mk (some 137) (.bin .add 3 (.tmp 136) (.const (Value.int .i64 1))) none,SO.mk (some 6) (.move (.tmp 137)) none])
theorem u31_65:type_of% (@swc _ _ c31_65.eq_1):=@swc _ _ c31_65.eq_1
def c31_66:SC:=(.seq (.block 5 (.seq (.reg ((SO.mk (some 138) (.faddr 28 (.tmp 1) 3) none) :: (SO.mk (some 139) (.load 23 (.tmp 138)) none) :: (SO.mk (some 140) (.move (.tmp 6)) none) :: (SO.mk (some 141) (.iaddr 23 (.tmp 139) (.tmp 140)) none) :: o31_42)) (.keep [7,6,1] c31_64))) (.keep [6,1] c31_65))
theorem u31_66:type_of% (@swc _ _ c31_66.eq_1):=@swc _ _ c31_66.eq_1
def c31_67:SC:=(.seq (.seq (.reg [SO.mk (some 131) (.move (.tmp 6)) none,SO.mk (some 132) (.faddr 28 (.tmp 1) 3) none,SO.mk (some 133) (.load 23 (.tmp 132)) none,SO.mk (some 134) (.len 23 (.tmp 133)) none,SO.mk (some 135) (.bin .lss 3 (.tmp 131) (.tmp 134)) none]) (.keep [135,6,1] c31_41)) (.keep [6,1] c31_66))
theorem u31_67:type_of% (@swc _ _ c31_67.eq_1):=@swc _ _ c31_67.eq_1
def c31_68:SC:=(.block 4 (.loop (.keep [6,1] c31_67)))
theorem u31_68:type_of% (@swc _ _ c31_68.eq_1):=@swc _ _ c31_68.eq_1
def c31_69:SC:=(.cond (.tmp 197) .skip (.exit 8))
theorem u31_69:type_of% (@swc _ _ c31_69.eq_1):=@swc _ _ c31_69.eq_1
def o31_70:List SO:=((SO.mk (some 204) (.load 83 (.tmp 203)) none) :: (SO.mk (some 11) (.alloc 83) none) :: (SO.mk none (.store 83 (.tmp 11) (.tmp 204)) none) :: [])
theorem v31_70:type_of% (@swl _ _ o31_70.eq_1):=@swl _ _ o31_70.eq_1
def o31_71:List SO:=((SO.mk (some 237) (.load 3 (.tmp 236)) (some (228 ,true))) :: (SO.mk (some 238) (.bin .leq 3 (.tmp 230) (.tmp 237)) (some (228 ,true))) :: (SO.mk (some 239) (.pick (.tmp 228) (.tmp 238) (.const (Value.bool false))) (some (225 ,false))) :: (SO.mk (some 240) (.pick (.tmp 225) (.const (Value.bool true)) (.tmp 239)) none) :: [])
theorem v31_71:type_of% (@swd _ _ o31_71.eq_1):=@swd _ _ o31_71.eq_1
def o31_72:List SO:=((SO.mk (some 233) (.move (.tmp 10)) (some (228 ,true))) :: (SO.mk (some 234) (.bin .sub 3 (.tmp 233) (.const (Value.int .i64 1))) (some (228 ,true))) :: (SO.mk (some 235) (.iaddr 24 (.tmp 232) (.tmp 234)) (some (228 ,true))) :: (SO.mk (some 236) (.faddr 83 (.tmp 235) 0) (some (228 ,true))) :: o31_71)
theorem v31_72:type_of% (@swd _ _ o31_72.eq_1):=@swd _ _ o31_72.eq_1
def o31_73:List SO:=((SO.mk (some 229) (.faddr 83 (.tmp 11) 0) (some (228 ,true))) :: (SO.mk (some 230) (.load 3 (.tmp 229)) (some (228 ,true))) :: (SO.mk (some 231) (.faddr 28 (.tmp 1) 4) (some (228 ,true))) :: (SO.mk (some 232) (.load 24 (.tmp 231)) (some (228 ,true))) :: o31_72)
theorem v31_73:type_of% (@swd _ _ o31_73.eq_1):=@swd _ _ o31_73.eq_1
def o31_74:List SO:=((SO.mk (some 225) (.move (.tmp 224)) none) :: (SO.mk (some 226) (.move (.tmp 10)) (some (225 ,false))) :: (SO.mk (some 227) (.bin .gtr 3 (.tmp 226) (.const (Value.int .i64 0))) (some (225 ,false))) :: (SO.mk (some 228) (.move (.tmp 227)) (some (225 ,false))) :: o31_73)
theorem v31_74:type_of% (@swd _ _ o31_74.eq_1):=@swd _ _ o31_74.eq_1
def o31_75:List SO:=((SO.mk (some 221) (.bin .sub 3 (.tmp 220) (.const (Value.int .i64 1))) (some (216 ,false))) :: (SO.mk (some 222) (.call 34 [(.tmp 218),(.const (Value.int .i64 1)),(.tmp 221)]) (some (216 ,false))) :: (SO.mk (some 223) (.un .not (.tmp 222)) (some (216 ,false))) :: (SO.mk (some 224) (.pick (.tmp 216) (.const (Value.bool true)) (.tmp 223)) none) :: o31_74)
theorem v31_75:type_of% (@swd _ _ o31_75.eq_1):=@swd _ _ o31_75.eq_1
def o31_76:List SO:=((SO.mk (some 217) (.faddr 83 (.tmp 11) 0) (some (216 ,false))) :: (SO.mk (some 218) (.load 3 (.tmp 217)) (some (216 ,false))) :: (SO.mk (some 219) (.faddr 28 (.tmp 1) 0) (some (216 ,false))) :: (SO.mk (some 220) (.load 3 (.tmp 219)) (some (216 ,false))) :: o31_75)
theorem v31_76:type_of% (@swd _ _ o31_76.eq_1):=@swd _ _ o31_76.eq_1
def o31_77:List SO:=((SO.mk (some 213) (.call 52 [(.tmp 212)]) (some (210 ,false))) :: (SO.mk (some 214) (.bin .neq 30 (.tmp 213) (.const (Value.int .i64 0))) (some (210 ,false))) :: (SO.mk (some 215) (.pick (.tmp 210) (.const (Value.bool true)) (.tmp 214)) none) :: (SO.mk (some 216) (.move (.tmp 215)) none) :: o31_76)
theorem v31_77:type_of% (@swd _ _ o31_77.eq_1):=@swd _ _ o31_77.eq_1
def o31_78:List SO:=((SO.mk (some 209) (.bin .lss 3 (.tmp 208) (.const (Value.int .i64 0))) none) :: (SO.mk (some 210) (.move (.tmp 209)) none) :: (SO.mk (some 211) (.faddr 83 (.tmp 11) 2) (some (210 ,false))) :: (SO.mk (some 212) (.load 9 (.tmp 211)) (some (210 ,false))) :: o31_77)
theorem v31_78:type_of% (@swd _ _ o31_78.eq_1):=@swd _ _ o31_78.eq_1
def o31_79:List SO:=((SO.mk (some 205) (.load 28 (.tmp 1)) none) :: (SO.mk (some 206) (.faddr 83 (.tmp 11) 1) none) :: (SO.mk (some 207) (.load 9 (.tmp 206)) none) :: (SO.mk (some 208) (.call 32 [(.tmp 205),(.tmp 207)]) none) :: o31_78)
theorem v31_79:type_of% (@swd _ _ o31_79.eq_1):=@swd _ _ o31_79.eq_1
theorem m31_79 (B:Nat):mkNames B o31_79 = []:=(rfl)
def c31_80:SC:=(.seq (.reg [SO.mk (some 2) (.move (.const (Value.bool false))) none]) (.keep [2] .ret))
theorem u31_80:type_of% (@swc _ _ c31_80.eq_1):=@swc _ _ c31_80.eq_1
def c31_81:SC:=(.cond (.tmp 240) c31_80 .skip)
theorem u31_81:type_of% (@swc _ _ c31_81.eq_1):=@swc _ _ c31_81.eq_1
def c31_82:SC:=(.cond (.tmp 245) .skip (.exit 10))
theorem u31_82:type_of% (@swc _ _ c31_82.eq_1):=@swc _ _ c31_82.eq_1
def o31_83:List SO:=((SO.mk (some 252) (.load 85 (.tmp 251)) none) :: (SO.mk (some 13) (.alloc 85) none) :: (SO.mk none (.store 85 (.tmp 13) (.tmp 252)) none) :: [])
theorem v31_83:type_of% (@swl _ _ o31_83.eq_1):=@swl _ _ o31_83.eq_1
def o31_84:List SO:=((SO.mk (some 285) (.bin .leq 3 (.tmp 277) (.tmp 284)) (some (275 ,true))) :: (SO.mk (some 286) (.pick (.tmp 275) (.tmp 285) (.const (Value.bool false))) (some (272 ,false))) :: (SO.mk (some 287) (.pick (.tmp 272) (.const (Value.bool true)) (.tmp 286)) none) :: [])
theorem v31_84:type_of% (@swd _ _ o31_84.eq_1):=@swd _ _ o31_84.eq_1
def o31_85:List SO:=((SO.mk (some 281) (.bin .sub 3 (.tmp 280) (.const (Value.int .i64 1))) (some (275 ,true))) :: (SO.mk (some 282) (.iaddr 81 (.tmp 279) (.tmp 281)) (some (275 ,true))) :: (SO.mk (some 283) (.faddr 85 (.tmp 282) 0) (some (275 ,true))) :: (SO.mk (some 284) (.load 3 (.tmp 283)) (some (275 ,true))) :: o31_84)
theorem v31_85:type_of% (@swd _ _ o31_85.eq_1):=@swd _ _ o31_85.eq_1
def o31_86:List SO:=((SO.mk (some 277) (.load 3 (.tmp 276)) (some (275 ,true))) :: (SO.mk (some 278) (.faddr 83 (.tmp 11) 3) (some (275 ,true))) :: (SO.mk (some 279) (.load 81 (.tmp 278)) (some (275 ,true))) :: (SO.mk (some 280) (.move (.tmp 12)) (some (275 ,true))) :: o31_85)
theorem v31_86:type_of% (@swd _ _ o31_86.eq_1):=@swd _ _ o31_86.eq_1
def o31_87:List SO:=((SO.mk (some 273) (.move (.tmp 12)) (some (272 ,false))) :: (SO.mk (some 274) (.bin .gtr 3 (.tmp 273) (.const (Value.int .i64 0))) (some (272 ,false))) :: (SO.mk (some 275) (.move (.tmp 274)) (some (272 ,false))) :: (SO.mk (some 276) (.faddr 85 (.tmp 13) 0) (some (275 ,true))) :: o31_86)
theorem v31_87:type_of% (@swd _ _ o31_87.eq_1):=@swd _ _ o31_87.eq_1
def o31_88:List SO:=((SO.mk (some 269) (.call 53 [(.tmp 268),(.const (Value.int .i64 64))]) (some (263 ,false))) :: (SO.mk (some 270) (.bin .neq 3 (.tmp 266) (.tmp 269)) (some (263 ,false))) :: (SO.mk (some 271) (.pick (.tmp 263) (.const (Value.bool true)) (.tmp 270)) none) :: (SO.mk (some 272) (.move (.tmp 271)) none) :: o31_87)
theorem v31_88:type_of% (@swd _ _ o31_88.eq_1):=@swd _ _ o31_88.eq_1
def o31_89:List SO:=((SO.mk (some 265) (.load 26 (.tmp 264)) (some (263 ,false))) :: (SO.mk (some 266) (.len 26 (.tmp 265)) (some (263 ,false))) :: (SO.mk (some 267) (.faddr 85 (.tmp 13) 1) (some (263 ,false))) :: (SO.mk (some 268) (.load 3 (.tmp 267)) (some (263 ,false))) :: o31_88)
theorem v31_89:type_of% (@swd _ _ o31_89.eq_1):=@swd _ _ o31_89.eq_1
def o31_90:List SO:=((SO.mk (some 261) (.un .not (.tmp 260)) (some (257 ,false))) :: (SO.mk (some 262) (.pick (.tmp 257) (.const (Value.bool true)) (.tmp 261)) none) :: (SO.mk (some 263) (.move (.tmp 262)) none) :: (SO.mk (some 264) (.faddr 85 (.tmp 13) 2) (some (263 ,false))) :: o31_89)
theorem v31_90:type_of% (@swd _ _ o31_90.eq_1):=@swd _ _ o31_90.eq_1
def o31_91:List SO:=((SO.mk (some 257) (.move (.tmp 256)) none) :: (SO.mk (some 258) (.faddr 85 (.tmp 13) 1) (some (257 ,false))) :: (SO.mk (some 259) (.load 3 (.tmp 258)) (some (257 ,false))) :: (SO.mk (some 260) (.call 34 [(.tmp 259),(.const (Value.int .i64 0)),(.const (Value.int .i64 600))]) (some (257 ,false))) :: o31_90)
theorem v31_91:type_of% (@swd _ _ o31_91.eq_1):=@swd _ _ o31_91.eq_1
def o31_92:List SO:=((SO.mk (some 253) (.faddr 85 (.tmp 13) 0) none) :: (SO.mk (some 254) (.load 3 (.tmp 253)) none) :: (SO.mk (some 255) (.call 34 [(.tmp 254),(.const (Value.int .i64 1)),(.const (Value.int .i64 5))]) none) :: (SO.mk (some 256) (.un .not (.tmp 255)) none) :: o31_91)
theorem v31_92:type_of% (@swd _ _ o31_92.eq_1):=@swd _ _ o31_92.eq_1
theorem m31_92 (B:Nat):mkNames B o31_92 = []:=(rfl)
def c31_93:SC:=(.seq (.reg [SO.mk (some 2) (.move (.const (Value.bool false))) none]) (.keep [2] .ret))
theorem u31_93:type_of% (@swc _ _ c31_93.eq_1):=@swc _ _ c31_93.eq_1
def c31_94:SC:=(.cond (.tmp 287) c31_93 .skip)
theorem u31_94:type_of% (@swc _ _ c31_94.eq_1):=@swc _ _ c31_94.eq_1
def c31_95:SC:=(.seq (.dreg false o31_92 []) (.keep [287,12,11,10,1] c31_94))
theorem u31_95:type_of% (@swc _ _ c31_95.eq_1):=@swc _ _ c31_95.eq_1
def c31_96:SC:=(.reg [SO.mk (some 246) (.move (.tmp 12)) none,SO.mk (some 247) (.bin .add 3 (.tmp 246) (.const (Value.int .i64 1))) none,SO.mk (some 12) (.move (.tmp 247)) none])
theorem u31_96:type_of% (@swc _ _ c31_96.eq_1):=@swc _ _ c31_96.eq_1
def c31_97:SC:=(.seq (.block 11 (.seq (.reg ((SO.mk (some 248) (.faddr 83 (.tmp 11) 3) none) :: (SO.mk (some 249) (.load 81 (.tmp 248)) none) :: (SO.mk (some 250) (.move (.tmp 12)) none) :: (SO.mk (some 251) (.iaddr 81 (.tmp 249) (.tmp 250)) none) :: o31_83)) (.keep [13,12,11,10,1] c31_95))) (.keep [12,11,10,1] c31_96))
theorem u31_97:type_of% (@swc _ _ c31_97.eq_1):=@swc _ _ c31_97.eq_1
def c31_98:SC:=(.seq (.seq (.reg [SO.mk (some 241) (.move (.tmp 12)) none,SO.mk (some 242) (.faddr 83 (.tmp 11) 3) none,SO.mk (some 243) (.load 81 (.tmp 242)) none,SO.mk (some 244) (.len 81 (.tmp 243)) none,SO.mk (some 245) (.bin .lss 3 (.tmp 241) (.tmp 244)) none]) (.keep [245,11,12,10,1] c31_82)) (.keep [12,11,10,1] c31_97))
theorem u31_98:type_of% (@swc _ _ c31_98.eq_1):=@swc _ _ c31_98.eq_1
def c31_99:SC:=(.block 10 (.loop (.keep [11,12,10,1] c31_98)))
theorem u31_99:type_of% (@swc _ _ c31_99.eq_1):=@swc _ _ c31_99.eq_1
def c31_100:SC:=(.seq (.reg [SO.mk (some 12) (.move (.const (Value.int .i64 0))) none]) (.keep [11,12,10,1] c31_99))
theorem u31_100:type_of% (@swc _ _ c31_100.eq_1):=@swc _ _ c31_100.eq_1
def c31_101:SC:=(.seq (.seq (.dreg false o31_79 []) (.keep [240,11,10,1] c31_81)) (.keep [11,10,1] c31_100))
theorem u31_101:type_of% (@swc _ _ c31_101.eq_1):=@swc _ _ c31_101.eq_1
def c31_102:SC:=(.reg [SO.mk (some 198) (.move (.tmp 10)) none,SO.mk (some 199) (.bin .add 3 (.tmp 198) (.const (Value.int .i64 1))) none,SO.mk (some 10) (.move (.tmp 199)) none])
theorem u31_102:type_of% (@swc _ _ c31_102.eq_1):=@swc _ _ c31_102.eq_1
def c31_103:SC:=(.seq (.block 9 (.seq (.reg ((SO.mk (some 200) (.faddr 28 (.tmp 1) 4) none) :: (SO.mk (some 201) (.load 24 (.tmp 200)) none) :: (SO.mk (some 202) (.move (.tmp 10)) none) :: (SO.mk (some 203) (.iaddr 24 (.tmp 201) (.tmp 202)) none) :: o31_70)) (.keep [11,10,1] c31_101))) (.keep [10,1] c31_102))
theorem u31_103:type_of% (@swc _ _ c31_103.eq_1):=@swc _ _ c31_103.eq_1
def c31_104:SC:=(.seq (.seq (.reg [SO.mk (some 193) (.move (.tmp 10)) none,SO.mk (some 194) (.faddr 28 (.tmp 1) 4) none,SO.mk (some 195) (.load 24 (.tmp 194)) none,SO.mk (some 196) (.len 24 (.tmp 195)) none,SO.mk (some 197) (.bin .lss 3 (.tmp 193) (.tmp 196)) none]) (.keep [197,10,1] c31_69)) (.keep [10,1] c31_103))
theorem u31_104:type_of% (@swc _ _ c31_104.eq_1):=@swc _ _ c31_104.eq_1
def c31_105:SC:=(.block 8 (.loop (.keep [10,1] c31_104)))
theorem u31_105:type_of% (@swc _ _ c31_105.eq_1):=@swc _ _ c31_105.eq_1
def c31_106:SC:=(.cond (.tmp 292) .skip (.exit 12))
theorem u31_106:type_of% (@swc _ _ c31_106.eq_1):=@swc _ _ c31_106.eq_1
def o31_107:List SO:=((SO.mk (some 299) (.load 87 (.tmp 298)) none) :: (SO.mk (some 15) (.alloc 87) none) :: (SO.mk none (.store 87 (.tmp 15) (.tmp 299)) none) :: [])
theorem v31_107:type_of% (@swl _ _ o31_107.eq_1):=@swl _ _ o31_107.eq_1
def o31_108:List SO:=((SO.mk (some 324) (.call 34 [(.tmp 323),(.const (Value.int .i64 0)),(.const (Value.int .i64 2))]) (some (321 ,false))) :: (SO.mk (some 325) (.un .not (.tmp 324)) (some (321 ,false))) :: (SO.mk (some 326) (.pick (.tmp 321) (.const (Value.bool true)) (.tmp 325)) none) :: [])
theorem v31_108:type_of% (@swl _ _ o31_108.eq_1):=@swl _ _ o31_108.eq_1
def o31_109:List SO:=((SO.mk (some 320) (.pick (.tmp 315) (.const (Value.bool true)) (.tmp 319)) none) :: (SO.mk (some 321) (.move (.tmp 320)) none) :: (SO.mk (some 322) (.faddr 87 (.tmp 15) 2) (some (321 ,false))) :: (SO.mk (some 323) (.load 3 (.tmp 322)) (some (321 ,false))) :: o31_108)
theorem v31_109:type_of% (@swl _ _ o31_109.eq_1):=@swl _ _ o31_109.eq_1
def o31_110:List SO:=((SO.mk (some 316) (.faddr 87 (.tmp 15) 1) (some (315 ,false))) :: (SO.mk (some 317) (.load 3 (.tmp 316)) (some (315 ,false))) :: (SO.mk (some 318) (.call 34 [(.tmp 317),(.const (Value.int .i64 1)),(.const (Value.int .i64 1000))]) (some (315 ,false))) :: (SO.mk (some 319) (.un .not (.tmp 318)) (some (315 ,false))) :: o31_109)
theorem v31_110:type_of% (@swl _ _ o31_110.eq_1):=@swl _ _ o31_110.eq_1
def o31_111:List SO:=((SO.mk (some 312) (.load 3 (.tmp 311)) (some (306 ,false))) :: (SO.mk (some 313) (.bin .neq 3 (.tmp 312) (.const (Value.int .i64 2))) (some (306 ,false))) :: (SO.mk (some 314) (.pick (.tmp 306) (.const (Value.bool true)) (.tmp 313)) none) :: (SO.mk (some 315) (.move (.tmp 314)) none) :: o31_110)
theorem v31_111:type_of% (@swl _ _ o31_111.eq_1):=@swl _ _ o31_111.eq_1
def o31_112:List SO:=((SO.mk (some 308) (.load 23 (.tmp 307)) (some (306 ,false))) :: (SO.mk (some 309) (.move (.tmp 16)) (some (306 ,false))) :: (SO.mk (some 310) (.iaddr 23 (.tmp 308) (.tmp 309)) (some (306 ,false))) :: (SO.mk (some 311) (.faddr 41 (.tmp 310) 7) (some (306 ,false))) :: o31_111)
theorem v31_112:type_of% (@swl _ _ o31_112.eq_1):=@swl _ _ o31_112.eq_1
def c31_113:SC:=(.seq (.reg [SO.mk (some 2) (.move (.const (Value.bool false))) none]) (.keep [2] .ret))
theorem u31_113:type_of% (@swc _ _ c31_113.eq_1):=@swc _ _ c31_113.eq_1
def c31_114:SC:=(.cond (.tmp 326) c31_113 .skip)
theorem u31_114:type_of% (@swc _ _ c31_114.eq_1):=@swc _ _ c31_114.eq_1
def c31_115:SC:=(.cond (.tmp 329) .skip (.exit 14))
theorem u31_115:type_of% (@swc _ _ c31_115.eq_1):=@swc _ _ c31_115.eq_1
def o31_116:List SO:=((SO.mk (some 340) (.bin .eql 3 (.tmp 337) (.tmp 339)) none) :: [])
theorem v31_116:type_of% (@swd _ _ o31_116.eq_1):=@swd _ _ o31_116.eq_1
def o31_117:List SO:=((SO.mk (some 336) (.faddr 87 (.tmp 335) 0) none) :: (SO.mk (some 337) (.load 3 (.tmp 336)) none) :: (SO.mk (some 338) (.faddr 87 (.tmp 15) 0) none) :: (SO.mk (some 339) (.load 3 (.tmp 338)) none) :: o31_116)
theorem v31_117:type_of% (@swd _ _ o31_117.eq_1):=@swd _ _ o31_117.eq_1
def o31_118:List SO:=((SO.mk (some 332) (.faddr 28 (.tmp 1) 5) none) :: (SO.mk (some 333) (.load 25 (.tmp 332)) none) :: (SO.mk (some 334) (.move (.tmp 17)) none) :: (SO.mk (some 335) (.iaddr 25 (.tmp 333) (.tmp 334)) none) :: o31_117)
theorem v31_118:type_of% (@swd _ _ o31_118.eq_1):=@swd _ _ o31_118.eq_1
theorem m31_118 (B:Nat):mkNames B o31_118 = []:=(rfl)
def c31_119:SC:=(.seq (.reg [SO.mk (some 2) (.move (.const (Value.bool false))) none]) (.keep [2] .ret))
theorem u31_119:type_of% (@swc _ _ c31_119.eq_1):=@swc _ _ c31_119.eq_1
def c31_120:SC:=(.cond (.tmp 340) c31_119 .skip)
theorem u31_120:type_of% (@swc _ _ c31_120.eq_1):=@swc _ _ c31_120.eq_1
def c31_121:SC:=(.reg [SO.mk (some 330) (.move (.tmp 17)) none,SO.mk (some 331) (.bin .add 3 (.tmp 330) (.const (Value.int .i64 1))) none,SO.mk (some 17) (.move (.tmp 331)) none])
theorem u31_121:type_of% (@swc _ _ c31_121.eq_1):=@swc _ _ c31_121.eq_1
def c31_122:SC:=(.seq (.block 15 (.seq (.dreg false o31_118 []) (.keep [340,17,15,14,1] c31_120))) (.keep [17,15,14,1] c31_121))
theorem u31_122:type_of% (@swc _ _ c31_122.eq_1):=@swc _ _ c31_122.eq_1
def c31_123:SC:=(.seq (.seq (.reg [SO.mk (some 327) (.move (.tmp 17)) none,SO.mk (some 328) (.move (.tmp 14)) none,SO.mk (some 329) (.bin .lss 3 (.tmp 327) (.tmp 328)) none]) (.keep [329,15,17,14,1] c31_115)) (.keep [17,15,14,1] c31_122))
theorem u31_123:type_of% (@swc _ _ c31_123.eq_1):=@swc _ _ c31_123.eq_1
def c31_124:SC:=(.block 14 (.loop (.keep [15,17,14,1] c31_123)))
theorem u31_124:type_of% (@swc _ _ c31_124.eq_1):=@swc _ _ c31_124.eq_1
def c31_125:SC:=(.seq (.reg [SO.mk (some 17) (.move (.const (Value.int .i64 0))) none]) (.keep [15,17,14,1] c31_124))
theorem u31_125:type_of% (@swc _ _ c31_125.eq_1):=@swc _ _ c31_125.eq_1
def c31_126:SC:=(.seq (.seq (.reg ((SO.mk (some 304) (.move (.tmp 16)) none) :: (SO.mk (some 305) (.bin .lss 3 (.tmp 304) (.const (Value.int .i64 0))) none) :: (SO.mk (some 306) (.move (.tmp 305)) none) :: (SO.mk (some 307) (.faddr 28 (.tmp 1) 3) (some (306 ,false))) :: o31_112)) (.keep [326,15,14,1] c31_114)) (.keep [15,14,1] c31_125))
theorem u31_126:type_of% (@swc _ _ c31_126.eq_1):=@swc _ _ c31_126.eq_1
def c31_127:SC:=(.seq (.reg [SO.mk (some 300) (.load 28 (.tmp 1)) none,SO.mk (some 301) (.faddr 87 (.tmp 15) 0) none,SO.mk (some 302) (.load 3 (.tmp 301)) none,SO.mk (some 303) (.call 54 [(.tmp 300),(.tmp 302)]) none,SO.mk (some 16) (.move (.tmp 303)) none]) (.keep [16,15,14,1] c31_126))
theorem u31_127:type_of% (@swc _ _ c31_127.eq_1):=@swc _ _ c31_127.eq_1
def c31_128:SC:=(.reg [SO.mk (some 293) (.move (.tmp 14)) none,SO.mk (some 294) (.bin .add 3 (.tmp 293) (.const (Value.int .i64 1))) none,SO.mk (some 14) (.move (.tmp 294)) none])
theorem u31_128:type_of% (@swc _ _ c31_128.eq_1):=@swc _ _ c31_128.eq_1
def c31_129:SC:=(.seq (.block 13 (.seq (.reg ((SO.mk (some 295) (.faddr 28 (.tmp 1) 5) none) :: (SO.mk (some 296) (.load 25 (.tmp 295)) none) :: (SO.mk (some 297) (.move (.tmp 14)) none) :: (SO.mk (some 298) (.iaddr 25 (.tmp 296) (.tmp 297)) none) :: o31_107)) (.keep [15,14,1] c31_127))) (.keep [14,1] c31_128))
theorem u31_129:type_of% (@swc _ _ c31_129.eq_1):=@swc _ _ c31_129.eq_1
def c31_130:SC:=(.seq (.seq (.reg [SO.mk (some 288) (.move (.tmp 14)) none,SO.mk (some 289) (.faddr 28 (.tmp 1) 5) none,SO.mk (some 290) (.load 25 (.tmp 289)) none,SO.mk (some 291) (.len 25 (.tmp 290)) none,SO.mk (some 292) (.bin .lss 3 (.tmp 288) (.tmp 291)) none]) (.keep [292,14,1] c31_106)) (.keep [14,1] c31_129))
theorem u31_130:type_of% (@swc _ _ c31_130.eq_1):=@swc _ _ c31_130.eq_1
def c31_131:SC:=(.block 12 (.loop (.keep [14,1] c31_130)))
theorem u31_131:type_of% (@swc _ _ c31_131.eq_1):=@swc _ _ c31_131.eq_1
def c31_132:SC:=(.cond (.tmp 346) .skip (.exit 16))
theorem u31_132:type_of% (@swc _ _ c31_132.eq_1):=@swc _ _ c31_132.eq_1
def o31_133:List SO:=((SO.mk (some 353) (.call 34 [(.tmp 352),(.const (Value.int .i64 0)),(.const (Value.int .i64 199))]) none) :: (SO.mk (some 354) (.un .not (.tmp 353)) none) :: [])
theorem v31_133:type_of% (@swl _ _ o31_133.eq_1):=@swl _ _ o31_133.eq_1
def c31_134:SC:=(.seq (.reg [SO.mk (some 2) (.move (.const (Value.bool false))) none]) (.keep [2] .ret))
theorem u31_134:type_of% (@swc _ _ c31_134.eq_1):=@swc _ _ c31_134.eq_1
def c31_135:SC:=(.cond (.tmp 354) c31_134 .skip)
theorem u31_135:type_of% (@swc _ _ c31_135.eq_1):=@swc _ _ c31_135.eq_1
def c31_136:SC:=(.cond (.tmp 357) .skip (.exit 18))
theorem u31_136:type_of% (@swc _ _ c31_136.eq_1):=@swc _ _ c31_136.eq_1
def o31_137:List SO:=((SO.mk (some 368) (.bin .eql 3 (.tmp 363) (.tmp 367)) none) :: [])
theorem v31_137:type_of% (@swd _ _ o31_137.eq_1):=@swd _ _ o31_137.eq_1
def o31_138:List SO:=((SO.mk (some 364) (.move (.tmp 18)) none) :: (SO.mk (some 365) (.move (.tmp 20)) none) :: (SO.mk (some 366) (.iaddr 26 (.tmp 364) (.tmp 365)) none) :: (SO.mk (some 367) (.load 3 (.tmp 366)) none) :: o31_137)
theorem v31_138:type_of% (@swd _ _ o31_138.eq_1):=@swd _ _ o31_138.eq_1
def o31_139:List SO:=((SO.mk (some 360) (.move (.tmp 18)) none) :: (SO.mk (some 361) (.move (.tmp 19)) none) :: (SO.mk (some 362) (.iaddr 26 (.tmp 360) (.tmp 361)) none) :: (SO.mk (some 363) (.load 3 (.tmp 362)) none) :: o31_138)
theorem v31_139:type_of% (@swd _ _ o31_139.eq_1):=@swd _ _ o31_139.eq_1
theorem m31_139 (B:Nat):mkNames B o31_139 = []:=(rfl)
def c31_140:SC:=(.seq (.reg [SO.mk (some 2) (.move (.const (Value.bool false))) none]) (.keep [2] .ret))
theorem u31_140:type_of% (@swc _ _ c31_140.eq_1):=@swc _ _ c31_140.eq_1
def c31_141:SC:=(.cond (.tmp 368) c31_140 .skip)
theorem u31_141:type_of% (@swc _ _ c31_141.eq_1):=@swc _ _ c31_141.eq_1
def c31_142:SC:=(.reg [SO.mk (some 358) (.move (.tmp 20)) none,SO.mk (some 359) (.bin .add 3 (.tmp 358) (.const (Value.int .i64 1))) none,SO.mk (some 20) (.move (.tmp 359)) none])
theorem u31_142:type_of% (@swc _ _ c31_142.eq_1):=@swc _ _ c31_142.eq_1
def c31_143:SC:=(.seq (.block 19 (.seq (.dreg false o31_139 []) (.keep [368,20,19,18] c31_141))) (.keep [20,19,18] c31_142))
theorem u31_143:type_of% (@swc _ _ c31_143.eq_1):=@swc _ _ c31_143.eq_1
def c31_144:SC:=(.seq (.seq (.reg [SO.mk (some 355) (.move (.tmp 20)) none,SO.mk (some 356) (.move (.tmp 19)) none,SO.mk (some 357) (.bin .lss 3 (.tmp 355) (.tmp 356)) none]) (.keep [357,20,19,18] c31_136)) (.keep [20,19,18] c31_143))
theorem u31_144:type_of% (@swc _ _ c31_144.eq_1):=@swc _ _ c31_144.eq_1
def c31_145:SC:=(.block 18 (.loop (.keep [20,19,18] c31_144)))
theorem u31_145:type_of% (@swc _ _ c31_145.eq_1):=@swc _ _ c31_145.eq_1
def c31_146:SC:=(.seq (.reg [SO.mk (some 20) (.move (.const (Value.int .i64 0))) none]) (.keep [20,19,18] c31_145))
theorem u31_146:type_of% (@swc _ _ c31_146.eq_1):=@swc _ _ c31_146.eq_1
def c31_147:SC:=(.reg [SO.mk (some 347) (.move (.tmp 19)) none,SO.mk (some 348) (.bin .add 3 (.tmp 347) (.const (Value.int .i64 1))) none,SO.mk (some 19) (.move (.tmp 348)) none])
theorem u31_147:type_of% (@swc _ _ c31_147.eq_1):=@swc _ _ c31_147.eq_1
def c31_148:SC:=(.seq (.block 17 (.seq (.seq (.reg ((SO.mk (some 349) (.move (.tmp 18)) none) :: (SO.mk (some 350) (.move (.tmp 19)) none) :: (SO.mk (some 351) (.iaddr 26 (.tmp 349) (.tmp 350)) none) :: (SO.mk (some 352) (.load 3 (.tmp 351)) none) :: o31_133)) (.keep [354,19,18] c31_135)) (.keep [19,18] c31_146))) (.keep [19,18] c31_147))
theorem u31_148:type_of% (@swc _ _ c31_148.eq_1):=@swc _ _ c31_148.eq_1
def c31_149:SC:=(.seq (.seq (.reg [SO.mk (some 343) (.move (.tmp 19)) none,SO.mk (some 344) (.move (.tmp 18)) none,SO.mk (some 345) (.len 26 (.tmp 344)) none,SO.mk (some 346) (.bin .lss 3 (.tmp 343) (.tmp 345)) none]) (.keep [346,18,19] c31_132)) (.keep [19,18] c31_148))
theorem u31_149:type_of% (@swc _ _ c31_149.eq_1):=@swc _ _ c31_149.eq_1
def c31_150:SC:=(.block 16 (.loop (.keep [18,19] c31_149)))
theorem u31_150:type_of% (@swc _ _ c31_150.eq_1):=@swc _ _ c31_150.eq_1
def c31_151:SC:=(.seq (.reg [SO.mk (some 2) (.move (.const (Value.bool true))) none]) (.keep [2] .ret))
theorem u31_151:type_of% (@swc _ _ c31_151.eq_1):=@swc _ _ c31_151.eq_1
def c31_152:SC:=(.seq (.seq (.reg [SO.mk (some 19) (.move (.const (Value.int .i64 0))) none]) (.keep [18,19] c31_150)) (.keep [] c31_151))
theorem u31_152:type_of% (@swc _ _ c31_152.eq_1):=@swc _ _ c31_152.eq_1
def c31_153:SC:=(.seq (.reg [SO.mk (some 341) (.load 28 (.tmp 1)) none,SO.mk (some 342) (.call 55 [(.tmp 341)]) none,SO.mk (some 18) (.move (.tmp 342)) none]) (.keep [18] c31_152))
theorem u31_153:type_of% (@swc _ _ c31_153.eq_1):=@swc _ _ c31_153.eq_1
def c31_154:SC:=(.seq (.seq (.reg [SO.mk (some 14) (.move (.const (Value.int .i64 0))) none]) (.keep [14,1] c31_131)) (.keep [1] c31_153))
theorem u31_154:type_of% (@swc _ _ c31_154.eq_1):=@swc _ _ c31_154.eq_1
def c31_155:SC:=(.seq (.seq (.reg [SO.mk (some 10) (.move (.const (Value.int .i64 0))) none]) (.keep [10,1] c31_105)) (.keep [1] c31_154))
theorem u31_155:type_of% (@swc _ _ c31_155.eq_1):=@swc _ _ c31_155.eq_1
def c31_156:SC:=(.seq (.seq (.reg [SO.mk (some 6) (.move (.const (Value.int .i64 0))) none]) (.keep [6,1] c31_68)) (.keep [1] c31_155))
theorem u31_156:type_of% (@swc _ _ c31_156.eq_1):=@swc _ _ c31_156.eq_1
def c31_157:SC:=(.seq (.seq (.reg [SO.mk (some 4) (.move (.const (Value.int .i64 0))) none]) (.keep [4,1] c31_40)) (.keep [1] c31_156))
theorem u31_157:type_of% (@swc _ _ c31_157.eq_1):=@swc _ _ c31_157.eq_1
def c31_158:SC:=(.seq (.seq (.reg [SO.mk (some 3) (.move (.const (Value.int .i64 0))) none]) (.keep [3,1] c31_23)) (.keep [1] c31_157))
theorem u31_158:type_of% (@swc _ _ c31_158.eq_1):=@swc _ _ c31_158.eq_1
def c31_159:SC:=(.seq (.seq (.reg ((SO.mk (some 21) (.faddr 28 (.tmp 1) 0) none) :: (SO.mk (some 22) (.load 3 (.tmp 21)) none) :: (SO.mk (some 23) (.call 34 [(.tmp 22),(.const (Value.int .i64 1)),(.const (Value.int .i64 1048576))]) none) :: (SO.mk (some 24) (.un .not (.tmp 23)) none) :: o31_8)) (.keep [54,1] c31_10)) (.keep [1] c31_158))
theorem u31_159:type_of% (@swc _ _ c31_159.eq_1):=@swc _ _ c31_159.eq_1
def c31:SC:=(.seq (.reg [SO.mk (some 1) (.box 28 (.tmp 0)) none,SO.mk (some 2) (.move (.const (Value.bool false))) none]) (.keep [1] c31_159))
theorem c31_eq:annC Try.f31 = some c31:=by kernel_rfl
theorem r31:Try.f31.results.toList = [.tmp 2]:=by kernel_rfl
theorem e31:enters Try.prog 31 = true:=by kernel_rfl
end Go.Proofs.Ytikgiadbkjmabaa
namespace Go.Proofs.Ytikgiadbkjmabaa
open Go.RowKit
set_option maxHeartbeats 4000000
set_option maxRecDepth 20000
attribute [local irreducible] SW OSW SWL SWLn SWD SEcall SEcallv SDv SE SO1 SOg ACalls ACallv Wk EndV
set_option linter.unusedSimpArgs false
set_option linter.unusedVariables false
theorem may_p (s:SttD):Pure Try.prog 31 [s.av] (Bo (mayF s)):=by
  refine pure_of follows Try.func31 c31_eq r31 (Nat.le_of_ble_eq_true rfl) fun B σ hcl hsz=>?_
  have hpl:=st_szd (hsz s.av (by simp))
  obtain ⟨z1,z2,z3,z4,z5⟩:=st_sz5 (hsz s.av (by simp))
  clear hsz
  have w1:∀ k:Nat,decide ((k:Int) < (s.gone.length:Int)) = true → decide ((k:Int) > 0) = true → IntKind.i64.wrap ((k:Int) - 1) = ((k - 1:Nat):Int):=fun k=>prev_wD z5
  have w2:∀ k:Nat,decide ((k:Int) < (s.bkts.length:Int)) = true → decide ((k:Int) > 0) = true → IntKind.i64.wrap ((k:Int) - 1) = ((k - 1:Nat):Int):=fun k=>prev_wD z3
  have w3:∀ k:Nat,decide ((k:Int) < (s.vers.length:Int)) = true → decide ((k:Int) > 0) = true → IntKind.i64.wrap ((k:Int) - 1) = ((k - 1:Nat):Int):=fun k=>prev_wD z1
  have w4:∀ k:Nat,decide ((k:Int) < (s.ups.length:Int)) = true → decide ((k:Int) > 0) = true → IntKind.i64.wrap ((k:Int) - 1) = ((k - 1:Nat):Int):=fun k=>prev_wD z2
  have r1:∀ k:Nat,decide ((k:Int) < (s.gone.length:Int)) = true → decide ((k:Int) > 0) = true → rowOf (s.gone.map int_) (k - 1) = [RV.v (.int .i64 s.gone[k - 1]!)]:=fun k=>prev_rowD (f:=int_)
  have r2:∀ k:Nat,decide ((k:Int) < (s.bkts.length:Int)) = true → decide ((k:Int) > 0) = true → rowOf (s.bkts.map BktD.row) (k - 1) = BktD.row s.bkts[k - 1]!:=fun k=>prev_rowD
  have r3:∀ k:Nat,decide ((k:Int) < (s.vers.length:Int)) = true → decide ((k:Int) > 0) = true → rowOf (s.vers.map VerD.row) (k - 1) = VerD.row s.vers[k - 1]!:=fun k=>prev_rowD
  have r4:∀ k:Nat,decide ((k:Int) < (s.ups.length:Int)) = true → decide ((k:Int) > 0) = true → rowOf (s.ups.map UpD.row) (k - 1) = UpD.row s.ups[k - 1]!:=fun k=>prev_rowD
  have r6:∀ x:Int,decide (idxD s.vers.length (pV s.vers x) < 0) = false → rowOf (s.vers.map VerD.row) (idxD s.vers.length (pV s.vers x)).toNat = VerD.row s.vers[(idxD s.vers.length (pV s.vers x)).toNat]!:=fun x h=>by
    have h0:=of_decide_eq_false h
    have h1:=idxD_lt (n:=s.vers.length) (p:=pV s.vers x)
    exact rowOf_mapD _ _ _ (decide_eq_true (by omega))
  have r7:∀ x:Int,(idxD s.vers.length (pV s.vers x) < (s.vers.length:Int)) = True:=fun x=>eq_true idxD_lt
  repeat' (first | (simp -implicitDefEqProofs only [*,Nat.reduceBEq,↓reduceIte,Nat.reduceEqDiff,Nat.reduceAdd,reduceCtorEq,AO.kill,Int.reduceLT,Int.reduceToNat,List.getElem?_nil,Nat.reduceMul,Nat.reducePow,Nat.reduceLeDiff,rowOf_mapD,rowOf_mapI,rowOf_mapA,List.getElem?_cons_zero,List.getElem?_cons_succ,take_map_len,take_map_app,List.getElem?_cons_zero,c31,r31,v31_1,v31_2,v31_3,v31_4,v31_5,v31_6,v31_7,v31_8,u31_9,u31_10,u31_11,v31_12,v31_13,m31_13,v31_14,v31_15,v31_16,v31_17,u31_18,u31_19,u31_20,u31_21,u31_22,u31_23,u31_24,v31_25,v31_26,m31_26,v31_27,v31_28,v31_29,v31_30,v31_31,v31_32,v31_33,u31_34,u31_35,u31_36,u31_37,u31_38,u31_39,u31_40,u31_41,v31_42,v31_43,m31_43,v31_44,v31_45,v31_46,v31_47,u31_48,u31_49,u31_50,v31_51,v31_52,v31_53,v31_54,v31_55,u31_56,u31_57,u31_58,u31_59,u31_60,u31_61,u31_62,u31_63,u31_64,u31_65,u31_66,u31_67,u31_68,u31_69,v31_70,v31_71,v31_72,v31_73,v31_74,v31_75,v31_76,v31_77,v31_78,v31_79,m31_79,u31_80,u31_81,u31_82,v31_83,v31_84,v31_85,v31_86,v31_87,v31_88,v31_89,v31_90,v31_91,v31_92,m31_92,u31_93,u31_94,u31_95,u31_96,u31_97,u31_98,u31_99,u31_100,u31_101,u31_102,u31_103,u31_104,u31_105,u31_106,v31_107,v31_108,v31_109,v31_110,v31_111,v31_112,u31_113,u31_114,u31_115,v31_116,v31_117,v31_118,m31_118,u31_119,u31_120,u31_121,u31_122,u31_123,u31_124,u31_125,u31_126,u31_127,u31_128,u31_129,u31_130,u31_131,u31_132,v31_133,u31_134,u31_135,u31_136,v31_137,v31_138,v31_139,m31_139,u31_140,u31_141,u31_142,u31_143,u31_144,u31_145,u31_146,u31_147,u31_148,u31_149,u31_150,u31_151,u31_152,u31_153,u31_154,u31_155,u31_156,u31_157,u31_158,u31_159,ty28,ty3,ty22,ty23,ty24,ty25,ty26,ty54,ty9,ty30,ty52,ty41,ty4,ty83,ty81,ty85,ty87,SttD.av,SttD.cells,ints,int_,VerD.row,UpD.row,PartD.row,AskD.row,BktD.row,mvcgen_simp]) | (with_reducible refine And.intro ?_ ?_) | (refine call_ro e34 ( In_p _ _ _) rfl ?_ ?_ ?_ ?_) | (refine gcall_ro e34 ( In_p _ _ _) rfl ?_ ?_ ?_ ?_) | (refine dcall_ro e34 ( In_p _ _ _) rfl ?_ ?_ ?_ ?_) | (refine gdcall_ro rfl e34 ( In_p _ _ _) rfl ?_ ?_ ?_ ?_) | (refine call_ro e49 ( nameR_p s.bkts[kb]!.name) rfl ?_ ?_ ?_ ?_) | (refine gcall_ro e49 ( nameR_p s.bkts[kb]!.name) rfl ?_ ?_ ?_ ?_) | (refine dcall_ro e49 ( nameR_p s.bkts[kb]!.name) rfl ?_ ?_ ?_ ?_) | (refine gdcall_ro rfl e49 ( nameR_p s.bkts[kb]!.name) rfl ?_ ?_ ?_ ?_) | (refine call_ro e50 ( ruleR_p s.bkts[kb]!.pre s.bkts[kb]!.frz s.bkts[kb]!.drop) rfl ?_ ?_ ?_ ?_) | (refine gcall_ro e50 ( ruleR_p s.bkts[kb]!.pre s.bkts[kb]!.frz s.bkts[kb]!.drop) rfl ?_ ?_ ?_ ?_) | (refine dcall_ro e50 ( ruleR_p s.bkts[kb]!.pre s.bkts[kb]!.frz s.bkts[kb]!.drop) rfl ?_ ?_ ?_ ?_) | (refine gdcall_ro rfl e50 ( ruleR_p s.bkts[kb]!.pre s.bkts[kb]!.frz s.bkts[kb]!.drop) rfl ?_ ?_ ?_ ?_) | (refine call_ro e51 ( vmay_p s s.vers[kv]!) rfl ?_ ?_ ?_ ?_) | (refine gcall_ro e51 ( vmay_p s s.vers[kv]!) rfl ?_ ?_ ?_ ?_) | (refine dcall_ro e51 ( vmay_p s s.vers[kv]!) rfl ?_ ?_ ?_ ?_) | (refine gdcall_ro rfl e51 ( vmay_p s s.vers[kv]!) rfl ?_ ?_ ?_ ?_) | (refine call_ro e32 ( bucketAt_p s s.ups[ku]!.bkt) rfl ?_ ?_ ?_ ?_) | (refine gcall_ro e32 ( bucketAt_p s s.ups[ku]!.bkt) rfl ?_ ?_ ?_ ?_) | (refine dcall_ro e32 ( bucketAt_p s s.ups[ku]!.bkt) rfl ?_ ?_ ?_ ?_) | (refine gdcall_ro rfl e32 ( bucketAt_p s s.ups[ku]!.bkt) rfl ?_ ?_ ?_ ?_) | (refine call_ro e52 ( keyR_p s.ups[ku]!.key) rfl ?_ ?_ ?_ ?_) | (refine gcall_ro e52 ( keyR_p s.ups[ku]!.key) rfl ?_ ?_ ?_ ?_) | (refine dcall_ro e52 ( keyR_p s.ups[ku]!.key) rfl ?_ ?_ ?_ ?_) | (refine gdcall_ro rfl e52 ( keyR_p s.ups[ku]!.key) rfl ?_ ?_ ?_ ?_) | (refine call_ro e53 ( chunks64_p _) rfl ?_ ?_ ?_ ?_) | (refine gcall_ro e53 ( chunks64_p _) rfl ?_ ?_ ?_ ?_) | (refine dcall_ro e53 ( chunks64_p _) rfl ?_ ?_ ?_ ?_) | (refine gdcall_ro rfl e53 ( chunks64_p _) rfl ?_ ?_ ?_ ?_) | (refine call_ro e54 ( versionAt_p s s.queue[kq]!.ver) rfl ?_ ?_ ?_ ?_) | (refine gcall_ro e54 ( versionAt_p s s.queue[kq]!.ver) rfl ?_ ?_ ?_ ?_) | (refine dcall_ro e54 ( versionAt_p s s.queue[kq]!.ver) rfl ?_ ?_ ?_ ?_) | (refine gdcall_ro rfl e54 ( versionAt_p s s.queue[kq]!.ver) rfl ?_ ?_ ?_ ?_) | (have hbs:=bnds_of (s:=s) hFkv hFku (by assumption) (by assumption) (by assumption) (by assumption);have hb6:=hbs.b6;refine call_ro e55 (allS_p s hbs.b1 hbs.b2 hbs.b3 hbs.b4 hbs.b5) rfl ?_ ?_ ?_ ?_) | (refine loop_nat (kx) (fun jx=>((kx ≤ (allSec s).length) ∧ (allSec s).length ≤ 2 ^ 47) ∧ (∀ j:Nat,decide ((j:Int) < (kx:Int)) = true → rowOf ((allSec s).map int_) j = [RV.v (.int .i64 (allSec s)[j]!)]) ∧ ∀ i,i < jx → ((allSec s)[kx]! == (allSec s)[i]!) = false) (fun jx=>[(20,I jx),(19,I kx),(18,.d (ints (allSec s)))]) (fun jx=>[]) ?_ (Wk.keep hcl ?_ ?_ ?_) fun jx hjx hFjx=>?_;rotate_left 1;(focus (simp [Fr.get,newF,Fr.map,AV.kill,AV.mapN,SttD.av,SttD.cells,ints,int_,VerD.row,UpD.row,PartD.row,AskD.row,BktD.row]<;>fail));(focus (simp [sto,newL,Loc.kill,Loc.set,AO.kill,AV.kill,AV.mapN,SttD.av,SttD.cells,ints,int_,VerD.row,UpD.row,PartD.row,AskD.row,BktD.row]<;>fail));(focus (simp [newL,Loc.kill,Loc.set,SttD.av,SttD.cells,ints,int_,VerD.row,UpD.row,PartD.row,AskD.row,BktD.row]<;>fail));(try have hwjx:IntKind.i64.wrap ((jx:Int) + 1) = (jx:Int) + 1:=IntWalk.i64_in _ (by omega))) | (refine loop_nat ((allSec s).length) (fun kx=>(allSec s).length ≤ 2 ^ 47 ∧ ∀ i,i < kx → mSec (allSec s) i = false) (fun kx=>[(19,I kx),(18,.d (ints (allSec s)))]) (fun kx=>[]) ?_ (Wk.keep hcl ?_ ?_ ?_) fun kx hkx hFkx=>?_;rotate_left 1;(focus (simp [Fr.get,newF,Fr.map,AV.kill,AV.mapN,SttD.av,SttD.cells,ints,int_,VerD.row,UpD.row,PartD.row,AskD.row,BktD.row]<;>fail));(focus (simp [sto,newL,Loc.kill,Loc.set,AO.kill,AV.kill,AV.mapN,SttD.av,SttD.cells,ints,int_,VerD.row,UpD.row,PartD.row,AskD.row,BktD.row]<;>fail));(focus (simp [newL,Loc.kill,Loc.set,SttD.av,SttD.cells,ints,int_,VerD.row,UpD.row,PartD.row,AskD.row,BktD.row]<;>fail));(try have hwkx:IntKind.i64.wrap ((kx:Int) + 1) = (kx:Int) + 1:=IntWalk.i64_in _ (by omega))) | (refine loop_nat (kq) (fun jq=>(kq ≤ s.queue.length) ∧ (∀ j:Nat,decide ((j:Int) < (kq:Int)) = true → rowOf (s.queue.map AskD.row) j = AskD.row s.queue[j]!) ∧ ∀ i,i < jq → (s.queue[i]!.ver == s.queue[kq]!.ver) = false) (fun jq=>[(17,I jq),(15,.lp (B + 15) 0),(14,I kq),(1,.lp (B + 1) 0)]) (fun jq=>[(B + 15,.box [I s.queue[kq]!.ver,I s.queue[kq]!.days,I s.queue[kq]!.cls]),(B + 1,.box s.cells)]) ?_ (Wk.keep hcl ?_ ?_ ?_) fun jq hjq hFjq=>?_;rotate_left 1;(focus (simp [Fr.get,newF,Fr.map,AV.kill,AV.mapN,SttD.av,SttD.cells,ints,int_,VerD.row,UpD.row,PartD.row,AskD.row,BktD.row]<;>fail));(focus (simp [sto,newL,Loc.kill,Loc.set,AO.kill,AV.kill,AV.mapN,SttD.av,SttD.cells,ints,int_,VerD.row,UpD.row,PartD.row,AskD.row,BktD.row]<;>fail));(focus (simp [newL,Loc.kill,Loc.set,SttD.av,SttD.cells,ints,int_,VerD.row,UpD.row,PartD.row,AskD.row,BktD.row]<;>fail));(try have hwjq:IntKind.i64.wrap ((jq:Int) + 1) = (jq:Int) + 1:=IntWalk.i64_in _ (by omega))) | (refine loop_nat (s.queue.length) (fun kq=>∀ i,i < kq → mQu s i = false) (fun kq=>[(14,I kq),(1,.lp (B + 1) 0)]) (fun kq=>[(B + 1,.box s.cells)]) ?_ (Wk.keep hcl ?_ ?_ ?_) fun kq hkq hFkq=>?_;rotate_left 1;(focus (simp [Fr.get,newF,Fr.map,AV.kill,AV.mapN,SttD.av,SttD.cells,ints,int_,VerD.row,UpD.row,PartD.row,AskD.row,BktD.row]<;>fail));(focus (simp [sto,newL,Loc.kill,Loc.set,AO.kill,AV.kill,AV.mapN,SttD.av,SttD.cells,ints,int_,VerD.row,UpD.row,PartD.row,AskD.row,BktD.row]<;>fail));(focus (simp [newL,Loc.kill,Loc.set,SttD.av,SttD.cells,ints,int_,VerD.row,UpD.row,PartD.row,AskD.row,BktD.row]<;>fail));(try have hwkq:IntKind.i64.wrap ((kq:Int) + 1) = (kq:Int) + 1:=IntWalk.i64_in _ (by omega))) | (refine loop_nat ((s.ups[ku]!).parts.length) (fun jp=>(s.ups[ku]!).parts.length ≤ 2 ^ 47 ∧ (∀ j:Nat,decide ((j:Int) < ((s.ups[ku]!).parts.length:Int)) = true → decide ((j:Int) > 0) = true → IntKind.i64.wrap ((j:Int) - 1) = ((j - 1:Nat):Int)) ∧ (∀ j:Nat,decide ((j:Int) < ((s.ups[ku]!).parts.length:Int)) = true → decide ((j:Int) > 0) = true → rowOf ((s.ups[ku]!).parts.map PartD.row) (j - 1) = PartD.row (s.ups[ku]!).parts[j - 1]!) ∧ ∀ i,i < jp → mPt (s.ups[ku]!).parts i = false) (fun jp=>[(12,I jp),(11,.lp (B + 11) 0),(10,I ku),(1,.lp (B + 1) 0)]) (fun jp=>[(B + 11,.box [I s.ups[ku]!.id,.d (.v (.string s.ups[ku]!.bkt)),.d (.v (.string s.ups[ku]!.key)),.d (.ro ((s.ups[ku]!).parts.map PartD.row))]),(B + 1,.box s.cells)]) ?_ (Wk.keep hcl ?_ ?_ ?_) fun jp hjp hFjp=>?_;rotate_left 1;(focus (simp [Fr.get,newF,Fr.map,AV.kill,AV.mapN,SttD.av,SttD.cells,ints,int_,VerD.row,UpD.row,PartD.row,AskD.row,BktD.row]<;>fail));(focus (simp [sto,newL,Loc.kill,Loc.set,AO.kill,AV.kill,AV.mapN,SttD.av,SttD.cells,ints,int_,VerD.row,UpD.row,PartD.row,AskD.row,BktD.row]<;>fail));(focus (simp [newL,Loc.kill,Loc.set,SttD.av,SttD.cells,ints,int_,VerD.row,UpD.row,PartD.row,AskD.row,BktD.row]<;>fail));(try have hwjp:IntKind.i64.wrap ((jp:Int) + 1) = (jp:Int) + 1:=IntWalk.i64_in _ (by omega))) | (refine loop_nat (s.ups.length) (fun ku=>∀ i,i < ku → mUp s i = false) (fun ku=>[(10,I ku),(1,.lp (B + 1) 0)]) (fun ku=>[(B + 1,.box s.cells)]) ?_ (Wk.keep hcl ?_ ?_ ?_) fun ku hku hFku=>?_;rotate_left 1;(focus (simp [Fr.get,newF,Fr.map,AV.kill,AV.mapN,SttD.av,SttD.cells,ints,int_,VerD.row,UpD.row,PartD.row,AskD.row,BktD.row]<;>fail));(focus (simp [sto,newL,Loc.kill,Loc.set,AO.kill,AV.kill,AV.mapN,SttD.av,SttD.cells,ints,int_,VerD.row,UpD.row,PartD.row,AskD.row,BktD.row]<;>fail));(focus (simp [newL,Loc.kill,Loc.set,SttD.av,SttD.cells,ints,int_,VerD.row,UpD.row,PartD.row,AskD.row,BktD.row]<;>fail));(try have hwku:IntKind.i64.wrap ((ku:Int) + 1) = (ku:Int) + 1:=IntWalk.i64_in _ (by omega))) | (refine loop_nat (kv) (fun jv=>(kv ≤ s.vers.length) ∧ (∀ j:Nat,decide ((j:Int) < (kv:Int)) = true → rowOf (s.vers.map VerD.row) j = VerD.row s.vers[j]!) ∧ ∀ i,i < jv → mTwo s.vers[kv]! s.vers[i]! = false) (fun jv=>[(8,I jv),(7,.lp (B + 7) 0),(6,I kv),(1,.lp (B + 1) 0)]) (fun jv=>[(B + 7,.box (s.vers[kv]!.row.map .d)),(B + 1,.box s.cells)]) ?_ (Wk.keep hcl ?_ ?_ ?_) fun jv hjv hFjv=>?_;rotate_left 1;(focus (simp [Fr.get,newF,Fr.map,AV.kill,AV.mapN,SttD.av,SttD.cells,ints,int_,VerD.row,UpD.row,PartD.row,AskD.row,BktD.row]<;>fail));(focus (simp [sto,newL,Loc.kill,Loc.set,AO.kill,AV.kill,AV.mapN,SttD.av,SttD.cells,ints,int_,VerD.row,UpD.row,PartD.row,AskD.row,BktD.row]<;>fail));(focus (simp [newL,Loc.kill,Loc.set,SttD.av,SttD.cells,ints,int_,VerD.row,UpD.row,PartD.row,AskD.row,BktD.row]<;>fail));(try have hwjv:IntKind.i64.wrap ((jv:Int) + 1) = (jv:Int) + 1:=IntWalk.i64_in _ (by omega))) | (refine loop_nat (s.vers.length) (fun kv=>∀ i,i < kv → mVer s i = false) (fun kv=>[(6,I kv),(1,.lp (B + 1) 0)]) (fun kv=>[(B + 1,.box s.cells)]) ?_ (Wk.keep hcl ?_ ?_ ?_) fun kv hkv hFkv=>?_;rotate_left 1;(focus (simp [Fr.get,newF,Fr.map,AV.kill,AV.mapN,SttD.av,SttD.cells,ints,int_,VerD.row,UpD.row,PartD.row,AskD.row,BktD.row]<;>fail));(focus (simp [sto,newL,Loc.kill,Loc.set,AO.kill,AV.kill,AV.mapN,SttD.av,SttD.cells,ints,int_,VerD.row,UpD.row,PartD.row,AskD.row,BktD.row]<;>fail));(focus (simp [newL,Loc.kill,Loc.set,SttD.av,SttD.cells,ints,int_,VerD.row,UpD.row,PartD.row,AskD.row,BktD.row]<;>fail));(try have hwkv:IntKind.i64.wrap ((kv:Int) + 1) = (kv:Int) + 1:=IntWalk.i64_in _ (by omega))) | (refine loop_nat (s.bkts.length) (fun kb=>∀ i,i < kb → mBkt s.bkts i = false) (fun kb=>[(4,I kb),(1,.lp (B + 1) 0)]) (fun kb=>[(B + 1,.box s.cells)]) ?_ (Wk.keep hcl ?_ ?_ ?_) fun kb hkb hFkb=>?_;rotate_left 1;(focus (simp [Fr.get,newF,Fr.map,AV.kill,AV.mapN,SttD.av,SttD.cells,ints,int_,VerD.row,UpD.row,PartD.row,AskD.row,BktD.row]<;>fail));(focus (simp [sto,newL,Loc.kill,Loc.set,AO.kill,AV.kill,AV.mapN,SttD.av,SttD.cells,ints,int_,VerD.row,UpD.row,PartD.row,AskD.row,BktD.row]<;>fail));(focus (simp [newL,Loc.kill,Loc.set,SttD.av,SttD.cells,ints,int_,VerD.row,UpD.row,PartD.row,AskD.row,BktD.row]<;>fail));(try have hwkb:IntKind.i64.wrap ((kb:Int) + 1) = (kb:Int) + 1:=IntWalk.i64_in _ (by omega))) | (refine loop_nat (s.gone.length) (fun kg=>∀ i,i < kg → mGone s.gone i = false) (fun kg=>[(3,I kg),(1,.lp (B + 1) 0)]) (fun kg=>[(B + 1,.box s.cells)]) ?_ (Wk.keep hcl ?_ ?_ ?_) fun kg hkg hFkg=>?_;rotate_left 1;(focus (simp [Fr.get,newF,Fr.map,AV.kill,AV.mapN,SttD.av,SttD.cells,ints,int_,VerD.row,UpD.row,PartD.row,AskD.row,BktD.row]<;>fail));(focus (simp [sto,newL,Loc.kill,Loc.set,AO.kill,AV.kill,AV.mapN,SttD.av,SttD.cells,ints,int_,VerD.row,UpD.row,PartD.row,AskD.row,BktD.row]<;>fail));(focus (simp [newL,Loc.kill,Loc.set,SttD.av,SttD.cells,ints,int_,VerD.row,UpD.row,PartD.row,AskD.row,BktD.row]<;>fail));(try have hwkg:IntKind.i64.wrap ((kg:Int) + 1) = (kg:Int) + 1:=IntWalk.i64_in _ (by omega))) | (refine EndX.plain ?_) | (refine nil_split (fun hn=>?_) (fun hn=>?_)) | (refine gcall_no not_false ?_) | (refine gdcall_no not_false ?_) | (refine GuardS_of _ _ _ _ _ _ (fun hg=>?_) (fun hg=>?_)) | (refine GuardD_of _ _ _ _ (fun hg=>?_) (fun hg=>?_)) | (refine CondB_of _ _ _ _ _ _ _ ?_ (fun hg=>?_) (fun hg=>?_)))
  all_goals (try (first | ((first | unfold noN | unfold Fr.below | unfold Loc.below);simp [Fr.allN,AV.allN,AV.allNL,AO.allN];done) | rfl | trivial | assumption | (intro row hrow;simp only [List.mem_map] at hrow;obtain ⟨x,_,rfl⟩:=hrow;rfl) | (refine Wk.keep hcl ?_ ?_ ?_;(focus (simp [Fr.get,SttD.av,SttD.cells,ints,int_,VerD.row,UpD.row,PartD.row,AskD.row,BktD.row]<;>fail));(focus (simp [sto,SttD.av,SttD.cells,ints,int_,VerD.row,UpD.row,PartD.row,AskD.row,BktD.row]<;>fail));(focus (simp<;>fail))) | (simp [allP,opd,Fr.get,Fr.below,Fr.allN,AV.allN,AV.allNL,Loc.below,AO.allN,noN,killO,killT,killD,mkNames,AO.kill,AV.kill,AV.mapN,AV.mapNL];done) | (with_reducible exact ltD (by assumption)) | omega | (simp only [decide_eq_true_eq,decide_eq_false_iff_not] at *;omega)))
  all_goals first
    | (refine Bo_no (may_num ?_);simp only [mNum, *,Bool.false_or,Bool.true_or,Bool.or_true,Bool.or_false,Bool.and_true,Bool.true_and,Bool.false_and,Bool.and_false,Bool.not_true,Bool.not_false,cond_true,cond_false];done)
    | (refine Bo_no (may_gone (k:=kg) ?_ ?_);assumption;(simp only [mGone, *,Bool.false_or,Bool.true_or,Bool.or_true,Bool.or_false,Bool.and_true,Bool.true_and,Bool.false_and,Bool.and_false,Bool.not_true,Bool.not_false,cond_true,cond_false];done))
    | (refine Bo_no (may_bkt (k:=kb) ?_ ?_);assumption;(simp only [mBkt, *,Bool.false_or,Bool.true_or,Bool.or_true,Bool.or_false,Bool.and_true,Bool.true_and,Bool.false_and,Bool.and_false,Bool.not_true,Bool.not_false,cond_true,cond_false];done))
    | (refine Bo_no (may_ver (k:=kv) ?_ (ver_two (j:=jv) ?_ ?_));assumption;assumption;(simp only [mTwo, *,Bool.false_or,Bool.true_or,Bool.or_true,Bool.or_false,Bool.and_true,Bool.true_and,Bool.false_and,Bool.and_false,Bool.not_true,Bool.not_false,cond_true,cond_false];done))
    | (refine Bo_no (may_ver (k:=kv) ?_ ?_);assumption;(simp only [mVer, *,Bool.false_or,Bool.true_or,Bool.or_true,Bool.or_false,Bool.and_true,Bool.true_and,Bool.false_and,Bool.and_false,Bool.not_true,Bool.not_false,cond_true,cond_false];done))
    | (refine Bo_no (may_up (k:=ku) ?_ (up_pt (j:=jp) ?_ ?_));assumption;assumption;(simp only [mPt, *,Bool.false_or,Bool.true_or,Bool.or_true,Bool.or_false,Bool.and_true,Bool.true_and,Bool.false_and,Bool.and_false,Bool.not_true,Bool.not_false,cond_true,cond_false];done))
    | (refine Bo_no (may_up (k:=ku) ?_ ?_);assumption;(simp only [mUp, *,Bool.false_or,Bool.true_or,Bool.or_true,Bool.or_false,Bool.and_true,Bool.true_and,Bool.false_and,Bool.and_false,Bool.not_true,Bool.not_false,cond_true,cond_false];done))
    | (refine Bo_no (may_qu (k:=kq) ?_ (qu_two (j:=jq) ?_ ?_));assumption;assumption;assumption)
    | (refine Bo_no (may_qu (k:=kq) ?_ ?_);assumption;(simp only [mQu, *,Bool.false_or,Bool.true_or,Bool.or_true,Bool.or_false,Bool.and_true,Bool.true_and,Bool.false_and,Bool.and_false,Bool.not_true,Bool.not_false,cond_true,cond_false];done))
    | (refine Bo_no (may_sec (k:=kx) ?_ (sec_two (j:=jx) ?_ ?_));assumption;assumption;assumption)
    | (refine Bo_no (may_sec (k:=kx) ?_ ?_);assumption;(simp only [mSec, *,Bool.false_or,Bool.true_or,Bool.or_true,Bool.or_false,Bool.and_true,Bool.true_and,Bool.false_and,Bool.and_false,Bool.not_true,Bool.not_false,cond_true,cond_false];done))
    | (refine Bo_yes (may_yes (kg:=kg) (kb:=kb) (kv:=kv) (ku:=ku) (kq:=kq) (kx:=kx) ?_ ?_ hFkg ?_ hFkb ?_ hFkv ?_ hFku ?_ hFkq ?_ hFkx.2);all_goals first | assumption | (simp only [mNum, *,Bool.false_or,Bool.true_or,Bool.or_true,Bool.or_false,Bool.and_true,Bool.true_and,Bool.false_and,Bool.and_false,Bool.not_true,Bool.not_false,cond_true,cond_false];done))
    | (refine fun j hj=>low_row (f:=VerD.row) (k:=kv) ?_ hj;assumption;done)
    | (refine fun j hj=>low_row (f:=AskD.row) (k:=kq) ?_ hj;assumption;done)
    | (refine fun j hj=>low_row (f:=int_) (k:=kx) ?_ hj;assumption;done)
    | exact fun j h1 h2=>prev_wD (hpl ku) h1 h2
    | exact fun j h1 h2=>prev_rowD (f:=PartD.row) h1 h2
    | (refine allN' hFkg ?_;simp only [mGone, *,Bool.false_or,Bool.true_or,Bool.or_true,Bool.or_false,Bool.and_true,Bool.true_and,Bool.false_and,Bool.and_false,Bool.not_true,Bool.not_false,cond_true,cond_false];done)
    | (refine allN' hFkb ?_;simp only [mBkt, *,Bool.false_or,Bool.true_or,Bool.or_true,Bool.or_false,Bool.and_true,Bool.true_and,Bool.false_and,Bool.and_false,Bool.not_true,Bool.not_false,cond_true,cond_false];done)
    | (refine allN' (p:=fun i=>mTwo s.vers[kv]! s.vers[i]!) hFjv.2.2 ?_;simp only [mTwo, *,Bool.false_or,Bool.true_or,Bool.or_true,Bool.or_false,Bool.and_true,Bool.true_and,Bool.false_and,Bool.and_false,Bool.not_true,Bool.not_false,cond_true,cond_false];done)
    | (refine allN' hFkv (ver_ok hFjv.2.2 ?_ ?_);assumption;(simp only [*,Bool.false_or,Bool.true_or,Bool.or_true,Bool.or_false,Bool.and_true,Bool.true_and,Bool.false_and,Bool.and_false,Bool.not_true,Bool.not_false,cond_true,cond_false];done))
    | (refine allN' hFjp.2.2.2 ?_;simp only [mPt, *,Bool.false_or,Bool.true_or,Bool.or_true,Bool.or_false,Bool.and_true,Bool.true_and,Bool.false_and,Bool.and_false,Bool.not_true,Bool.not_false,cond_true,cond_false];done)
    | (refine allN' hFku (up_ok hFjp.2.2.2 ?_ ?_);assumption;(simp only [*,Bool.false_or,Bool.true_or,Bool.or_true,Bool.or_false,Bool.and_true,Bool.true_and,Bool.false_and,Bool.and_false,Bool.not_true,Bool.not_false,cond_true,cond_false];done))
    | (refine allN' (p:=fun i=>s.queue[i]!.ver == s.queue[kq]!.ver) hFjq.2.2 ?_;assumption;done)
    | (refine allN' hFkq (qu_ok hFjq.2.2 ?_ ?_);assumption;(simp only [*,Bool.false_or,Bool.true_or,Bool.or_true,Bool.or_false,Bool.and_true,Bool.true_and,Bool.false_and,Bool.and_false,Bool.not_true,Bool.not_false,cond_true,cond_false];done))
    | (refine allN' (p:=fun i=>(allSec s)[kx]! == (allSec s)[i]!) hFjx.2.2 ?_;assumption;done)
    | (refine allN' hFkx.2 (sec_ok hFjx.2.2 ?_ ?_);assumption;(simp only [*,Bool.false_or,Bool.true_or,Bool.or_true,Bool.or_false,Bool.and_true,Bool.true_and,Bool.false_and,Bool.and_false,Bool.not_true,Bool.not_false,cond_true,cond_false];done))
end Go.Proofs.Ytikgiadbkjmabaa
