/- icehouseref.StateOf. -/
import Derived.Test.YtijpmidnclbhpaaKM5
import Derived.Test.YtijpmidnclbhpaaKFV
import Derived.Test.YtijpmidnclbhpaaKSf
import Derived.Test.YtijpmidnclbhpaaKM1
import Derived.Test.YtijpmidnclbhpaaMayP
import Derived.Test.YtijpmidnclbhpaaTypes
namespace Go.Proofs.Ytijpmidnclbhpaa
open Go.RowKit
set_option maxRecDepth 100000
def o9_1:List SO:=((SO.mk (some 38) (.bin .eql 30 (.tmp 37) (.const (Value.int .i64 0))) (some (33 ,true))) :: (SO.mk (some 39) (.pick (.tmp 33) (.tmp 38) (.const (Value.bool false))) none) :: [])
theorem v9_1:type_of% (@swl _ _ o9_1.eq_1):=@swl _ _ o9_1.eq_1
def o9_2:List SO:=((SO.mk (some 34) (.move (.tmp 4)) (some (33 ,true))) :: (SO.mk (some 35) (.nilCheck (.tmp 34)) (some (33 ,true))) :: (SO.mk (some 36) (.faddr 85 (.tmp 35) 2) (some (33 ,true))) :: (SO.mk (some 37) (.load 30 (.tmp 36)) (some (33 ,true))) :: o9_1)
theorem v9_2:type_of% (@swl _ _ o9_2.eq_1):=@swl _ _ o9_2.eq_1
def c9_3:SC:=(.cond (.tmp 39) .skip (.exit 0))
theorem u9_3:type_of% (@swc _ _ c9_3.eq_1):=@swc _ _ c9_3.eq_1
def o9_4:List SO:=((SO.mk (some 56) (.app 22 22 (.tmp 53) (.tmp 55)) none) :: (SO.mk (some 57) (.faddr 28 (.tmp 5) 2) none) :: (SO.mk none (.store 22 (.tmp 57) (.tmp 56)) none) :: [])
theorem v9_4:type_of% (@swl _ _ o9_4.eq_1):=@swl _ _ o9_4.eq_1
def c9_5:SC:=(.reg ((SO.mk (some 52) (.faddr 28 (.tmp 5) 2) none) :: (SO.mk (some 53) (.load 22 (.tmp 52)) none) :: (SO.mk (some 54) (.load 47 (.tmp 8)) none) :: (SO.mk (some 55) (.bslice 22 1 [(0 ,(.tmp 54))]) none) :: o9_4))
theorem u9_5:type_of% (@swc _ _ c9_5.eq_1):=@swc _ _ c9_5.eq_1
def c9_6:SC:=(.seq (.reg [SO.mk (some 49) (.move (.tmp 4)) none,SO.mk (some 50) (.call 45 [(.tmp 49)]) none,SO.mk (some 51) (.faddr 47 (.tmp 8) 2) none,SO.mk none (.store 45 (.tmp 51) (.tmp 50)) none]) (.keep [8,7,6,0,4,5,2] c9_5))
theorem u9_6:type_of% (@swc _ _ c9_6.eq_1):=@swc _ _ c9_6.eq_1
def c9_7:SC:=(.seq (.reg [SO.mk (some 46) (.move (.tmp 4)) none,SO.mk (some 47) (.call 43 [(.tmp 46),(.const (Value.int .i64 1))]) none,SO.mk (some 48) (.faddr 47 (.tmp 8) 1) none,SO.mk none (.store 3 (.tmp 48) (.tmp 47)) none]) (.keep [8,7,6,0,4,5,2] c9_6))
theorem u9_7:type_of% (@swc _ _ c9_7.eq_1):=@swc _ _ c9_7.eq_1
def c9_8:SC:=(.seq (.reg [SO.mk (some 43) (.move (.tmp 4)) none,SO.mk (some 44) (.call 44 [(.tmp 43)]) none,SO.mk (some 45) (.faddr 47 (.tmp 8) 0) none,SO.mk none (.store 9 (.tmp 45) (.tmp 44)) none]) (.keep [8,7,6,0,4,5,2] c9_7))
theorem u9_8:type_of% (@swc _ _ c9_8.eq_1):=@swc _ _ c9_8.eq_1
def c9_9:SC:=(.reg [SO.mk (some 40) (.move (.tmp 7)) none,SO.mk (some 41) (.bin .add 3 (.tmp 40) (.const (Value.int .i64 1))) none,SO.mk (some 7) (.move (.tmp 41)) none])
theorem u9_9:type_of% (@swc _ _ c9_9.eq_1):=@swc _ _ c9_9.eq_1
def c9_10:SC:=(.seq (.block 1 (.seq (.reg [SO.mk (some 42) (.build 47 []) none,SO.mk (some 8) (.alloc 47) none,SO.mk none (.store 47 (.tmp 8) (.tmp 42)) none]) (.keep [8,7,6,0,4,5,2] c9_8))) (.keep [7,6,0,4,5,2] c9_9))
theorem u9_10:type_of% (@swc _ _ c9_10.eq_1):=@swc _ _ c9_10.eq_1
def c9_11:SC:=(.seq (.seq (.reg ((SO.mk (some 30) (.move (.tmp 7)) none) :: (SO.mk (some 31) (.move (.tmp 6)) none) :: (SO.mk (some 32) (.bin .lss 3 (.tmp 30) (.tmp 31)) none) :: (SO.mk (some 33) (.move (.tmp 32)) none) :: o9_2)) (.keep [39,6,7,0,4,5,2] c9_3)) (.keep [7,6,0,4,5,2] c9_10))
theorem u9_11:type_of% (@swc _ _ c9_11.eq_1):=@swc _ _ c9_11.eq_1
def c9_12:SC:=(.block 0 (.loop (.keep [6,7,0,4,5,2] c9_11)))
theorem u9_12:type_of% (@swc _ _ c9_12.eq_1):=@swc _ _ c9_12.eq_1
def o9_13:List SO:=((SO.mk (some 68) (.bin .eql 30 (.tmp 67) (.const (Value.int .i64 0))) (some (63 ,true))) :: (SO.mk (some 69) (.pick (.tmp 63) (.tmp 68) (.const (Value.bool false))) none) :: [])
theorem v9_13:type_of% (@swl _ _ o9_13.eq_1):=@swl _ _ o9_13.eq_1
def o9_14:List SO:=((SO.mk (some 64) (.move (.tmp 4)) (some (63 ,true))) :: (SO.mk (some 65) (.nilCheck (.tmp 64)) (some (63 ,true))) :: (SO.mk (some 66) (.faddr 85 (.tmp 65) 2) (some (63 ,true))) :: (SO.mk (some 67) (.load 30 (.tmp 66)) (some (63 ,true))) :: o9_13)
theorem v9_14:type_of% (@swl _ _ o9_14.eq_1):=@swl _ _ o9_14.eq_1
def c9_15:SC:=(.cond (.tmp 69) .skip (.exit 2))
theorem u9_15:type_of% (@swc _ _ c9_15.eq_1):=@swc _ _ c9_15.eq_1
def o9_16:List SO:=((SO.mk (some 78) (.app 23 23 (.tmp 75) (.tmp 77)) none) :: (SO.mk (some 79) (.faddr 28 (.tmp 5) 3) none) :: (SO.mk none (.store 23 (.tmp 79) (.tmp 78)) none) :: [])
theorem v9_16:type_of% (@swl _ _ o9_16.eq_1):=@swl _ _ o9_16.eq_1
def c9_17:SC:=(.reg ((SO.mk (some 74) (.faddr 28 (.tmp 5) 3) none) :: (SO.mk (some 75) (.load 23 (.tmp 74)) none) :: (SO.mk (some 76) (.load 51 (.tmp 10)) none) :: (SO.mk (some 77) (.bslice 23 1 [(0 ,(.tmp 76))]) none) :: o9_16))
theorem u9_17:type_of% (@swc _ _ c9_17.eq_1):=@swc _ _ c9_17.eq_1
def c9_18:SC:=(.reg [SO.mk (some 70) (.move (.tmp 9)) none,SO.mk (some 71) (.bin .add 3 (.tmp 70) (.const (Value.int .i64 1))) none,SO.mk (some 9) (.move (.tmp 71)) none])
theorem u9_18:type_of% (@swc _ _ c9_18.eq_1):=@swc _ _ c9_18.eq_1
def c9_19:SC:=(.seq (.block 3 (.seq (.reg [SO.mk (some 72) (.move (.tmp 4)) none,SO.mk (some 73) (.call 46 [(.tmp 72)]) none,SO.mk (some 10) (.alloc 51) none,SO.mk none (.store 51 (.tmp 10) (.tmp 73)) none]) (.keep [10,9,6,0,4,5,2] c9_17))) (.keep [9,6,0,4,5,2] c9_18))
theorem u9_19:type_of% (@swc _ _ c9_19.eq_1):=@swc _ _ c9_19.eq_1
def c9_20:SC:=(.seq (.seq (.reg ((SO.mk (some 60) (.move (.tmp 9)) none) :: (SO.mk (some 61) (.move (.tmp 6)) none) :: (SO.mk (some 62) (.bin .lss 3 (.tmp 60) (.tmp 61)) none) :: (SO.mk (some 63) (.move (.tmp 62)) none) :: o9_14)) (.keep [69,6,9,0,4,5,2] c9_15)) (.keep [9,6,0,4,5,2] c9_19))
theorem u9_20:type_of% (@swc _ _ c9_20.eq_1):=@swc _ _ c9_20.eq_1
def c9_21:SC:=(.block 2 (.loop (.keep [6,9,0,4,5,2] c9_20)))
theorem u9_21:type_of% (@swc _ _ c9_21.eq_1):=@swc _ _ c9_21.eq_1
def o9_22:List SO:=((SO.mk (some 90) (.bin .eql 30 (.tmp 89) (.const (Value.int .i64 0))) (some (85 ,true))) :: (SO.mk (some 91) (.pick (.tmp 85) (.tmp 90) (.const (Value.bool false))) none) :: [])
theorem v9_22:type_of% (@swl _ _ o9_22.eq_1):=@swl _ _ o9_22.eq_1
def o9_23:List SO:=((SO.mk (some 86) (.move (.tmp 4)) (some (85 ,true))) :: (SO.mk (some 87) (.nilCheck (.tmp 86)) (some (85 ,true))) :: (SO.mk (some 88) (.faddr 85 (.tmp 87) 2) (some (85 ,true))) :: (SO.mk (some 89) (.load 30 (.tmp 88)) (some (85 ,true))) :: o9_22)
theorem v9_23:type_of% (@swl _ _ o9_23.eq_1):=@swl _ _ o9_23.eq_1
def c9_24:SC:=(.cond (.tmp 91) .skip (.exit 4))
theorem u9_24:type_of% (@swc _ _ c9_24.eq_1):=@swc _ _ c9_24.eq_1
def o9_25:List SO:=((SO.mk (some 114) (.bin .eql 30 (.tmp 113) (.const (Value.int .i64 0))) (some (109 ,true))) :: (SO.mk (some 115) (.pick (.tmp 109) (.tmp 114) (.const (Value.bool false))) none) :: [])
theorem v9_25:type_of% (@swl _ _ o9_25.eq_1):=@swl _ _ o9_25.eq_1
def o9_26:List SO:=((SO.mk (some 110) (.move (.tmp 4)) (some (109 ,true))) :: (SO.mk (some 111) (.nilCheck (.tmp 110)) (some (109 ,true))) :: (SO.mk (some 112) (.faddr 85 (.tmp 111) 2) (some (109 ,true))) :: (SO.mk (some 113) (.load 30 (.tmp 112)) (some (109 ,true))) :: o9_25)
theorem v9_26:type_of% (@swl _ _ o9_26.eq_1):=@swl _ _ o9_26.eq_1
def c9_27:SC:=(.cond (.tmp 115) .skip (.exit 6))
theorem u9_27:type_of% (@swc _ _ c9_27.eq_1):=@swc _ _ c9_27.eq_1
def o9_28:List SO:=((SO.mk (some 124) (.app 53 53 (.tmp 121) (.tmp 123)) none) :: (SO.mk (some 125) (.faddr 55 (.tmp 12) 3) none) :: (SO.mk none (.store 53 (.tmp 125) (.tmp 124)) none) :: [])
theorem v9_28:type_of% (@swl _ _ o9_28.eq_1):=@swl _ _ o9_28.eq_1
def c9_29:SC:=(.reg ((SO.mk (some 120) (.faddr 55 (.tmp 12) 3) none) :: (SO.mk (some 121) (.load 53 (.tmp 120)) none) :: (SO.mk (some 122) (.load 57 (.tmp 15)) none) :: (SO.mk (some 123) (.bslice 53 1 [(0 ,(.tmp 122))]) none) :: o9_28))
theorem u9_29:type_of% (@swc _ _ c9_29.eq_1):=@swc _ _ c9_29.eq_1
def c9_30:SC:=(.reg [SO.mk (some 116) (.move (.tmp 14)) none,SO.mk (some 117) (.bin .add 3 (.tmp 116) (.const (Value.int .i64 1))) none,SO.mk (some 14) (.move (.tmp 117)) none])
theorem u9_30:type_of% (@swc _ _ c9_30.eq_1):=@swc _ _ c9_30.eq_1
def c9_31:SC:=(.seq (.block 7 (.seq (.reg [SO.mk (some 118) (.move (.tmp 4)) none,SO.mk (some 119) (.call 47 [(.tmp 118)]) none,SO.mk (some 15) (.alloc 57) none,SO.mk none (.store 57 (.tmp 15) (.tmp 119)) none]) (.keep [15,14,13,12,11,6,0,4,5,2] c9_29))) (.keep [14,13,12,11,6,0,4,5,2] c9_30))
theorem u9_31:type_of% (@swc _ _ c9_31.eq_1):=@swc _ _ c9_31.eq_1
def c9_32:SC:=(.seq (.seq (.reg ((SO.mk (some 106) (.move (.tmp 14)) none) :: (SO.mk (some 107) (.move (.tmp 13)) none) :: (SO.mk (some 108) (.bin .lss 3 (.tmp 106) (.tmp 107)) none) :: (SO.mk (some 109) (.move (.tmp 108)) none) :: o9_26)) (.keep [115,13,14,12,11,6,0,4,5,2] c9_27)) (.keep [14,13,12,11,6,0,4,5,2] c9_31))
theorem u9_32:type_of% (@swc _ _ c9_32.eq_1):=@swc _ _ c9_32.eq_1
def c9_33:SC:=(.block 6 (.loop (.keep [13,14,12,11,6,0,4,5,2] c9_32)))
theorem u9_33:type_of% (@swc _ _ c9_33.eq_1):=@swc _ _ c9_33.eq_1
def o9_34:List SO:=((SO.mk (some 130) (.app 24 24 (.tmp 127) (.tmp 129)) none) :: (SO.mk (some 131) (.faddr 28 (.tmp 5) 4) none) :: (SO.mk none (.store 24 (.tmp 131) (.tmp 130)) none) :: [])
theorem v9_34:type_of% (@swl _ _ o9_34.eq_1):=@swl _ _ o9_34.eq_1
def c9_35:SC:=(.reg ((SO.mk (some 126) (.faddr 28 (.tmp 5) 4) none) :: (SO.mk (some 127) (.load 24 (.tmp 126)) none) :: (SO.mk (some 128) (.load 55 (.tmp 12)) none) :: (SO.mk (some 129) (.bslice 24 1 [(0 ,(.tmp 128))]) none) :: o9_34))
theorem u9_35:type_of% (@swc _ _ c9_35.eq_1):=@swc _ _ c9_35.eq_1
def c9_36:SC:=(.seq (.seq (.reg [SO.mk (some 14) (.move (.const (Value.int .i64 0))) none]) (.keep [13,14,12,11,6,0,4,5,2] c9_33)) (.keep [12,11,6,0,4,5,2] c9_35))
theorem u9_36:type_of% (@swc _ _ c9_36.eq_1):=@swc _ _ c9_36.eq_1
def c9_37:SC:=(.seq (.reg [SO.mk (some 104) (.move (.tmp 4)) none,SO.mk (some 105) (.call 43 [(.tmp 104),(.const (Value.int .i64 1))]) none,SO.mk (some 13) (.move (.tmp 105)) none]) (.keep [13,12,11,6,0,4,5,2] c9_36))
theorem u9_37:type_of% (@swc _ _ c9_37.eq_1):=@swc _ _ c9_37.eq_1
def c9_38:SC:=(.seq (.reg [SO.mk (some 101) (.move (.tmp 4)) none,SO.mk (some 102) (.call 44 [(.tmp 101)]) none,SO.mk (some 103) (.faddr 55 (.tmp 12) 2) none,SO.mk none (.store 9 (.tmp 103) (.tmp 102)) none]) (.keep [12,11,6,0,4,5,2] c9_37))
theorem u9_38:type_of% (@swc _ _ c9_38.eq_1):=@swc _ _ c9_38.eq_1
def c9_39:SC:=(.seq (.reg [SO.mk (some 98) (.move (.tmp 4)) none,SO.mk (some 99) (.call 44 [(.tmp 98)]) none,SO.mk (some 100) (.faddr 55 (.tmp 12) 1) none,SO.mk none (.store 9 (.tmp 100) (.tmp 99)) none]) (.keep [12,11,6,0,4,5,2] c9_38))
theorem u9_39:type_of% (@swc _ _ c9_39.eq_1):=@swc _ _ c9_39.eq_1
def c9_40:SC:=(.seq (.reg [SO.mk (some 95) (.move (.tmp 4)) none,SO.mk (some 96) (.call 43 [(.tmp 95),(.const (Value.int .i64 3))]) none,SO.mk (some 97) (.faddr 55 (.tmp 12) 0) none,SO.mk none (.store 3 (.tmp 97) (.tmp 96)) none]) (.keep [12,11,6,0,4,5,2] c9_39))
theorem u9_40:type_of% (@swc _ _ c9_40.eq_1):=@swc _ _ c9_40.eq_1
def c9_41:SC:=(.reg [SO.mk (some 92) (.move (.tmp 11)) none,SO.mk (some 93) (.bin .add 3 (.tmp 92) (.const (Value.int .i64 1))) none,SO.mk (some 11) (.move (.tmp 93)) none])
theorem u9_41:type_of% (@swc _ _ c9_41.eq_1):=@swc _ _ c9_41.eq_1
def c9_42:SC:=(.seq (.block 5 (.seq (.reg [SO.mk (some 94) (.build 55 []) none,SO.mk (some 12) (.alloc 55) none,SO.mk none (.store 55 (.tmp 12) (.tmp 94)) none]) (.keep [12,11,6,0,4,5,2] c9_40))) (.keep [11,6,0,4,5,2] c9_41))
theorem u9_42:type_of% (@swc _ _ c9_42.eq_1):=@swc _ _ c9_42.eq_1
def c9_43:SC:=(.seq (.seq (.reg ((SO.mk (some 82) (.move (.tmp 11)) none) :: (SO.mk (some 83) (.move (.tmp 6)) none) :: (SO.mk (some 84) (.bin .lss 3 (.tmp 82) (.tmp 83)) none) :: (SO.mk (some 85) (.move (.tmp 84)) none) :: o9_23)) (.keep [91,6,11,0,4,5,2] c9_24)) (.keep [11,6,0,4,5,2] c9_42))
theorem u9_43:type_of% (@swc _ _ c9_43.eq_1):=@swc _ _ c9_43.eq_1
def c9_44:SC:=(.block 4 (.loop (.keep [6,11,0,4,5,2] c9_43)))
theorem u9_44:type_of% (@swc _ _ c9_44.eq_1):=@swc _ _ c9_44.eq_1
def o9_45:List SO:=((SO.mk (some 142) (.bin .eql 30 (.tmp 141) (.const (Value.int .i64 0))) (some (137 ,true))) :: (SO.mk (some 143) (.pick (.tmp 137) (.tmp 142) (.const (Value.bool false))) none) :: [])
theorem v9_45:type_of% (@swl _ _ o9_45.eq_1):=@swl _ _ o9_45.eq_1
def o9_46:List SO:=((SO.mk (some 138) (.move (.tmp 4)) (some (137 ,true))) :: (SO.mk (some 139) (.nilCheck (.tmp 138)) (some (137 ,true))) :: (SO.mk (some 140) (.faddr 85 (.tmp 139) 2) (some (137 ,true))) :: (SO.mk (some 141) (.load 30 (.tmp 140)) (some (137 ,true))) :: o9_45)
theorem v9_46:type_of% (@swl _ _ o9_46.eq_1):=@swl _ _ o9_46.eq_1
def c9_47:SC:=(.cond (.tmp 143) .skip (.exit 8))
theorem u9_47:type_of% (@swc _ _ c9_47.eq_1):=@swc _ _ c9_47.eq_1
def o9_48:List SO:=((SO.mk (some 152) (.app 25 25 (.tmp 149) (.tmp 151)) none) :: (SO.mk (some 153) (.faddr 28 (.tmp 5) 5) none) :: (SO.mk none (.store 25 (.tmp 153) (.tmp 152)) none) :: [])
theorem v9_48:type_of% (@swl _ _ o9_48.eq_1):=@swl _ _ o9_48.eq_1
def c9_49:SC:=(.reg ((SO.mk (some 148) (.faddr 28 (.tmp 5) 5) none) :: (SO.mk (some 149) (.load 25 (.tmp 148)) none) :: (SO.mk (some 150) (.load 60 (.tmp 17)) none) :: (SO.mk (some 151) (.bslice 25 1 [(0 ,(.tmp 150))]) none) :: o9_48))
theorem u9_49:type_of% (@swc _ _ c9_49.eq_1):=@swc _ _ c9_49.eq_1
def c9_50:SC:=(.reg [SO.mk (some 144) (.move (.tmp 16)) none,SO.mk (some 145) (.bin .add 3 (.tmp 144) (.const (Value.int .i64 1))) none,SO.mk (some 16) (.move (.tmp 145)) none])
theorem u9_50:type_of% (@swc _ _ c9_50.eq_1):=@swc _ _ c9_50.eq_1
def c9_51:SC:=(.seq (.block 9 (.seq (.reg [SO.mk (some 146) (.move (.tmp 4)) none,SO.mk (some 147) (.call 48 [(.tmp 146)]) none,SO.mk (some 17) (.alloc 60) none,SO.mk none (.store 60 (.tmp 17) (.tmp 147)) none]) (.keep [17,16,6,0,4,5,2] c9_49))) (.keep [16,6,0,4,5,2] c9_50))
theorem u9_51:type_of% (@swc _ _ c9_51.eq_1):=@swc _ _ c9_51.eq_1
def c9_52:SC:=(.seq (.seq (.reg ((SO.mk (some 134) (.move (.tmp 16)) none) :: (SO.mk (some 135) (.move (.tmp 6)) none) :: (SO.mk (some 136) (.bin .lss 3 (.tmp 134) (.tmp 135)) none) :: (SO.mk (some 137) (.move (.tmp 136)) none) :: o9_46)) (.keep [143,6,16,0,4,5,2] c9_47)) (.keep [16,6,0,4,5,2] c9_51))
theorem u9_52:type_of% (@swc _ _ c9_52.eq_1):=@swc _ _ c9_52.eq_1
def c9_53:SC:=(.block 8 (.loop (.keep [6,16,0,4,5,2] c9_52)))
theorem u9_53:type_of% (@swc _ _ c9_53.eq_1):=@swc _ _ c9_53.eq_1
def o9_54:List SO:=((SO.mk (some 169) (.bin .lss 3 (.tmp 166) (.tmp 168)) (some (162 ,true))) :: (SO.mk (some 170) (.pick (.tmp 162) (.tmp 169) (.const (Value.bool false))) none) :: [])
theorem v9_54:type_of% (@swl _ _ o9_54.eq_1):=@swl _ _ o9_54.eq_1
def o9_55:List SO:=((SO.mk (some 165) (.faddr 85 (.tmp 164) 1) (some (162 ,true))) :: (SO.mk (some 166) (.load 3 (.tmp 165)) (some (162 ,true))) :: (SO.mk (some 167) (.move (.tmp 0)) (some (162 ,true))) :: (SO.mk (some 168) (.len 29 (.tmp 167)) (some (162 ,true))) :: o9_54)
theorem v9_55:type_of% (@swl _ _ o9_55.eq_1):=@swl _ _ o9_55.eq_1
def o9_56:List SO:=((SO.mk (some 161) (.bin .eql 30 (.tmp 160) (.const (Value.int .i64 0))) none) :: (SO.mk (some 162) (.move (.tmp 161)) none) :: (SO.mk (some 163) (.move (.tmp 4)) (some (162 ,true))) :: (SO.mk (some 164) (.nilCheck (.tmp 163)) (some (162 ,true))) :: o9_55)
theorem v9_56:type_of% (@swl _ _ o9_56.eq_1):=@swl _ _ o9_56.eq_1
def c9_57:SC:=(.reg [SO.mk (some 171) (.move (.tmp 4)) none,SO.mk (some 172) (.nilCheck (.tmp 171)) none,SO.mk (some 173) (.faddr 85 (.tmp 172) 2) none,SO.mk none (.store 30 (.tmp 173) (.const (Value.int .i64 4))) none])
theorem u9_57:type_of% (@swc _ _ c9_57.eq_1):=@swc _ _ c9_57.eq_1
def c9_58:SC:=(.cond (.tmp 170) c9_57 .skip)
theorem u9_58:type_of% (@swc _ _ c9_58.eq_1):=@swc _ _ c9_58.eq_1
def o9_59:List SO:=((SO.mk (some 182) (.un .not (.tmp 181)) (some (179 ,true))) :: (SO.mk (some 183) (.pick (.tmp 179) (.tmp 182) (.const (Value.bool false))) none) :: [])
theorem v9_59:type_of% (@swl _ _ o9_59.eq_1):=@swl _ _ o9_59.eq_1
def o9_60:List SO:=((SO.mk (some 178) (.bin .eql 30 (.tmp 177) (.const (Value.int .i64 0))) none) :: (SO.mk (some 179) (.move (.tmp 178)) none) :: (SO.mk (some 180) (.load 28 (.tmp 5)) (some (179 ,true))) :: (SO.mk (some 181) (.call 19 [(.tmp 180)]) (some (179 ,true))) :: o9_59)
theorem v9_60:type_of% (@swl _ _ o9_60.eq_1):=@swl _ _ o9_60.eq_1
def c9_61:SC:=(.reg [SO.mk (some 184) (.move (.tmp 4)) none,SO.mk (some 185) (.nilCheck (.tmp 184)) none,SO.mk (some 186) (.faddr 85 (.tmp 185) 2) none,SO.mk none (.store 30 (.tmp 186) (.const (Value.int .i64 9))) none])
theorem u9_61:type_of% (@swc _ _ c9_61.eq_1):=@swc _ _ c9_61.eq_1
def c9_62:SC:=(.cond (.tmp 183) c9_61 .skip)
theorem u9_62:type_of% (@swc _ _ c9_62.eq_1):=@swc _ _ c9_62.eq_1
def c9_63:SC:=(.seq (.dreg true [SO.mk (some 192) (.build 28 []) none,SO.mk (some 193) (.move (.tmp 4)) none,SO.mk (some 194) (.nilCheck (.tmp 193)) none,SO.mk (some 195) (.faddr 85 (.tmp 194) 2) none,SO.mk (some 196) (.load 30 (.tmp 195)) none] [SO.mk none (.store 28 (.tmp 2) (.tmp 192)) none,SO.mk (some 3) (.move (.tmp 196)) none]) (.keep [2,3] .ret))
theorem u9_63:type_of% (@swc _ _ c9_63.eq_1):=@swc _ _ c9_63.eq_1
def c9_64:SC:=(.cond (.tmp 191) c9_63 .skip)
theorem u9_64:type_of% (@swc _ _ c9_64.eq_1):=@swc _ _ c9_64.eq_1
def c9_65:SC:=(.seq (.reg [SO.mk (some 197) (.load 28 (.tmp 5)) none,SO.mk none (.store 28 (.tmp 2) (.tmp 197)) none,SO.mk (some 3) (.move (.const (Value.int .i64 0))) none]) (.keep [2,3] .ret))
theorem u9_65:type_of% (@swc _ _ c9_65.eq_1):=@swc _ _ c9_65.eq_1
def c9_66:SC:=(.seq (.seq (.reg [SO.mk (some 187) (.move (.tmp 4)) none,SO.mk (some 188) (.nilCheck (.tmp 187)) none,SO.mk (some 189) (.faddr 85 (.tmp 188) 2) none,SO.mk (some 190) (.load 30 (.tmp 189)) none,SO.mk (some 191) (.bin .neq 30 (.tmp 190) (.const (Value.int .i64 0))) none]) (.keep [191,4,5,2] c9_64)) (.keep [5,2] c9_65))
theorem u9_66:type_of% (@swc _ _ c9_66.eq_1):=@swc _ _ c9_66.eq_1
def c9_67:SC:=(.seq (.seq (.reg ((SO.mk (some 174) (.move (.tmp 4)) none) :: (SO.mk (some 175) (.nilCheck (.tmp 174)) none) :: (SO.mk (some 176) (.faddr 85 (.tmp 175) 2) none) :: (SO.mk (some 177) (.load 30 (.tmp 176)) none) :: o9_60)) (.keep [183,4,5,2] c9_62)) (.keep [4,5,2] c9_66))
theorem u9_67:type_of% (@swc _ _ c9_67.eq_1):=@swc _ _ c9_67.eq_1
def c9_68:SC:=(.seq (.seq (.reg ((SO.mk (some 157) (.move (.tmp 4)) none) :: (SO.mk (some 158) (.nilCheck (.tmp 157)) none) :: (SO.mk (some 159) (.faddr 85 (.tmp 158) 2) none) :: (SO.mk (some 160) (.load 30 (.tmp 159)) none) :: o9_56)) (.keep [170,4,5,2] c9_58)) (.keep [4,5,2] c9_67))
theorem u9_68:type_of% (@swc _ _ c9_68.eq_1):=@swc _ _ c9_68.eq_1
def c9_69:SC:=(.seq (.reg [SO.mk (some 154) (.move (.tmp 4)) none,SO.mk (some 155) (.call 49 [(.tmp 154)]) none,SO.mk (some 156) (.faddr 28 (.tmp 5) 6) none,SO.mk none (.store 26 (.tmp 156) (.tmp 155)) none]) (.keep [0,4,5,2] c9_68))
theorem u9_69:type_of% (@swc _ _ c9_69.eq_1):=@swc _ _ c9_69.eq_1
def c9_70:SC:=(.seq (.seq (.reg [SO.mk (some 16) (.move (.const (Value.int .i64 0))) none]) (.keep [6,16,0,4,5,2] c9_53)) (.keep [0,4,5,2] c9_69))
theorem u9_70:type_of% (@swc _ _ c9_70.eq_1):=@swc _ _ c9_70.eq_1
def c9_71:SC:=(.seq (.reg [SO.mk (some 132) (.move (.tmp 4)) none,SO.mk (some 133) (.call 43 [(.tmp 132),(.const (Value.int .i64 1))]) none,SO.mk (some 6) (.move (.tmp 133)) none]) (.keep [6,0,4,5,2] c9_70))
theorem u9_71:type_of% (@swc _ _ c9_71.eq_1):=@swc _ _ c9_71.eq_1
def c9_72:SC:=(.seq (.seq (.reg [SO.mk (some 11) (.move (.const (Value.int .i64 0))) none]) (.keep [6,11,0,4,5,2] c9_44)) (.keep [0,4,5,2] c9_71))
theorem u9_72:type_of% (@swc _ _ c9_72.eq_1):=@swc _ _ c9_72.eq_1
def c9_73:SC:=(.seq (.reg [SO.mk (some 80) (.move (.tmp 4)) none,SO.mk (some 81) (.call 43 [(.tmp 80),(.const (Value.int .i64 1))]) none,SO.mk (some 6) (.move (.tmp 81)) none]) (.keep [6,0,4,5,2] c9_72))
theorem u9_73:type_of% (@swc _ _ c9_73.eq_1):=@swc _ _ c9_73.eq_1
def c9_74:SC:=(.seq (.seq (.reg [SO.mk (some 9) (.move (.const (Value.int .i64 0))) none]) (.keep [6,9,0,4,5,2] c9_21)) (.keep [0,4,5,2] c9_73))
theorem u9_74:type_of% (@swc _ _ c9_74.eq_1):=@swc _ _ c9_74.eq_1
def c9_75:SC:=(.seq (.reg [SO.mk (some 58) (.move (.tmp 4)) none,SO.mk (some 59) (.call 43 [(.tmp 58),(.const (Value.int .i64 1))]) none,SO.mk (some 6) (.move (.tmp 59)) none]) (.keep [6,0,4,5,2] c9_74))
theorem u9_75:type_of% (@swc _ _ c9_75.eq_1):=@swc _ _ c9_75.eq_1
def c9_76:SC:=(.seq (.seq (.reg [SO.mk (some 7) (.move (.const (Value.int .i64 0))) none]) (.keep [6,7,0,4,5,2] c9_12)) (.keep [0,4,5,2] c9_75))
theorem u9_76:type_of% (@swc _ _ c9_76.eq_1):=@swc _ _ c9_76.eq_1
def c9_77:SC:=(.seq (.reg [SO.mk (some 28) (.move (.tmp 4)) none,SO.mk (some 29) (.call 43 [(.tmp 28),(.const (Value.int .i64 1))]) none,SO.mk (some 6) (.move (.tmp 29)) none]) (.keep [6,0,4,5,2] c9_76))
theorem u9_77:type_of% (@swc _ _ c9_77.eq_1):=@swc _ _ c9_77.eq_1
def c9_78:SC:=(.seq (.reg [SO.mk (some 25) (.move (.tmp 4)) none,SO.mk (some 26) (.call 43 [(.tmp 25),(.const (Value.int .i64 4))]) none,SO.mk (some 27) (.faddr 28 (.tmp 5) 1) none,SO.mk none (.store 3 (.tmp 27) (.tmp 26)) none]) (.keep [0,4,5,2] c9_77))
theorem u9_78:type_of% (@swc _ _ c9_78.eq_1):=@swc _ _ c9_78.eq_1
def c9_79:SC:=(.seq (.reg [SO.mk (some 22) (.move (.tmp 4)) none,SO.mk (some 23) (.call 43 [(.tmp 22),(.const (Value.int .i64 3))]) none,SO.mk (some 24) (.faddr 28 (.tmp 5) 0) none,SO.mk none (.store 3 (.tmp 24) (.tmp 23)) none]) (.keep [0,4,5,2] c9_78))
theorem u9_79:type_of% (@swc _ _ c9_79.eq_1):=@swc _ _ c9_79.eq_1
def c9_80:SC:=(.seq (.reg [SO.mk (some 21) (.build 28 []) none,SO.mk (some 5) (.alloc 28) none,SO.mk none (.store 28 (.tmp 5) (.tmp 21)) none]) (.keep [0,4,5,2] c9_79))
theorem u9_80:type_of% (@swc _ _ c9_80.eq_1):=@swc _ _ c9_80.eq_1
def c9_81:SC:=(.seq (.reg [SO.mk (some 18) (.move (.tmp 0)) none,SO.mk (some 19) (.build 85 [(0 ,(.tmp 18))]) none,SO.mk (some 20) (.box 85 (.tmp 19)) none,SO.mk (some 4) (.move (.tmp 20)) none]) (.keep [0,4,2] c9_80))
theorem u9_81:type_of% (@swc _ _ c9_81.eq_1):=@swc _ _ c9_81.eq_1
def c9:SC:=(.seq (.reg [SO.mk (some 2) (.alloc 28) none,SO.mk (some 3) (.move (.const (Value.int .i64 0))) none]) (.keep [0,2] c9_81))
theorem c9_eq:annC Try.f9 = some c9:=by kernel_rfl
theorem r9:Try.f9.results.toList = [.cell 2 28,.tmp 3]:=by kernel_rfl
theorem e9:enters Try.prog 9 = true:=by kernel_rfl
end Go.Proofs.Ytijpmidnclbhpaa
namespace Go.Proofs.Ytijpmidnclbhpaa
open Go.RowKit
set_option maxHeartbeats 4000000
set_option maxRecDepth 20000
attribute [local irreducible] SW OSW SWL SWLn SWD SEcall SEcallv SDv SE SO1 SOg ACalls ACallv Wk EndV
set_option linter.unusedSimpArgs false
set_option linter.unusedVariables false
set_option maxHeartbeats 16000000
theorem mnS_suf {S:RdS → RdS} (h:∀ s,(S s).1 <:+ s.1) (s:RdS):∀ k,(mnS S s k).1 <:+ s.1
  | 0=>takS_suf s 1
  | k + 1=>(h _).trans (mnS_suf h s k)
theorem mnSe_suf {S:RdS → RdS} (h:∀ s,(S s).1 <:+ s.1) (s:RdS):(mnSe S s).1 <:+ s.1:=mnS_suf h s _
theorem bkS_suf (s:RdS):(bkS s).1 <:+ s.1:=(ruleS_suf _).trans ((takS_suf _ _).trans (textS_suf s))
theorem upT_suf (s:RdS):(upT s).1 <:+ s.1:=(mnSe_suf partS_suf _).trans ((textS_suf _).trans ((textS_suf _).trans (takS_suf s 3)))
theorem mnSe_eq (S:RdS → RdS) (s:RdS):mnS S s (mnM S s) = mnSe S s:=rfl
theorem mnLe_eq {α:Type} (N:RdS → α) (S:RdS → RdS) (s:RdS):mnL N S s (mnM S s) = mnLe N S s:=rfl
theorem eyO_fzB (bb b:List UInt8) (e:Int) (m:Nat) (rows:List (List RV)):(eyO bb b e).fzB m rows = eyO bb b e:=rfl
theorem stN_eq (b:List UInt8):stN b = ⟨takN (b,0) 3,takN (takS (b,0) 3) 4,mnLe bkN bkS (takS (takS (b,0) 3) 4),mnLe verN verS (mnSe bkS (takS (takS (b,0) 3) 4)),mnLe upN upT (mnSe verS (mnSe bkS (takS (takS (b,0) 3) 4))),mnLe askN askS (mnSe upT (mnSe verS (mnSe bkS (takS (takS (b,0) 3) 4)))),intsN (mnSe askS (mnSe upT (mnSe verS (mnSe bkS (takS (takS (b,0) 3) 4)))))⟩:=rfl
structure Hold (p:Prop):Prop where
  out:p
theorem holdE {p G:Prop} (h1:Hold p → G) (h2:p):G:=h1 ⟨h2⟩
theorem dec_sub (n m:Nat):decide ((n:Int) - m < n) = decide ((m:Int) > 0):=by rw [Bool.eq_iff_iff];simp;omega
theorem rdS_a {b:List UInt8} (h:((dS7 b).2 == 0) = false):rdV b = .tup [stZ0.av,I (dS7 b).2]:=by
  have e:endE (dS7 b) = (dS7 b).2:=by unfold endE;rw [h];rfl
  rw [rd_end_ (by rw [e];exact h),e]
theorem rdS_b {b:List UInt8} (h:((dS7 b).2 == 0) = true) (h2':decide ((b.length:Int) - (dS7 b).1.length < b.length) = true):rdV b = .tup [stZ0.av,I 4]:=by
  have h2:decide (((dS7 b).1.length:Int) > 0) = true:=by rw [← dec_sub b.length];exact h2'
  have e:endE (dS7 b) = 4:=by unfold endE;rw [h,h2];rfl
  rw [rd_end_ (by rw [e];rfl),e]
theorem rdS_c {b:List UInt8} (h:((dS7 b).2 == 0) = true) (h2':decide ((b.length:Int) - (dS7 b).1.length < b.length) = false) (hm:mayF (stN b) = false):rdV b = .tup [stZ0.av,I 9]:=by
  have h2:decide (((dS7 b).1.length:Int) > 0) = false:=by rw [← dec_sub b.length];exact h2'
  have e:endE (dS7 b) = 0:=by unfold endE;rw [h,h2];simpa using h
  exact rd_may (by rw [e];rfl) hm
theorem rdS_d {b:List UInt8} (h:((dS7 b).2 == 0) = true) (h2':decide ((b.length:Int) - (dS7 b).1.length < b.length) = false) (hm:mayF (stN b) = true):rdV b = .tup [(stN b).av,I 0]:=by
  have h2:decide (((dS7 b).1.length:Int) > 0) = false:=by rw [← dec_sub b.length];exact h2'
  have e:endE (dS7 b) = 0:=by unfold endE;rw [h,h2];simpa using h
  exact rd_ok (by rw [e];rfl) hm
theorem fzD (m:Nat) (rows:List (List RV)) (r:RV):AV.fz1 m rows (.d r) = .d r:=rfl
theorem fzO (m:Nat) (rows:List (List RV)) (n len:Nat):AV.fz1 m rows (.os n len) = if n = m then (if len ≤ rows.length then .d (.ro (rows.take len)) else .any) else .os n len:=rfl
theorem fzL (m:Nat) (rows:List (List RV)) (n o:Nat):AV.fz1 m rows (.lp n o) = if n = m then .any else .lp n o:=rfl
attribute [local irreducible] takS textS bitS intsS takN textN bitN intsN ruleS ruleN askS askN partS partN verS verN
theorem stOf_p (b:List UInt8):Pure Try.prog 9 [.d (bytes b)] (rdV b):=by
  refine pureY_of follows Try.func9 c9_eq r9 (Nat.le_of_ble_eq_true rfl) fun B σ hcl hsz=>?_
  have hbb:b.length ≤ 2 ^ 47:=by simpa [bytes] using (show Sized (.ro (b.map by_)) from hsz (.d (.ro (b.map by_))) (by simp [bytes])).len
  clear hsz
  have hrk:∀ k x,(σ x).kill (B + k) = σ x:=fun k x=>AO.kill_below (q:=fun m=>decide (m < B)) (by simp) _ (hcl x).1
  apply holdE
  · intro hL0
    have hf:AO.box [.d (.ro (b.map by_)),I 0,I 0] = eyO b b 0:=by unfold eyO;rw [Int.sub_self]
    repeat' (first | (simp -implicitDefEqProofs only [*,Nat.reduceBEq,↓reduceIte,Nat.reduceEqDiff,Nat.reduceAdd,reduceCtorEq,AV.kill,Int.reduceLT,Int.reduceToNat,List.getElem?_nil,Nat.reduceMul,Nat.reducePow,Nat.reduceLeDiff,rowOf_mapD,rowOf_mapI,rowOf_mapA,List.getElem?_cons_zero,List.getElem?_cons_succ,take_map_len,take_map_app,List.getElem?_cons_zero,c9,r9,v9_1,v9_2,u9_3,v9_4,u9_5,u9_6,u9_7,u9_8,u9_9,u9_10,u9_11,u9_12,v9_13,v9_14,u9_15,v9_16,u9_17,u9_18,u9_19,u9_20,u9_21,v9_22,v9_23,u9_24,v9_25,v9_26,u9_27,v9_28,u9_29,u9_30,u9_31,u9_32,u9_33,v9_34,u9_35,u9_36,u9_37,u9_38,u9_39,u9_40,u9_41,u9_42,u9_43,u9_44,v9_45,v9_46,u9_47,v9_48,u9_49,u9_50,u9_51,u9_52,u9_53,v9_54,v9_55,v9_56,u9_57,u9_58,v9_59,v9_60,u9_61,u9_62,u9_63,u9_64,u9_65,u9_66,u9_67,u9_68,u9_69,u9_70,u9_71,u9_72,u9_73,u9_74,u9_75,u9_76,u9_77,u9_78,u9_79,u9_80,u9_81,ty28,ty85,ty3,ty30,ty47,ty9,ty45,ty22,ty51,ty23,ty55,ty57,ty53,ty24,ty60,ty25,ty26,ty29,ty5,aokB,aokD,aokA,↓eyO_allN,↓eyO_kill,bytes,prEta,mvcgen_simp]) | (with_reducible refine And.intro ?_ ?_) | (refine call_e0 (d:=some 23) (by omega) e43 ( num_L 3 (by decide)) rfl ?_ ?_ hbb ?_ ?_ ?_ ?_ ?_) | (refine call_e1 (d:=some 23) (by omega) e43 ( num_L 3 (by decide)) rfl ?_ ?_ hbb ?_ ?_ ?_ ?_ ?_) | (refine call_e2 (d:=some 23) (by omega) e43 ( num_L 3 (by decide)) rfl ?_ ?_ hbb ?_ ?_ ?_ ?_ ?_) | (refine call_e0 (d:=some 26) (by omega) e43 ( num_L 4 (by decide)) rfl ?_ ?_ hbb ?_ ?_ ?_ ?_ ?_) | (refine call_e1 (d:=some 26) (by omega) e43 ( num_L 4 (by decide)) rfl ?_ ?_ hbb ?_ ?_ ?_ ?_ ?_) | (refine call_e2 (d:=some 26) (by omega) e43 ( num_L 4 (by decide)) rfl ?_ ?_ hbb ?_ ?_ ?_ ?_ ?_) | (refine call_e0 (d:=some 29) (by omega) e43 ( num_L 1 (by decide)) rfl ?_ ?_ hbb ?_ ?_ ?_ ?_ ?_) | (refine call_e1 (d:=some 29) (by omega) e43 ( num_L 1 (by decide)) rfl ?_ ?_ hbb ?_ ?_ ?_ ?_ ?_) | (refine call_e2 (d:=some 29) (by omega) e43 ( num_L 1 (by decide)) rfl ?_ ?_ hbb ?_ ?_ ?_ ?_ ?_) | (refine EndX.plain ?_) | (refine nil_split (fun hn=>?_) (fun hn=>?_)) | (refine gcall_no not_false ?_) | (refine gdcall_no not_false ?_) | (refine GuardS_of _ _ _ _ _ _ (fun hg=>?_) (fun hg=>?_)) | (refine GuardD_of _ _ _ _ (fun hg=>?_) (fun hg=>?_)) | (refine CondB_of _ _ _ _ _ _ _ ?_ (fun hg=>?_) (fun hg=>?_)))
    all_goals (try clear hf)
    all_goals first
      | (unfold Fr.below;simp [Fr.allN,AV.allN,AV.allNL];done)
      | (unfold Loc.below;simp only [List.all_cons,List.all_nil,eyO_allN];simp [AO.allN,AV.allN,AV.allNL];done)
      | (unfold noN;simp [Fr.allN,AV.allN,AV.allNL,AO.allN];done)
      | (intro z hz;simp only [List.mem_cons,List.not_mem_nil,or_false] at hz;rcases hz with rfl | rfl | rfl | rfl | rfl | rfl | rfl<;>simp;done)
      | (intro z hz;simp only [List.mem_cons,List.not_mem_nil,or_false] at hz;rcases hz with rfl | rfl | rfl | rfl | rfl | rfl<;>simp;done)
      | (intro z hz;simp only [List.mem_cons,List.not_mem_nil,or_false] at hz;rcases hz with rfl | rfl | rfl | rfl | rfl<;>simp;done)
      | (intro z hz;simp only [List.mem_cons,List.not_mem_nil,or_false] at hz;rcases hz with rfl | rfl | rfl | rfl<;>simp;done)
      | (intro z hz;simp only [List.mem_cons,List.not_mem_nil,or_false] at hz;rcases hz with rfl | rfl | rfl<;>simp;done)
      | (intro z hz;simp only [List.mem_cons,List.not_mem_nil,or_false] at hz;rcases hz with rfl | rfl<;>simp;done)
      | (intro z hz;simp only [List.mem_cons,List.not_mem_nil,or_false] at hz;subst hz;simp;done)
      | (intro z hz;cases hz;done)
      | exact .inl (by decide)
      | (show List.IsSuffix _ b;repeat' (first | exact List.suffix_refl _ | assumption | refine (takS_suf _ _).trans ?_ | refine (textS_suf _).trans ?_ | refine (mnS_suf partS_suf _ _).trans ?_ | refine (mnS_suf bkS_suf _ _).trans ?_ | refine (mnS_suf verS_suf _ _).trans ?_ | refine (mnS_suf askS_suf _ _).trans ?_ | refine (mnS_suf upT_suf _ _).trans ?_ | refine (mnSe_suf bkS_suf _).trans ?_ | refine (mnSe_suf verS_suf _).trans ?_ | refine (mnSe_suf upT_suf _).trans ?_ | refine (mnSe_suf askS_suf _).trans ?_))
      | trivial
      | (simp [avName,loadNames,opd,Fr.get];done)
      | (simp [allP,opd,Fr.get];done)
      | skip
    all_goals (
      repeat' (first | (simp -implicitDefEqProofs only [*,Nat.reduceBEq,↓reduceIte,Nat.reduceEqDiff,Nat.reduceAdd,reduceCtorEq,AV.kill,Int.reduceLT,Int.reduceToNat,List.getElem?_nil,Nat.reduceMul,Nat.reducePow,Nat.reduceLeDiff,rowOf_mapD,rowOf_mapI,rowOf_mapA,List.getElem?_cons_zero,List.getElem?_cons_succ,take_map_len,take_map_app,List.getElem?_cons_zero,c9,r9,v9_1,v9_2,u9_3,v9_4,u9_5,u9_6,u9_7,u9_8,u9_9,u9_10,u9_11,u9_12,v9_13,v9_14,u9_15,v9_16,u9_17,u9_18,u9_19,u9_20,u9_21,v9_22,v9_23,u9_24,v9_25,v9_26,u9_27,v9_28,u9_29,u9_30,u9_31,u9_32,u9_33,v9_34,u9_35,u9_36,u9_37,u9_38,u9_39,u9_40,u9_41,u9_42,u9_43,u9_44,v9_45,v9_46,u9_47,v9_48,u9_49,u9_50,u9_51,u9_52,u9_53,v9_54,v9_55,v9_56,u9_57,u9_58,v9_59,v9_60,u9_61,u9_62,u9_63,u9_64,u9_65,u9_66,u9_67,u9_68,u9_69,u9_70,u9_71,u9_72,u9_73,u9_74,u9_75,u9_76,u9_77,u9_78,u9_79,u9_80,u9_81,ty28,ty85,ty3,ty30,ty47,ty9,ty45,ty22,ty51,ty23,ty55,ty57,ty53,ty24,ty60,ty25,ty26,ty29,ty5,aokB,aokD,aokA,↓eyO_allN,↓eyO_kill,eyO,prEta,mnS_0,mnL_0,BktD.row,VerD.row,UpD.row,PartD.row,AskD.row,verV,partV,askV,RulD.av,ints,mvcgen_simp]) | (with_reducible refine And.intro ?_ ?_) | (refine call_e0 (d:=some 44) (by omega) e44 ( str_L) rfl ?_ ?_ hbb ?_ ?_ ?_ ?_ ?_) | (refine call_e1 (d:=some 44) (by omega) e44 ( str_L) rfl ?_ ?_ hbb ?_ ?_ ?_ ?_ ?_) | (refine call_e2 (d:=some 44) (by omega) e44 ( str_L) rfl ?_ ?_ hbb ?_ ?_ ?_ ?_ ?_) | (refine call_e0 (d:=some 47) (by omega) e43 ( num_L 1 (by decide)) rfl ?_ ?_ hbb ?_ ?_ ?_ ?_ ?_) | (refine call_e1 (d:=some 47) (by omega) e43 ( num_L 1 (by decide)) rfl ?_ ?_ hbb ?_ ?_ ?_ ?_ ?_) | (refine call_e2 (d:=some 47) (by omega) e43 ( num_L 1 (by decide)) rfl ?_ ?_ hbb ?_ ?_ ?_ ?_ ?_) | (refine call_e0 (d:=some 50) (by omega) e45 ( ruled_L) rfl ?_ ?_ hbb ?_ ?_ ?_ ?_ ?_) | (refine call_e1 (d:=some 50) (by omega) e45 ( ruled_L) rfl ?_ ?_ hbb ?_ ?_ ?_ ?_ ?_) | (refine call_e2 (d:=some 50) (by omega) e45 ( ruled_L) rfl ?_ ?_ hbb ?_ ?_ ?_ ?_ ?_) | (refine loop_nat ((takN (takS (takS (b,0) 3) 4) 1).toNat) (fun kb=>mnC bkS (takS (takS (b,0) 3) 4) ((takN (takS (takS (b,0) 3) 4) 1).toNat - kb) kb = mnM bkS (takS (takS (b,0) 3) 4)) (fun kb=>[(6,I (takN (takS (takS (b,0) 3) 4) 1)),(7,I kb),(0,.d (.ro (b.map by_))),(4,.lp (B + 20) 0),(5,.lp (B + 5) 0),(2,.lp (B + 2) 0)]) (fun kb=>[(B + 90001,.arr 5 47 ((mnL bkN bkS (takS (takS (b,0) 3) 4) kb).map BktD.row)),(B + 20,eyO b (mnS bkS (takS (takS (b,0) 3) 4) kb).1 (mnS bkS (takS (takS (b,0) 3) 4) kb).2),(B + 5,.box [I (takN (b,0) 3),I (takN (takS (b,0) 3) 4),.os (B + 90001) (mnL bkN bkS (takS (takS (b,0) 3) 4) kb).length,.d (.v (.slice none 0 0)),.d (.v (.slice none 0 0)),.d (.v (.slice none 0 0)),.d (.v (.slice none 0 0))]),(B + 2,.box [I 0,I 0,.d (.v (.slice none 0 0)),.d (.v (.slice none 0 0)),.d (.v (.slice none 0 0)),.d (.v (.slice none 0 0)),.d (.v (.slice none 0 0))])]) ?_ (Wk.trans (Wk.nameB (b:=B + 5) (j:=2) (n:=B + 90001) (k:=5) (E:=47) (cs:=[I (takN (b,0) 3),I (takN (takS (b,0) 3) 4),.d (.v (.slice none 0 0)),.d (.v (.slice none 0 0)),.d (.v (.slice none 0 0)),.d (.v (.slice none 0 0)),.d (.v (.slice none 0 0))]) (by simp [sto]) rfl (by omega) (by omega) (.inl (by omega)) (hrk 90001)) (Wk.keep hcl ?_ ?_ ?_)) fun kb hkb hFkb=>?_;rotate_left 1;(focus (simp [Fr.get,newF,Fr.map,AV.kill,AV.mapN,aokB,aokD,aokA,↓eyO_allN,↓eyO_kill,eyO,prEta,mnS_0,mnL_0,BktD.row,VerD.row,UpD.row,PartD.row,AskD.row,verV,partV,askV,RulD.av,ints]<;>fail));(focus (simp [sto,newL,Loc.kill,Loc.set,AO.kill,AV.kill,AV.mapN,aokB,aokD,aokA,↓eyO_allN,↓eyO_kill,eyO,prEta,mnS_0,mnL_0,BktD.row,VerD.row,UpD.row,PartD.row,AskD.row,verV,partV,askV,RulD.av,ints]<;>fail));(focus (simp [newL,Loc.kill,Loc.set,aokB,aokD,aokA,↓eyO_allN,↓eyO_kill,eyO,prEta,mnS_0,mnL_0,BktD.row,VerD.row,UpD.row,PartD.row,AskD.row,verV,partV,askV,RulD.av,ints]<;>fail));(try have hwkb:IntKind.i64.wrap ((kb:Int) + 1) = (kb:Int) + 1:=IntWalk.i64_in _ (by omega))) | (refine EndX.plain ?_) | (refine nil_split (fun hn=>?_) (fun hn=>?_)) | (refine gcall_no not_false ?_) | (refine gdcall_no not_false ?_) | (refine GuardS_of _ _ _ _ _ _ (fun hg=>?_) (fun hg=>?_)) | (refine GuardD_of _ _ _ _ (fun hg=>?_) (fun hg=>?_)) | (refine CondB_of _ _ _ _ _ _ _ ?_ (fun hg=>?_) (fun hg=>?_))))
    all_goals first
      | (unfold Fr.below;simp [Fr.allN,AV.allN,AV.allNL];done)
      | (unfold Loc.below;simp only [List.all_cons,List.all_nil,eyO_allN];simp [AO.allN,AV.allN,AV.allNL];done)
      | (unfold noN;simp [Fr.allN,AV.allN,AV.allNL,AO.allN];done)
      | (intro z hz;simp only [List.mem_cons,List.not_mem_nil,or_false] at hz;rcases hz with rfl | rfl | rfl | rfl | rfl | rfl | rfl<;>simp;done)
      | (intro z hz;simp only [List.mem_cons,List.not_mem_nil,or_false] at hz;rcases hz with rfl | rfl | rfl | rfl | rfl | rfl<;>simp;done)
      | (intro z hz;simp only [List.mem_cons,List.not_mem_nil,or_false] at hz;rcases hz with rfl | rfl | rfl | rfl | rfl<;>simp;done)
      | (intro z hz;simp only [List.mem_cons,List.not_mem_nil,or_false] at hz;rcases hz with rfl | rfl | rfl | rfl<;>simp;done)
      | (intro z hz;simp only [List.mem_cons,List.not_mem_nil,or_false] at hz;rcases hz with rfl | rfl | rfl<;>simp;done)
      | (intro z hz;simp only [List.mem_cons,List.not_mem_nil,or_false] at hz;rcases hz with rfl | rfl<;>simp;done)
      | (intro z hz;simp only [List.mem_cons,List.not_mem_nil,or_false] at hz;subst hz;simp;done)
      | (intro z hz;cases hz;done)
      | exact .inl (by decide)
      | (show List.IsSuffix _ b;repeat' (first | exact List.suffix_refl _ | assumption | refine (takS_suf _ _).trans ?_ | refine (textS_suf _).trans ?_ | refine (mnS_suf partS_suf _ _).trans ?_ | refine (mnS_suf bkS_suf _ _).trans ?_ | refine (mnS_suf verS_suf _ _).trans ?_ | refine (mnS_suf askS_suf _ _).trans ?_ | refine (mnS_suf upT_suf _ _).trans ?_ | refine (mnSe_suf bkS_suf _).trans ?_ | refine (mnSe_suf verS_suf _).trans ?_ | refine (mnSe_suf upT_suf _).trans ?_ | refine (mnSe_suf askS_suf _).trans ?_))
      | trivial
      | (simp [avName,loadNames,opd,Fr.get];done)
      | (simp [allP,opd,Fr.get];done)
      | rfl
      | (have hgt:=of_decide_eq_true (by assumption:decide ((kb:Int) < takN (takS (takS (b,0) 3) 4) 1) = true)
         have h0:=(by assumption:((mnS bkS (takS (takS (b,0) 3) 4) kb).2 == 0) = true)
         have hlt:kb < (takN (takS (takS (b,0) 3) 4) 1).toNat:=by omega
         first
         | exact hlt
         | exact mnC_go hFkb hlt h0
         | (rw [mnL_len];have h9:=(takN_1 (takS (takS (b,0) 3) 4)).2;omega)
         | (rw [IntWalk.i64_in ((kb:Int) + 1) (by have h9:=(takN_1 (takS (takS (b,0) 3) 4)).2;omega),show (kb:Int) + 1 = ((kb + 1:Nat):Int) by omega,← mnS_next,← mnL_next,List.map_append,List.length_append]
            refine Wk.keep hcl ?_ ?_ ?_<;>simp [Fr.get,sto,eyO,BktD.row,VerD.row,UpD.row,PartD.row,AskD.row,verV,partV,askV,RulD.av,ints,bkN,bkS,upN,upT,up1,up2,up3,mnSe_eq,mnLe_eq]))
      | skip
    any_goals (
      show SEcall _ _ _ _ _ _ _ _ _ _
      have hk3:kb = mnM bkS (takS (takS (b,0) 3) 4):=by
        first
        | exact mnC_no hFkb (by assumption)
        | exact mnC_end hFkb (by have:=of_decide_eq_false (by assumption:decide ((kb:Int) < takN (takS (takS (b,0) 3) 4) 1) = false);omega)
      clear hFkb
      subst hk3
      simp only [mnSe_eq,mnLe_eq]
      exact hL0.out)
  apply holdE
  · intro hL1
    all_goals (
      repeat' (first | (simp -implicitDefEqProofs only [*,Nat.reduceBEq,↓reduceIte,Nat.reduceEqDiff,Nat.reduceAdd,reduceCtorEq,AV.kill,Int.reduceLT,Int.reduceToNat,List.getElem?_nil,Nat.reduceMul,Nat.reducePow,Nat.reduceLeDiff,rowOf_mapD,rowOf_mapI,rowOf_mapA,List.getElem?_cons_zero,List.getElem?_cons_succ,take_map_len,take_map_app,List.getElem?_cons_zero,c9,r9,v9_1,v9_2,u9_3,v9_4,u9_5,u9_6,u9_7,u9_8,u9_9,u9_10,u9_11,u9_12,v9_13,v9_14,u9_15,v9_16,u9_17,u9_18,u9_19,u9_20,u9_21,v9_22,v9_23,u9_24,v9_25,v9_26,u9_27,v9_28,u9_29,u9_30,u9_31,u9_32,u9_33,v9_34,u9_35,u9_36,u9_37,u9_38,u9_39,u9_40,u9_41,u9_42,u9_43,u9_44,v9_45,v9_46,u9_47,v9_48,u9_49,u9_50,u9_51,u9_52,u9_53,v9_54,v9_55,v9_56,u9_57,u9_58,v9_59,v9_60,u9_61,u9_62,u9_63,u9_64,u9_65,u9_66,u9_67,u9_68,u9_69,u9_70,u9_71,u9_72,u9_73,u9_74,u9_75,u9_76,u9_77,u9_78,u9_79,u9_80,u9_81,ty28,ty85,ty3,ty30,ty47,ty9,ty45,ty22,ty51,ty23,ty55,ty57,ty53,ty24,ty60,ty25,ty26,ty29,ty5,aokB,aokD,aokA,↓eyO_allN,↓eyO_kill,eyO,prEta,mnS_0,mnL_0,BktD.row,VerD.row,UpD.row,PartD.row,AskD.row,verV,partV,askV,RulD.av,ints,mvcgen_simp]) | (with_reducible refine And.intro ?_ ?_) | (refine call_e0 (d:=some 59) (by omega) e43 ( num_L 1 (by decide)) rfl ?_ ?_ hbb ?_ ?_ ?_ ?_ ?_) | (refine call_e1 (d:=some 59) (by omega) e43 ( num_L 1 (by decide)) rfl ?_ ?_ hbb ?_ ?_ ?_ ?_ ?_) | (refine call_e2 (d:=some 59) (by omega) e43 ( num_L 1 (by decide)) rfl ?_ ?_ hbb ?_ ?_ ?_ ?_ ?_) | (refine call_e0 (d:=some 73) (by omega) e46 ( ver_L) rfl ?_ ?_ hbb ?_ ?_ ?_ ?_ ?_) | (refine call_e1 (d:=some 73) (by omega) e46 ( ver_L) rfl ?_ ?_ hbb ?_ ?_ ?_ ?_ ?_) | (refine call_e2 (d:=some 73) (by omega) e46 ( ver_L) rfl ?_ ?_ hbb ?_ ?_ ?_ ?_ ?_) | (refine loop_nat ((takN (mnSe bkS (takS (takS (b,0) 3) 4)) 1).toNat) (fun kv=>mnC verS (mnSe bkS (takS (takS (b,0) 3) 4)) ((takN (mnSe bkS (takS (takS (b,0) 3) 4)) 1).toNat - kv) kv = mnM verS (mnSe bkS (takS (takS (b,0) 3) 4))) (fun kv=>[(6,I (takN (mnSe bkS (takS (takS (b,0) 3) 4)) 1)),(9,I kv),(0,.d (.ro (b.map by_))),(4,.lp (B + 20) 0),(5,.lp (B + 5) 0),(2,.lp (B + 2) 0)]) (fun kv=>[(B + 90002,.arr 12 51 ((mnL verN verS (mnSe bkS (takS (takS (b,0) 3) 4)) kv).map VerD.row)),(B + 20,eyO b (mnS verS (mnSe bkS (takS (takS (b,0) 3) 4)) kv).1 (mnS verS (mnSe bkS (takS (takS (b,0) 3) 4)) kv).2),(B + 5,.box [I (takN (b,0) 3),I (takN (takS (b,0) 3) 4),.os (B + 90001) (mnLe bkN bkS (takS (takS (b,0) 3) 4)).length,.os (B + 90002) (mnL verN verS (mnSe bkS (takS (takS (b,0) 3) 4)) kv).length,.d (.v (.slice none 0 0)),.d (.v (.slice none 0 0)),.d (.v (.slice none 0 0))]),(B + 90001,.arr 5 47 ((mnLe bkN bkS (takS (takS (b,0) 3) 4)).map BktD.row)),(B + 2,.box [I 0,I 0,.d (.v (.slice none 0 0)),.d (.v (.slice none 0 0)),.d (.v (.slice none 0 0)),.d (.v (.slice none 0 0)),.d (.v (.slice none 0 0))])]) ?_ (Wk.trans (Wk.nameB (b:=B + 5) (j:=3) (n:=B + 90002) (k:=12) (E:=51) (cs:=[I (takN (b,0) 3),I (takN (takS (b,0) 3) 4),.os (B + 90001) (mnLe bkN bkS (takS (takS (b,0) 3) 4)).length,.d (.v (.slice none 0 0)),.d (.v (.slice none 0 0)),.d (.v (.slice none 0 0)),.d (.v (.slice none 0 0))]) (by simp [sto]) rfl (by omega) (by omega) (.inl (by omega)) (hrk 90002)) (Wk.keep hcl ?_ ?_ ?_)) fun kv hkv hFkv=>?_;rotate_left 1;(focus (simp [Fr.get,newF,Fr.map,AV.kill,AV.mapN,aokB,aokD,aokA,↓eyO_allN,↓eyO_kill,eyO,prEta,mnS_0,mnL_0,BktD.row,VerD.row,UpD.row,PartD.row,AskD.row,verV,partV,askV,RulD.av,ints]<;>fail));(focus (simp [sto,newL,Loc.kill,Loc.set,AO.kill,AV.kill,AV.mapN,aokB,aokD,aokA,↓eyO_allN,↓eyO_kill,eyO,prEta,mnS_0,mnL_0,BktD.row,VerD.row,UpD.row,PartD.row,AskD.row,verV,partV,askV,RulD.av,ints]<;>fail));(focus (simp [newL,Loc.kill,Loc.set,aokB,aokD,aokA,↓eyO_allN,↓eyO_kill,eyO,prEta,mnS_0,mnL_0,BktD.row,VerD.row,UpD.row,PartD.row,AskD.row,verV,partV,askV,RulD.av,ints]<;>fail));(try have hwkv:IntKind.i64.wrap ((kv:Int) + 1) = (kv:Int) + 1:=IntWalk.i64_in _ (by omega))) | (refine EndX.plain ?_) | (refine nil_split (fun hn=>?_) (fun hn=>?_)) | (refine gcall_no not_false ?_) | (refine gdcall_no not_false ?_) | (refine GuardS_of _ _ _ _ _ _ (fun hg=>?_) (fun hg=>?_)) | (refine GuardD_of _ _ _ _ (fun hg=>?_) (fun hg=>?_)) | (refine CondB_of _ _ _ _ _ _ _ ?_ (fun hg=>?_) (fun hg=>?_))))
    all_goals first
      | (unfold Fr.below;simp [Fr.allN,AV.allN,AV.allNL];done)
      | (unfold Loc.below;simp only [List.all_cons,List.all_nil,eyO_allN];simp [AO.allN,AV.allN,AV.allNL];done)
      | (unfold noN;simp [Fr.allN,AV.allN,AV.allNL,AO.allN];done)
      | (intro z hz;simp only [List.mem_cons,List.not_mem_nil,or_false] at hz;rcases hz with rfl | rfl | rfl | rfl | rfl | rfl | rfl<;>simp;done)
      | (intro z hz;simp only [List.mem_cons,List.not_mem_nil,or_false] at hz;rcases hz with rfl | rfl | rfl | rfl | rfl | rfl<;>simp;done)
      | (intro z hz;simp only [List.mem_cons,List.not_mem_nil,or_false] at hz;rcases hz with rfl | rfl | rfl | rfl | rfl<;>simp;done)
      | (intro z hz;simp only [List.mem_cons,List.not_mem_nil,or_false] at hz;rcases hz with rfl | rfl | rfl | rfl<;>simp;done)
      | (intro z hz;simp only [List.mem_cons,List.not_mem_nil,or_false] at hz;rcases hz with rfl | rfl | rfl<;>simp;done)
      | (intro z hz;simp only [List.mem_cons,List.not_mem_nil,or_false] at hz;rcases hz with rfl | rfl<;>simp;done)
      | (intro z hz;simp only [List.mem_cons,List.not_mem_nil,or_false] at hz;subst hz;simp;done)
      | (intro z hz;cases hz;done)
      | exact .inl (by decide)
      | (show List.IsSuffix _ b;repeat' (first | exact List.suffix_refl _ | assumption | refine (takS_suf _ _).trans ?_ | refine (textS_suf _).trans ?_ | refine (mnS_suf partS_suf _ _).trans ?_ | refine (mnS_suf bkS_suf _ _).trans ?_ | refine (mnS_suf verS_suf _ _).trans ?_ | refine (mnS_suf askS_suf _ _).trans ?_ | refine (mnS_suf upT_suf _ _).trans ?_ | refine (mnSe_suf bkS_suf _).trans ?_ | refine (mnSe_suf verS_suf _).trans ?_ | refine (mnSe_suf upT_suf _).trans ?_ | refine (mnSe_suf askS_suf _).trans ?_))
      | trivial
      | (simp [avName,loadNames,opd,Fr.get];done)
      | (simp [allP,opd,Fr.get];done)
      | rfl
      | (have hgt:=of_decide_eq_true (by assumption:decide ((kv:Int) < takN (mnSe bkS (takS (takS (b,0) 3) 4)) 1) = true)
         have h0:=(by assumption:((mnS verS (mnSe bkS (takS (takS (b,0) 3) 4)) kv).2 == 0) = true)
         have hlt:kv < (takN (mnSe bkS (takS (takS (b,0) 3) 4)) 1).toNat:=by omega
         first
         | exact hlt
         | exact mnC_go hFkv hlt h0
         | (rw [mnL_len];have h9:=(takN_1 (mnSe bkS (takS (takS (b,0) 3) 4))).2;omega)
         | (rw [IntWalk.i64_in ((kv:Int) + 1) (by have h9:=(takN_1 (mnSe bkS (takS (takS (b,0) 3) 4))).2;omega),show (kv:Int) + 1 = ((kv + 1:Nat):Int) by omega,← mnS_next,← mnL_next,List.map_append,List.length_append]
            refine Wk.keep hcl ?_ ?_ ?_<;>simp [Fr.get,sto,eyO,BktD.row,VerD.row,UpD.row,PartD.row,AskD.row,verV,partV,askV,RulD.av,ints,bkN,bkS,upN,upT,up1,up2,up3,mnSe_eq,mnLe_eq]))
      | skip
    any_goals (
      show SEcall _ _ _ _ _ _ _ _ _ _
      have hk3:kv = mnM verS (mnSe bkS (takS (takS (b,0) 3) 4)):=by
        first
        | exact mnC_no hFkv (by assumption)
        | exact mnC_end hFkv (by have:=of_decide_eq_false (by assumption:decide ((kv:Int) < takN (mnSe bkS (takS (takS (b,0) 3) 4)) 1) = false);omega)
      clear hFkv
      subst hk3
      simp only [mnSe_eq,mnLe_eq]
      exact hL1.out)
  apply holdE
  · intro hL2
    all_goals (
      repeat' (first | (simp -implicitDefEqProofs only [*,Nat.reduceBEq,↓reduceIte,Nat.reduceEqDiff,Nat.reduceAdd,reduceCtorEq,AV.kill,Int.reduceLT,Int.reduceToNat,List.getElem?_nil,Nat.reduceMul,Nat.reducePow,Nat.reduceLeDiff,rowOf_mapD,rowOf_mapI,rowOf_mapA,List.getElem?_cons_zero,List.getElem?_cons_succ,take_map_len,take_map_app,List.getElem?_cons_zero,c9,r9,v9_1,v9_2,u9_3,v9_4,u9_5,u9_6,u9_7,u9_8,u9_9,u9_10,u9_11,u9_12,v9_13,v9_14,u9_15,v9_16,u9_17,u9_18,u9_19,u9_20,u9_21,v9_22,v9_23,u9_24,v9_25,v9_26,u9_27,v9_28,u9_29,u9_30,u9_31,u9_32,u9_33,v9_34,u9_35,u9_36,u9_37,u9_38,u9_39,u9_40,u9_41,u9_42,u9_43,u9_44,v9_45,v9_46,u9_47,v9_48,u9_49,u9_50,u9_51,u9_52,u9_53,v9_54,v9_55,v9_56,u9_57,u9_58,v9_59,v9_60,u9_61,u9_62,u9_63,u9_64,u9_65,u9_66,u9_67,u9_68,u9_69,u9_70,u9_71,u9_72,u9_73,u9_74,u9_75,u9_76,u9_77,u9_78,u9_79,u9_80,u9_81,ty28,ty85,ty3,ty30,ty47,ty9,ty45,ty22,ty51,ty23,ty55,ty57,ty53,ty24,ty60,ty25,ty26,ty29,ty5,aokB,aokD,aokA,↓eyO_allN,↓eyO_kill,eyO,prEta,mnS_0,mnL_0,BktD.row,VerD.row,UpD.row,PartD.row,AskD.row,verV,partV,askV,RulD.av,ints,mvcgen_simp]) | (with_reducible refine And.intro ?_ ?_) | (refine call_e0 (d:=some 81) (by omega) e43 ( num_L 1 (by decide)) rfl ?_ ?_ hbb ?_ ?_ ?_ ?_ ?_) | (refine call_e1 (d:=some 81) (by omega) e43 ( num_L 1 (by decide)) rfl ?_ ?_ hbb ?_ ?_ ?_ ?_ ?_) | (refine call_e2 (d:=some 81) (by omega) e43 ( num_L 1 (by decide)) rfl ?_ ?_ hbb ?_ ?_ ?_ ?_ ?_) | (refine call_e0 (d:=some 96) (by omega) e43 ( num_L 3 (by decide)) rfl ?_ ?_ hbb ?_ ?_ ?_ ?_ ?_) | (refine call_e1 (d:=some 96) (by omega) e43 ( num_L 3 (by decide)) rfl ?_ ?_ hbb ?_ ?_ ?_ ?_ ?_) | (refine call_e2 (d:=some 96) (by omega) e43 ( num_L 3 (by decide)) rfl ?_ ?_ hbb ?_ ?_ ?_ ?_ ?_) | (refine call_e0 (d:=some 99) (by omega) e44 ( str_L) rfl ?_ ?_ hbb ?_ ?_ ?_ ?_ ?_) | (refine call_e1 (d:=some 99) (by omega) e44 ( str_L) rfl ?_ ?_ hbb ?_ ?_ ?_ ?_ ?_) | (refine call_e2 (d:=some 99) (by omega) e44 ( str_L) rfl ?_ ?_ hbb ?_ ?_ ?_ ?_ ?_) | (refine call_e0 (d:=some 102) (by omega) e44 ( str_L) rfl ?_ ?_ hbb ?_ ?_ ?_ ?_ ?_) | (refine call_e1 (d:=some 102) (by omega) e44 ( str_L) rfl ?_ ?_ hbb ?_ ?_ ?_ ?_ ?_) | (refine call_e2 (d:=some 102) (by omega) e44 ( str_L) rfl ?_ ?_ hbb ?_ ?_ ?_ ?_ ?_) | (refine call_e0 (d:=some 105) (by omega) e43 ( num_L 1 (by decide)) rfl ?_ ?_ hbb ?_ ?_ ?_ ?_ ?_) | (refine call_e1 (d:=some 105) (by omega) e43 ( num_L 1 (by decide)) rfl ?_ ?_ hbb ?_ ?_ ?_ ?_ ?_) | (refine call_e2 (d:=some 105) (by omega) e43 ( num_L 1 (by decide)) rfl ?_ ?_ hbb ?_ ?_ ?_ ?_ ?_) | (refine call_e0 (d:=some 119) (by omega) e47 ( pt_L) rfl ?_ ?_ hbb ?_ ?_ ?_ ?_ ?_) | (refine call_e1 (d:=some 119) (by omega) e47 ( pt_L) rfl ?_ ?_ hbb ?_ ?_ ?_ ?_ ?_) | (refine call_e2 (d:=some 119) (by omega) e47 ( pt_L) rfl ?_ ?_ hbb ?_ ?_ ?_ ?_ ?_) | (refine loop_nat ((takN (textS (textS (takS (mnS upT (mnSe verS (mnSe bkS (takS (takS (b,0) 3) 4))) ku) 3))) 1).toNat) (fun jp=>mnC partS (textS (textS (takS (mnS upT (mnSe verS (mnSe bkS (takS (takS (b,0) 3) 4))) ku) 3))) ((takN (textS (textS (takS (mnS upT (mnSe verS (mnSe bkS (takS (takS (b,0) 3) 4))) ku) 3))) 1).toNat - jp) jp = mnM partS (textS (textS (takS (mnS upT (mnSe verS (mnSe bkS (takS (takS (b,0) 3) 4))) ku) 3)))) (fun jp=>[(13,I (takN (textS (textS (takS (mnS upT (mnSe verS (mnSe bkS (takS (takS (b,0) 3) 4))) ku) 3))) 1)),(14,I jp),(12,.lp (B + 12) 0),(11,I ku),(6,I (takN (mnSe verS (mnSe bkS (takS (takS (b,0) 3) 4))) 1)),(0,.d (.ro (b.map by_))),(4,.lp (B + 20) 0),(5,.lp (B + 5) 0),(2,.lp (B + 2) 0)]) (fun jp=>[(B + 90005,.arr 3 57 ((mnL partN partS (textS (textS (takS (mnS upT (mnSe verS (mnSe bkS (takS (takS (b,0) 3) 4))) ku) 3))) jp).map PartD.row)),(B + 20,eyO b (mnS partS (textS (textS (takS (mnS upT (mnSe verS (mnSe bkS (takS (takS (b,0) 3) 4))) ku) 3))) jp).1 (mnS partS (textS (textS (takS (mnS upT (mnSe verS (mnSe bkS (takS (takS (b,0) 3) 4))) ku) 3))) jp).2),(B + 12,.box [I (takN (mnS upT (mnSe verS (mnSe bkS (takS (takS (b,0) 3) 4))) ku) 3),.d (.v (.string (textN (takS (mnS upT (mnSe verS (mnSe bkS (takS (takS (b,0) 3) 4))) ku) 3)))),.d (.v (.string (textN (textS (takS (mnS upT (mnSe verS (mnSe bkS (takS (takS (b,0) 3) 4))) ku) 3))))),.os (B + 90005) (mnL partN partS (textS (textS (takS (mnS upT (mnSe verS (mnSe bkS (takS (takS (b,0) 3) 4))) ku) 3))) jp).length]),(B + 90003,.arr 4 55 ((mnL upN upT (mnSe verS (mnSe bkS (takS (takS (b,0) 3) 4))) ku).map UpD.row)),(B + 5,.box [I (takN (b,0) 3),I (takN (takS (b,0) 3) 4),.os (B + 90001) (mnLe bkN bkS (takS (takS (b,0) 3) 4)).length,.os (B + 90002) (mnLe verN verS (mnSe bkS (takS (takS (b,0) 3) 4))).length,.os (B + 90003) (mnL upN upT (mnSe verS (mnSe bkS (takS (takS (b,0) 3) 4))) ku).length,.d (.v (.slice none 0 0)),.d (.v (.slice none 0 0))]),(B + 90002,.arr 12 51 ((mnLe verN verS (mnSe bkS (takS (takS (b,0) 3) 4))).map VerD.row)),(B + 90001,.arr 5 47 ((mnLe bkN bkS (takS (takS (b,0) 3) 4)).map BktD.row)),(B + 2,.box [I 0,I 0,.d (.v (.slice none 0 0)),.d (.v (.slice none 0 0)),.d (.v (.slice none 0 0)),.d (.v (.slice none 0 0)),.d (.v (.slice none 0 0))])]) ?_ (Wk.trans (Wk.nameB (b:=B + 12) (j:=3) (n:=B + 90005) (k:=3) (E:=57) (cs:=[I (takN (mnS upT (mnSe verS (mnSe bkS (takS (takS (b,0) 3) 4))) ku) 3),.d (.v (.string (textN (takS (mnS upT (mnSe verS (mnSe bkS (takS (takS (b,0) 3) 4))) ku) 3)))),.d (.v (.string (textN (textS (takS (mnS upT (mnSe verS (mnSe bkS (takS (takS (b,0) 3) 4))) ku) 3))))),.d (.v (.slice none 0 0))]) (by simp [sto]) rfl (by omega) (by omega) (.inl (by omega)) (hrk 90005)) (Wk.keep hcl ?_ ?_ ?_)) fun jp hjp hFjp=>?_;rotate_left 1;(focus (simp [Fr.get,newF,Fr.map,AV.kill,AV.mapN,aokB,aokD,aokA,↓eyO_allN,↓eyO_kill,eyO,prEta,mnS_0,mnL_0,BktD.row,VerD.row,UpD.row,PartD.row,AskD.row,verV,partV,askV,RulD.av,ints]<;>fail));(focus (simp [sto,newL,Loc.kill,Loc.set,AO.kill,AV.kill,AV.mapN,aokB,aokD,aokA,↓eyO_allN,↓eyO_kill,eyO,prEta,mnS_0,mnL_0,BktD.row,VerD.row,UpD.row,PartD.row,AskD.row,verV,partV,askV,RulD.av,ints]<;>fail));(focus (simp [newL,Loc.kill,Loc.set,aokB,aokD,aokA,↓eyO_allN,↓eyO_kill,eyO,prEta,mnS_0,mnL_0,BktD.row,VerD.row,UpD.row,PartD.row,AskD.row,verV,partV,askV,RulD.av,ints]<;>fail));(try have hwjp:IntKind.i64.wrap ((jp:Int) + 1) = (jp:Int) + 1:=IntWalk.i64_in _ (by omega))) | (refine loop_nat ((takN (mnSe verS (mnSe bkS (takS (takS (b,0) 3) 4))) 1).toNat) (fun ku=>mnC upT (mnSe verS (mnSe bkS (takS (takS (b,0) 3) 4))) ((takN (mnSe verS (mnSe bkS (takS (takS (b,0) 3) 4))) 1).toNat - ku) ku = mnM upT (mnSe verS (mnSe bkS (takS (takS (b,0) 3) 4)))) (fun ku=>[(6,I (takN (mnSe verS (mnSe bkS (takS (takS (b,0) 3) 4))) 1)),(11,I ku),(0,.d (.ro (b.map by_))),(4,.lp (B + 20) 0),(5,.lp (B + 5) 0),(2,.lp (B + 2) 0)]) (fun ku=>[(B + 90003,.arr 4 55 ((mnL upN upT (mnSe verS (mnSe bkS (takS (takS (b,0) 3) 4))) ku).map UpD.row)),(B + 20,eyO b (mnS upT (mnSe verS (mnSe bkS (takS (takS (b,0) 3) 4))) ku).1 (mnS upT (mnSe verS (mnSe bkS (takS (takS (b,0) 3) 4))) ku).2),(B + 5,.box [I (takN (b,0) 3),I (takN (takS (b,0) 3) 4),.os (B + 90001) (mnLe bkN bkS (takS (takS (b,0) 3) 4)).length,.os (B + 90002) (mnLe verN verS (mnSe bkS (takS (takS (b,0) 3) 4))).length,.os (B + 90003) (mnL upN upT (mnSe verS (mnSe bkS (takS (takS (b,0) 3) 4))) ku).length,.d (.v (.slice none 0 0)),.d (.v (.slice none 0 0))]),(B + 90002,.arr 12 51 ((mnLe verN verS (mnSe bkS (takS (takS (b,0) 3) 4))).map VerD.row)),(B + 90001,.arr 5 47 ((mnLe bkN bkS (takS (takS (b,0) 3) 4)).map BktD.row)),(B + 2,.box [I 0,I 0,.d (.v (.slice none 0 0)),.d (.v (.slice none 0 0)),.d (.v (.slice none 0 0)),.d (.v (.slice none 0 0)),.d (.v (.slice none 0 0))])]) ?_ (Wk.trans (Wk.nameB (b:=B + 5) (j:=4) (n:=B + 90003) (k:=4) (E:=55) (cs:=[I (takN (b,0) 3),I (takN (takS (b,0) 3) 4),.os (B + 90001) (mnLe bkN bkS (takS (takS (b,0) 3) 4)).length,.os (B + 90002) (mnLe verN verS (mnSe bkS (takS (takS (b,0) 3) 4))).length,.d (.v (.slice none 0 0)),.d (.v (.slice none 0 0)),.d (.v (.slice none 0 0))]) (by simp [sto]) rfl (by omega) (by omega) (.inl (by omega)) (hrk 90003)) (Wk.keep hcl ?_ ?_ ?_)) fun ku hku hFku=>?_;rotate_left 1;(focus (simp [Fr.get,newF,Fr.map,AV.kill,AV.mapN,aokB,aokD,aokA,↓eyO_allN,↓eyO_kill,eyO,prEta,mnS_0,mnL_0,BktD.row,VerD.row,UpD.row,PartD.row,AskD.row,verV,partV,askV,RulD.av,ints]<;>fail));(focus (simp [sto,newL,Loc.kill,Loc.set,AO.kill,AV.kill,AV.mapN,aokB,aokD,aokA,↓eyO_allN,↓eyO_kill,eyO,prEta,mnS_0,mnL_0,BktD.row,VerD.row,UpD.row,PartD.row,AskD.row,verV,partV,askV,RulD.av,ints]<;>fail));(focus (simp [newL,Loc.kill,Loc.set,aokB,aokD,aokA,↓eyO_allN,↓eyO_kill,eyO,prEta,mnS_0,mnL_0,BktD.row,VerD.row,UpD.row,PartD.row,AskD.row,verV,partV,askV,RulD.av,ints]<;>fail));(try have hwku:IntKind.i64.wrap ((ku:Int) + 1) = (ku:Int) + 1:=IntWalk.i64_in _ (by omega))) | (refine EndX.plain ?_) | (refine nil_split (fun hn=>?_) (fun hn=>?_)) | (refine gcall_no not_false ?_) | (refine gdcall_no not_false ?_) | (refine GuardS_of _ _ _ _ _ _ (fun hg=>?_) (fun hg=>?_)) | (refine GuardD_of _ _ _ _ (fun hg=>?_) (fun hg=>?_)) | (refine CondB_of _ _ _ _ _ _ _ ?_ (fun hg=>?_) (fun hg=>?_))))
    all_goals first
      | (unfold Fr.below;simp [Fr.allN,AV.allN,AV.allNL];done)
      | (unfold Loc.below;simp only [List.all_cons,List.all_nil,eyO_allN];simp [AO.allN,AV.allN,AV.allNL];done)
      | (unfold noN;simp [Fr.allN,AV.allN,AV.allNL,AO.allN];done)
      | (intro z hz;simp only [List.mem_cons,List.not_mem_nil,or_false] at hz;rcases hz with rfl | rfl | rfl | rfl | rfl | rfl | rfl<;>simp;done)
      | (intro z hz;simp only [List.mem_cons,List.not_mem_nil,or_false] at hz;rcases hz with rfl | rfl | rfl | rfl | rfl | rfl<;>simp;done)
      | (intro z hz;simp only [List.mem_cons,List.not_mem_nil,or_false] at hz;rcases hz with rfl | rfl | rfl | rfl | rfl<;>simp;done)
      | (intro z hz;simp only [List.mem_cons,List.not_mem_nil,or_false] at hz;rcases hz with rfl | rfl | rfl | rfl<;>simp;done)
      | (intro z hz;simp only [List.mem_cons,List.not_mem_nil,or_false] at hz;rcases hz with rfl | rfl | rfl<;>simp;done)
      | (intro z hz;simp only [List.mem_cons,List.not_mem_nil,or_false] at hz;rcases hz with rfl | rfl<;>simp;done)
      | (intro z hz;simp only [List.mem_cons,List.not_mem_nil,or_false] at hz;subst hz;simp;done)
      | (intro z hz;cases hz;done)
      | exact .inl (by decide)
      | (show List.IsSuffix _ b;repeat' (first | exact List.suffix_refl _ | assumption | refine (takS_suf _ _).trans ?_ | refine (textS_suf _).trans ?_ | refine (mnS_suf partS_suf _ _).trans ?_ | refine (mnS_suf bkS_suf _ _).trans ?_ | refine (mnS_suf verS_suf _ _).trans ?_ | refine (mnS_suf askS_suf _ _).trans ?_ | refine (mnS_suf upT_suf _ _).trans ?_ | refine (mnSe_suf bkS_suf _).trans ?_ | refine (mnSe_suf verS_suf _).trans ?_ | refine (mnSe_suf upT_suf _).trans ?_ | refine (mnSe_suf askS_suf _).trans ?_))
      | trivial
      | (simp [avName,loadNames,opd,Fr.get];done)
      | (simp [allP,opd,Fr.get];done)
      | rfl
      | (have hgt:=of_decide_eq_true (by assumption:decide ((ku:Int) < takN (mnSe verS (mnSe bkS (takS (takS (b,0) 3) 4))) 1) = true)
         have h0:=(by assumption:((mnS upT (mnSe verS (mnSe bkS (takS (takS (b,0) 3) 4))) ku).2 == 0) = true)
         have hlt:ku < (takN (mnSe verS (mnSe bkS (takS (takS (b,0) 3) 4))) 1).toNat:=by omega
         try (
           have hj3:jp = mnM partS (textS (textS (takS (mnS upT (mnSe verS (mnSe bkS (takS (takS (b,0) 3) 4))) ku) 3))):=by
             first
             | exact mnC_no hFjp (by assumption)
             | exact mnC_end hFjp (by have:=of_decide_eq_false (by assumption:decide ((jp:Int) < takN (textS (textS (takS (mnS upT (mnSe verS (mnSe bkS (takS (takS (b,0) 3) 4))) ku) 3))) 1) = false);omega)
           clear hFjp
           subst hj3)
         first
         | exact hlt
         | exact mnC_go hFku hlt h0
         | (rw [mnL_len];have h9:=(takN_1 (mnSe verS (mnSe bkS (takS (takS (b,0) 3) 4)))).2;omega)
         | (rw [IntWalk.i64_in ((ku:Int) + 1) (by have h9:=(takN_1 (mnSe verS (mnSe bkS (takS (takS (b,0) 3) 4)))).2;omega),show (ku:Int) + 1 = ((ku + 1:Nat):Int) by omega,← mnS_next,← mnL_next,List.map_append,List.length_append]
            refine Wk.keep hcl ?_ ?_ ?_<;>simp [Fr.get,sto,eyO,BktD.row,VerD.row,UpD.row,PartD.row,AskD.row,verV,partV,askV,RulD.av,ints,bkN,bkS,upN,upT,up1,up2,up3,mnSe_eq,mnLe_eq]))
      | (have hgt:=of_decide_eq_true (by assumption:decide ((jp:Int) < takN (textS (textS (takS (mnS upT (mnSe verS (mnSe bkS (takS (takS (b,0) 3) 4))) ku) 3))) 1) = true)
         have h0:=(by assumption:((mnS partS (textS (textS (takS (mnS upT (mnSe verS (mnSe bkS (takS (takS (b,0) 3) 4))) ku) 3))) jp).2 == 0) = true)
         have hlt:jp < (takN (textS (textS (takS (mnS upT (mnSe verS (mnSe bkS (takS (takS (b,0) 3) 4))) ku) 3))) 1).toNat:=by omega
         first
         | exact hlt
         | exact mnC_go hFjp hlt h0
         | (rw [mnL_len];have h9:=(takN_1 (textS (textS (takS (mnS upT (mnSe verS (mnSe bkS (takS (takS (b,0) 3) 4))) ku) 3)))).2;omega)
         | (rw [IntWalk.i64_in ((jp:Int) + 1) (by have h9:=(takN_1 (textS (textS (takS (mnS upT (mnSe verS (mnSe bkS (takS (takS (b,0) 3) 4))) ku) 3)))).2;omega),show (jp:Int) + 1 = ((jp + 1:Nat):Int) by omega,← mnS_next,← mnL_next,List.map_append,List.length_append]
            refine Wk.keep hcl ?_ ?_ ?_<;>simp [Fr.get,sto,eyO,BktD.row,VerD.row,UpD.row,PartD.row,AskD.row,verV,partV,askV,RulD.av,ints]))
      | skip
    any_goals (
      show SEcall _ _ _ _ _ _ _ _ _ _
      have hk3:ku = mnM upT (mnSe verS (mnSe bkS (takS (takS (b,0) 3) 4))):=by
        first
        | exact mnC_no hFku (by assumption)
        | exact mnC_end hFku (by have:=of_decide_eq_false (by assumption:decide ((ku:Int) < takN (mnSe verS (mnSe bkS (takS (takS (b,0) 3) 4))) 1) = false);omega)
      clear hFku
      subst hk3
      simp only [mnSe_eq,mnLe_eq]
      exact hL2.out)
  apply holdE
  · intro hL3
    all_goals (
      repeat' (first | (simp -implicitDefEqProofs only [*,Nat.reduceBEq,↓reduceIte,Nat.reduceEqDiff,Nat.reduceAdd,reduceCtorEq,AV.kill,Int.reduceLT,Int.reduceToNat,List.getElem?_nil,Nat.reduceMul,Nat.reducePow,Nat.reduceLeDiff,rowOf_mapD,rowOf_mapI,rowOf_mapA,List.getElem?_cons_zero,List.getElem?_cons_succ,take_map_len,take_map_app,List.getElem?_cons_zero,c9,r9,v9_1,v9_2,u9_3,v9_4,u9_5,u9_6,u9_7,u9_8,u9_9,u9_10,u9_11,u9_12,v9_13,v9_14,u9_15,v9_16,u9_17,u9_18,u9_19,u9_20,u9_21,v9_22,v9_23,u9_24,v9_25,v9_26,u9_27,v9_28,u9_29,u9_30,u9_31,u9_32,u9_33,v9_34,u9_35,u9_36,u9_37,u9_38,u9_39,u9_40,u9_41,u9_42,u9_43,u9_44,v9_45,v9_46,u9_47,v9_48,u9_49,u9_50,u9_51,u9_52,u9_53,v9_54,v9_55,v9_56,u9_57,u9_58,v9_59,v9_60,u9_61,u9_62,u9_63,u9_64,u9_65,u9_66,u9_67,u9_68,u9_69,u9_70,u9_71,u9_72,u9_73,u9_74,u9_75,u9_76,u9_77,u9_78,u9_79,u9_80,u9_81,ty28,ty85,ty3,ty30,ty47,ty9,ty45,ty22,ty51,ty23,ty55,ty57,ty53,ty24,ty60,ty25,ty26,ty29,ty5,aokB,aokD,aokA,↓eyO_allN,↓eyO_kill,eyO,prEta,mnS_0,mnL_0,BktD.row,VerD.row,UpD.row,PartD.row,AskD.row,verV,partV,askV,RulD.av,ints,mvcgen_simp]) | (with_reducible refine And.intro ?_ ?_) | (refine call_e0 (d:=some 133) (by omega) e43 ( num_L 1 (by decide)) rfl ?_ ?_ hbb ?_ ?_ ?_ ?_ ?_) | (refine call_e1 (d:=some 133) (by omega) e43 ( num_L 1 (by decide)) rfl ?_ ?_ hbb ?_ ?_ ?_ ?_ ?_) | (refine call_e2 (d:=some 133) (by omega) e43 ( num_L 1 (by decide)) rfl ?_ ?_ hbb ?_ ?_ ?_ ?_ ?_) | (refine call_e0 (d:=some 147) (by omega) e48 ( asked_L) rfl ?_ ?_ hbb ?_ ?_ ?_ ?_ ?_) | (refine call_e1 (d:=some 147) (by omega) e48 ( asked_L) rfl ?_ ?_ hbb ?_ ?_ ?_ ?_ ?_) | (refine call_e2 (d:=some 147) (by omega) e48 ( asked_L) rfl ?_ ?_ hbb ?_ ?_ ?_ ?_ ?_) | (refine loop_nat ((takN (mnSe upT (mnSe verS (mnSe bkS (takS (takS (b,0) 3) 4)))) 1).toNat) (fun kq=>mnC askS (mnSe upT (mnSe verS (mnSe bkS (takS (takS (b,0) 3) 4)))) ((takN (mnSe upT (mnSe verS (mnSe bkS (takS (takS (b,0) 3) 4)))) 1).toNat - kq) kq = mnM askS (mnSe upT (mnSe verS (mnSe bkS (takS (takS (b,0) 3) 4))))) (fun kq=>[(6,I (takN (mnSe upT (mnSe verS (mnSe bkS (takS (takS (b,0) 3) 4)))) 1)),(16,I kq),(0,.d (.ro (b.map by_))),(4,.lp (B + 20) 0),(5,.lp (B + 5) 0),(2,.lp (B + 2) 0)]) (fun kq=>[(B + 90004,.arr 3 60 ((mnL askN askS (mnSe upT (mnSe verS (mnSe bkS (takS (takS (b,0) 3) 4)))) kq).map AskD.row)),(B + 20,eyO b (mnS askS (mnSe upT (mnSe verS (mnSe bkS (takS (takS (b,0) 3) 4)))) kq).1 (mnS askS (mnSe upT (mnSe verS (mnSe bkS (takS (takS (b,0) 3) 4)))) kq).2),(B + 5,.box [I (takN (b,0) 3),I (takN (takS (b,0) 3) 4),.os (B + 90001) (mnLe bkN bkS (takS (takS (b,0) 3) 4)).length,.os (B + 90002) (mnLe verN verS (mnSe bkS (takS (takS (b,0) 3) 4))).length,.os (B + 90003) (mnLe upN upT (mnSe verS (mnSe bkS (takS (takS (b,0) 3) 4)))).length,.os (B + 90004) (mnL askN askS (mnSe upT (mnSe verS (mnSe bkS (takS (takS (b,0) 3) 4)))) kq).length,.d (.v (.slice none 0 0))]),(B + 90003,.arr 4 55 ((mnLe upN upT (mnSe verS (mnSe bkS (takS (takS (b,0) 3) 4)))).map UpD.row)),(B + 90002,.arr 12 51 ((mnLe verN verS (mnSe bkS (takS (takS (b,0) 3) 4))).map VerD.row)),(B + 90001,.arr 5 47 ((mnLe bkN bkS (takS (takS (b,0) 3) 4)).map BktD.row)),(B + 2,.box [I 0,I 0,.d (.v (.slice none 0 0)),.d (.v (.slice none 0 0)),.d (.v (.slice none 0 0)),.d (.v (.slice none 0 0)),.d (.v (.slice none 0 0))])]) ?_ (Wk.trans (Wk.nameB (b:=B + 5) (j:=5) (n:=B + 90004) (k:=3) (E:=60) (cs:=[I (takN (b,0) 3),I (takN (takS (b,0) 3) 4),.os (B + 90001) (mnLe bkN bkS (takS (takS (b,0) 3) 4)).length,.os (B + 90002) (mnLe verN verS (mnSe bkS (takS (takS (b,0) 3) 4))).length,.os (B + 90003) (mnLe upN upT (mnSe verS (mnSe bkS (takS (takS (b,0) 3) 4)))).length,.d (.v (.slice none 0 0)),.d (.v (.slice none 0 0))]) (by simp [sto]) rfl (by omega) (by omega) (.inl (by omega)) (hrk 90004)) (Wk.keep hcl ?_ ?_ ?_)) fun kq hkq hFkq=>?_;rotate_left 1;(focus (simp [Fr.get,newF,Fr.map,AV.kill,AV.mapN,aokB,aokD,aokA,↓eyO_allN,↓eyO_kill,eyO,prEta,mnS_0,mnL_0,BktD.row,VerD.row,UpD.row,PartD.row,AskD.row,verV,partV,askV,RulD.av,ints]<;>fail));(focus (simp [sto,newL,Loc.kill,Loc.set,AO.kill,AV.kill,AV.mapN,aokB,aokD,aokA,↓eyO_allN,↓eyO_kill,eyO,prEta,mnS_0,mnL_0,BktD.row,VerD.row,UpD.row,PartD.row,AskD.row,verV,partV,askV,RulD.av,ints]<;>fail));(focus (simp [newL,Loc.kill,Loc.set,aokB,aokD,aokA,↓eyO_allN,↓eyO_kill,eyO,prEta,mnS_0,mnL_0,BktD.row,VerD.row,UpD.row,PartD.row,AskD.row,verV,partV,askV,RulD.av,ints]<;>fail));(try have hwkq:IntKind.i64.wrap ((kq:Int) + 1) = (kq:Int) + 1:=IntWalk.i64_in _ (by omega))) | (refine EndX.plain ?_) | (refine nil_split (fun hn=>?_) (fun hn=>?_)) | (refine gcall_no not_false ?_) | (refine gdcall_no not_false ?_) | (refine GuardS_of _ _ _ _ _ _ (fun hg=>?_) (fun hg=>?_)) | (refine GuardD_of _ _ _ _ (fun hg=>?_) (fun hg=>?_)) | (refine CondB_of _ _ _ _ _ _ _ ?_ (fun hg=>?_) (fun hg=>?_))))
    all_goals first
      | (unfold Fr.below;simp [Fr.allN,AV.allN,AV.allNL];done)
      | (unfold Loc.below;simp only [List.all_cons,List.all_nil,eyO_allN];simp [AO.allN,AV.allN,AV.allNL];done)
      | (unfold noN;simp [Fr.allN,AV.allN,AV.allNL,AO.allN];done)
      | (intro z hz;simp only [List.mem_cons,List.not_mem_nil,or_false] at hz;rcases hz with rfl | rfl | rfl | rfl | rfl | rfl | rfl<;>simp;done)
      | (intro z hz;simp only [List.mem_cons,List.not_mem_nil,or_false] at hz;rcases hz with rfl | rfl | rfl | rfl | rfl | rfl<;>simp;done)
      | (intro z hz;simp only [List.mem_cons,List.not_mem_nil,or_false] at hz;rcases hz with rfl | rfl | rfl | rfl | rfl<;>simp;done)
      | (intro z hz;simp only [List.mem_cons,List.not_mem_nil,or_false] at hz;rcases hz with rfl | rfl | rfl | rfl<;>simp;done)
      | (intro z hz;simp only [List.mem_cons,List.not_mem_nil,or_false] at hz;rcases hz with rfl | rfl | rfl<;>simp;done)
      | (intro z hz;simp only [List.mem_cons,List.not_mem_nil,or_false] at hz;rcases hz with rfl | rfl<;>simp;done)
      | (intro z hz;simp only [List.mem_cons,List.not_mem_nil,or_false] at hz;subst hz;simp;done)
      | (intro z hz;cases hz;done)
      | exact .inl (by decide)
      | (show List.IsSuffix _ b;repeat' (first | exact List.suffix_refl _ | assumption | refine (takS_suf _ _).trans ?_ | refine (textS_suf _).trans ?_ | refine (mnS_suf partS_suf _ _).trans ?_ | refine (mnS_suf bkS_suf _ _).trans ?_ | refine (mnS_suf verS_suf _ _).trans ?_ | refine (mnS_suf askS_suf _ _).trans ?_ | refine (mnS_suf upT_suf _ _).trans ?_ | refine (mnSe_suf bkS_suf _).trans ?_ | refine (mnSe_suf verS_suf _).trans ?_ | refine (mnSe_suf upT_suf _).trans ?_ | refine (mnSe_suf askS_suf _).trans ?_))
      | trivial
      | (simp [avName,loadNames,opd,Fr.get];done)
      | (simp [allP,opd,Fr.get];done)
      | rfl
      | (have hgt:=of_decide_eq_true (by assumption:decide ((kq:Int) < takN (mnSe upT (mnSe verS (mnSe bkS (takS (takS (b,0) 3) 4)))) 1) = true)
         have h0:=(by assumption:((mnS askS (mnSe upT (mnSe verS (mnSe bkS (takS (takS (b,0) 3) 4)))) kq).2 == 0) = true)
         have hlt:kq < (takN (mnSe upT (mnSe verS (mnSe bkS (takS (takS (b,0) 3) 4)))) 1).toNat:=by omega
         first
         | exact hlt
         | exact mnC_go hFkq hlt h0
         | (rw [mnL_len];have h9:=(takN_1 (mnSe upT (mnSe verS (mnSe bkS (takS (takS (b,0) 3) 4))))).2;omega)
         | (rw [IntWalk.i64_in ((kq:Int) + 1) (by have h9:=(takN_1 (mnSe upT (mnSe verS (mnSe bkS (takS (takS (b,0) 3) 4))))).2;omega),show (kq:Int) + 1 = ((kq + 1:Nat):Int) by omega,← mnS_next,← mnL_next,List.map_append,List.length_append]
            refine Wk.keep hcl ?_ ?_ ?_<;>simp [Fr.get,sto,eyO,BktD.row,VerD.row,UpD.row,PartD.row,AskD.row,verV,partV,askV,RulD.av,ints,bkN,bkS,upN,upT,up1,up2,up3,mnSe_eq,mnLe_eq]))
      | skip
    any_goals (
      show SEcall _ _ _ _ _ _ _ _ _ _
      have hk3:kq = mnM askS (mnSe upT (mnSe verS (mnSe bkS (takS (takS (b,0) 3) 4)))):=by
        first
        | exact mnC_no hFkq (by assumption)
        | exact mnC_end hFkq (by have:=of_decide_eq_false (by assumption:decide ((kq:Int) < takN (mnSe upT (mnSe verS (mnSe bkS (takS (takS (b,0) 3) 4)))) 1) = false);omega)
      clear hFkq
      subst hk3
      simp only [mnSe_eq,mnLe_eq]
      exact hL3.out)
  any_goals (show SEcall _ _ _ _ _ _ _ _ _ _;refine SEcall_wkQ (d:=some 155) (Wk.freezeB (m:=B + 90004) (k:=3) (E:=60) (rows:=(mnLe askN askS (mnSe upT (mnSe verS (mnSe bkS (takS (takS (b,0) 3) 4))))).map AskD.row) hcl (by omega) (by simp [sto])) ?_;simp only [Loc.fzB,AO.fzB,eyO_fzB,fzD,fzO,fzL,Fr.map,List.map_cons,List.map_nil,List.filter_cons,List.filter_nil,Nat.add_left_cancel_iff,Nat.reduceEqDiff,if_true,if_false,ne_eq,not_false_eq_true,not_true_eq_false,decide_true,decide_false,Bool.false_eq_true,ite_true,ite_false,reduceIte,List.length_map,Nat.le_refl,take_map_len];refine SEcall_wkQ (d:=some 155) (Wk.freezeB (m:=B + 90003) (k:=4) (E:=55) (rows:=(mnLe upN upT (mnSe verS (mnSe bkS (takS (takS (b,0) 3) 4)))).map UpD.row) hcl (by omega) (by simp [sto])) ?_;simp only [Loc.fzB,AO.fzB,eyO_fzB,fzD,fzO,fzL,Fr.map,List.map_cons,List.map_nil,List.filter_cons,List.filter_nil,Nat.add_left_cancel_iff,Nat.reduceEqDiff,if_true,if_false,ne_eq,not_false_eq_true,not_true_eq_false,decide_true,decide_false,Bool.false_eq_true,ite_true,ite_false,reduceIte,List.length_map,Nat.le_refl,take_map_len];refine SEcall_wkQ (d:=some 155) (Wk.freezeB (m:=B + 90002) (k:=12) (E:=51) (rows:=(mnLe verN verS (mnSe bkS (takS (takS (b,0) 3) 4))).map VerD.row) hcl (by omega) (by simp [sto])) ?_;simp only [Loc.fzB,AO.fzB,eyO_fzB,fzD,fzO,fzL,Fr.map,List.map_cons,List.map_nil,List.filter_cons,List.filter_nil,Nat.add_left_cancel_iff,Nat.reduceEqDiff,if_true,if_false,ne_eq,not_false_eq_true,not_true_eq_false,decide_true,decide_false,Bool.false_eq_true,ite_true,ite_false,reduceIte,List.length_map,Nat.le_refl,take_map_len];refine SEcall_wkQ (d:=some 155) (Wk.freezeB (m:=B + 90001) (k:=5) (E:=47) (rows:=(mnLe bkN bkS (takS (takS (b,0) 3) 4)).map BktD.row) hcl (by omega) (by simp [sto])) ?_;simp only [Loc.fzB,AO.fzB,eyO_fzB,fzD,fzO,fzL,Fr.map,List.map_cons,List.map_nil,List.filter_cons,List.filter_nil,Nat.add_left_cancel_iff,Nat.reduceEqDiff,if_true,if_false,ne_eq,not_false_eq_true,not_true_eq_false,decide_true,decide_false,Bool.false_eq_true,ite_true,ite_false,reduceIte,List.length_map,Nat.le_refl,take_map_len])
  have hc:=may_p (stN b)
  cases hm:mayF (stN b)<;>rw [hm] at hc
  all_goals simp only [SttD.av,SttD.cells,stN_eq,ints] at hc
  all_goals (
    repeat' (first | (simp -implicitDefEqProofs only [*,Nat.reduceBEq,↓reduceIte,Nat.reduceEqDiff,Nat.reduceAdd,reduceCtorEq,AV.kill,Int.reduceLT,Int.reduceToNat,List.getElem?_nil,Nat.reduceMul,Nat.reducePow,Nat.reduceLeDiff,rowOf_mapD,rowOf_mapI,rowOf_mapA,List.getElem?_cons_zero,List.getElem?_cons_succ,take_map_len,take_map_app,List.getElem?_cons_zero,c9,r9,v9_1,v9_2,u9_3,v9_4,u9_5,u9_6,u9_7,u9_8,u9_9,u9_10,u9_11,u9_12,v9_13,v9_14,u9_15,v9_16,u9_17,u9_18,u9_19,u9_20,u9_21,v9_22,v9_23,u9_24,v9_25,v9_26,u9_27,v9_28,u9_29,u9_30,u9_31,u9_32,u9_33,v9_34,u9_35,u9_36,u9_37,u9_38,u9_39,u9_40,u9_41,u9_42,u9_43,u9_44,v9_45,v9_46,u9_47,v9_48,u9_49,u9_50,u9_51,u9_52,u9_53,v9_54,v9_55,v9_56,u9_57,u9_58,v9_59,v9_60,u9_61,u9_62,u9_63,u9_64,u9_65,u9_66,u9_67,u9_68,u9_69,u9_70,u9_71,u9_72,u9_73,u9_74,u9_75,u9_76,u9_77,u9_78,u9_79,u9_80,u9_81,ty28,ty85,ty3,ty30,ty47,ty9,ty45,ty22,ty51,ty23,ty55,ty57,ty53,ty24,ty60,ty25,ty26,ty29,ty5,aokB,aokD,aokA,↓eyO_allN,↓eyO_kill,eyO,prEta,mnS_0,mnL_0,BktD.row,VerD.row,UpD.row,PartD.row,AskD.row,verV,partV,askV,RulD.av,ints,HQ_yn,HQ_yr,Loc.nz,AO.nz,Int.reduceBNe,Int.reduceBEq,bne_self_eq_false,mvcgen_simp]) | (with_reducible refine And.intro ?_ ?_) | (refine call_e0 (d:=some 155) (by omega) e49 ( list_L) rfl ?_ ?_ hbb ?_ ?_ ?_ ?_ ?_) | (refine call_e1 (d:=some 155) (by omega) e49 ( list_L) rfl ?_ ?_ hbb ?_ ?_ ?_ ?_ ?_) | (refine call_e2 (d:=some 155) (by omega) e49 ( list_L) rfl ?_ ?_ hbb ?_ ?_ ?_ ?_ ?_) | (refine call_ro e19 ( hc) rfl ?_ ?_ ?_ ?_) | (refine gcall_ro e19 ( hc) rfl ?_ ?_ ?_ ?_) | (refine dcall_ro e19 ( hc) rfl ?_ ?_ ?_ ?_) | (refine gdcall_ro rfl e19 ( hc) rfl ?_ ?_ ?_ ?_) | (refine EndX.plain ?_) | (refine nil_split (fun hn=>?_) (fun hn=>?_)) | (refine gcall_no not_false ?_) | (refine gdcall_no not_false ?_) | (refine GuardS_of _ _ _ _ _ _ (fun hg=>?_) (fun hg=>?_)) | (refine GuardD_of _ _ _ _ (fun hg=>?_) (fun hg=>?_)) | (refine CondB_of _ _ _ _ _ _ _ ?_ (fun hg=>?_) (fun hg=>?_))))
  all_goals first
    | (unfold Fr.below;simp [Fr.allN,AV.allN,AV.allNL];done)
    | (unfold Loc.below;simp only [List.all_cons,List.all_nil,eyO_allN];simp [AO.allN,AV.allN,AV.allNL];done)
    | (unfold noN;simp [Fr.allN,AV.allN,AV.allNL,AO.allN];done)
    | (intro z hz;simp only [List.mem_cons,List.not_mem_nil,or_false] at hz;rcases hz with rfl | rfl | rfl | rfl | rfl | rfl | rfl<;>simp;done)
    | (intro z hz;simp only [List.mem_cons,List.not_mem_nil,or_false] at hz;rcases hz with rfl | rfl | rfl | rfl | rfl | rfl<;>simp;done)
    | (intro z hz;simp only [List.mem_cons,List.not_mem_nil,or_false] at hz;rcases hz with rfl | rfl | rfl | rfl | rfl<;>simp;done)
    | (intro z hz;simp only [List.mem_cons,List.not_mem_nil,or_false] at hz;rcases hz with rfl | rfl | rfl | rfl<;>simp;done)
    | (intro z hz;simp only [List.mem_cons,List.not_mem_nil,or_false] at hz;rcases hz with rfl | rfl | rfl<;>simp;done)
    | (intro z hz;simp only [List.mem_cons,List.not_mem_nil,or_false] at hz;rcases hz with rfl | rfl<;>simp;done)
    | (intro z hz;simp only [List.mem_cons,List.not_mem_nil,or_false] at hz;subst hz;simp;done)
    | (intro z hz;cases hz;done)
    | exact .inl (by decide)
    | (show List.IsSuffix _ b;repeat' (first | exact List.suffix_refl _ | assumption | refine (takS_suf _ _).trans ?_ | refine (textS_suf _).trans ?_ | refine (mnS_suf partS_suf _ _).trans ?_ | refine (mnS_suf bkS_suf _ _).trans ?_ | refine (mnS_suf verS_suf _ _).trans ?_ | refine (mnS_suf askS_suf _ _).trans ?_ | refine (mnS_suf upT_suf _ _).trans ?_ | refine (mnSe_suf bkS_suf _).trans ?_ | refine (mnSe_suf verS_suf _).trans ?_ | refine (mnSe_suf upT_suf _).trans ?_ | refine (mnSe_suf askS_suf _).trans ?_))
    | trivial
    | (simp [avName,loadNames,opd,Fr.get];done)
    | (simp [allP,opd,Fr.get];done)
    | exact (rdS_a (by assumption)).symm
    | exact (rdS_b (by assumption) (by assumption)).symm
    | exact (rdS_c (by assumption) (by assumption) hm).symm
    | exact (rdS_d (by assumption) (by assumption) hm).symm
    | (exfalso;simp_all;done)
    | skip
end Go.Proofs.Ytijpmidnclbhpaa
