/- The reference's RecordFault. -/
import Derived.Test.YtckjgipcephmfaaDoorKChk
import Derived.Test.YtckjgipcephmfaaDoorTypes
namespace Go.Proofs.YtckjgipcephmfaaDoor
open Go.RowKit
set_option maxRecDepth 100000
def c9_1 : SC := (.seq (.reg [SO.mk (some 2) (.move (.const (Value.int .i64 3))) none]) (.keep [2] .ret))
theorem u9_1 : type_of% (@swc _ _ c9_1.eq_1) := @swc _ _ c9_1.eq_1
def c9_2 : SC := (.cond (.tmp 13) c9_1 .skip)
theorem u9_2 : type_of% (@swc _ _ c9_2.eq_1) := @swc _ _ c9_2.eq_1
def o9_3 : List SO := ((SO.mk (some 70) (.pick (.tmp 60) (.const (Value.bool true)) (.tmp 69)) none) :: [])
theorem v9_3 : type_of% (@swl _ _ o9_3.eq_1) := @swl _ _ o9_3.eq_1
def o9_4 : List SO := ((SO.mk (some 66) (.load 3 (.tmp 65)) (some (60 , false))) :: (SO.mk (some 67) (.bslice 34 3 [(0 , (.tmp 62)), (1 , (.tmp 64)), (2 , (.tmp 66))]) (some (60 , false))) :: (SO.mk (some 68) (.call 22 [(.const (Value.int .i64 4294967295)), (.tmp 67)]) (some (60 , false))) :: (SO.mk (some 69) (.un .not (.tmp 68)) (some (60 , false))) :: o9_3)
theorem v9_4 : type_of% (@swl _ _ o9_4.eq_1) := @swl _ _ o9_4.eq_1
def o9_5 : List SO := ((SO.mk (some 62) (.load 3 (.tmp 61)) (some (60 , false))) :: (SO.mk (some 63) (.faddr 36 (.tmp 3) 6) (some (60 , false))) :: (SO.mk (some 64) (.load 3 (.tmp 63)) (some (60 , false))) :: (SO.mk (some 65) (.faddr 36 (.tmp 3) 11) (some (60 , false))) :: o9_4)
theorem v9_5 : type_of% (@swl _ _ o9_5.eq_1) := @swl _ _ o9_5.eq_1
def o9_6 : List SO := ((SO.mk (some 58) (.un .not (.tmp 57)) (some (44 , false))) :: (SO.mk (some 59) (.pick (.tmp 44) (.const (Value.bool true)) (.tmp 58)) none) :: (SO.mk (some 60) (.move (.tmp 59)) none) :: (SO.mk (some 61) (.faddr 42 (.tmp 1) 2) (some (60 , false))) :: o9_5)
theorem v9_6 : type_of% (@swl _ _ o9_6.eq_1) := @swl _ _ o9_6.eq_1
def o9_7 : List SO := ((SO.mk (some 54) (.faddr 40 (.tmp 4) 0) (some (44 , false))) :: (SO.mk (some 55) (.load 3 (.tmp 54)) (some (44 , false))) :: (SO.mk (some 56) (.bslice 34 5 [(0 , (.tmp 46)), (1 , (.tmp 48)), (2 , (.tmp 50)), (3 , (.tmp 53)), (4 , (.tmp 55))]) (some (44 , false))) :: (SO.mk (some 57) (.call 22 [(.const (Value.int .i64 255)), (.tmp 56)]) (some (44 , false))) :: o9_6)
theorem v9_7 : type_of% (@swl _ _ o9_7.eq_1) := @swl _ _ o9_7.eq_1
def o9_8 : List SO := ((SO.mk (some 50) (.load 3 (.tmp 49)) (some (44 , false))) :: (SO.mk (some 51) (.faddr 42 (.tmp 1) 7) (some (44 , false))) :: (SO.mk (some 52) (.faddr 38 (.tmp 51) 2) (some (44 , false))) :: (SO.mk (some 53) (.load 3 (.tmp 52)) (some (44 , false))) :: o9_7)
theorem v9_8 : type_of% (@swl _ _ o9_8.eq_1) := @swl _ _ o9_8.eq_1
def o9_9 : List SO := ((SO.mk (some 46) (.load 3 (.tmp 45)) (some (44 , false))) :: (SO.mk (some 47) (.faddr 36 (.tmp 3) 7) (some (44 , false))) :: (SO.mk (some 48) (.load 3 (.tmp 47)) (some (44 , false))) :: (SO.mk (some 49) (.faddr 36 (.tmp 3) 9) (some (44 , false))) :: o9_8)
theorem v9_9 : type_of% (@swl _ _ o9_9.eq_1) := @swl _ _ o9_9.eq_1
def o9_10 : List SO := ((SO.mk (some 42) (.un .not (.tmp 41)) (some (28 , false))) :: (SO.mk (some 43) (.pick (.tmp 28) (.const (Value.bool true)) (.tmp 42)) none) :: (SO.mk (some 44) (.move (.tmp 43)) none) :: (SO.mk (some 45) (.faddr 42 (.tmp 1) 10) (some (44 , false))) :: o9_9)
theorem v9_10 : type_of% (@swl _ _ o9_10.eq_1) := @swl _ _ o9_10.eq_1
def o9_11 : List SO := ((SO.mk (some 38) (.faddr 40 (.tmp 4) 1) (some (28 , false))) :: (SO.mk (some 39) (.load 3 (.tmp 38)) (some (28 , false))) :: (SO.mk (some 40) (.bslice 34 5 [(0 , (.tmp 30)), (1 , (.tmp 32)), (2 , (.tmp 34)), (3 , (.tmp 37)), (4 , (.tmp 39))]) (some (28 , false))) :: (SO.mk (some 41) (.call 22 [(.const (Value.int .i64 65535)), (.tmp 40)]) (some (28 , false))) :: o9_10)
theorem v9_11 : type_of% (@swl _ _ o9_11.eq_1) := @swl _ _ o9_11.eq_1
def o9_12 : List SO := ((SO.mk (some 34) (.load 3 (.tmp 33)) (some (28 , false))) :: (SO.mk (some 35) (.faddr 42 (.tmp 1) 7) (some (28 , false))) :: (SO.mk (some 36) (.faddr 38 (.tmp 35) 1) (some (28 , false))) :: (SO.mk (some 37) (.load 3 (.tmp 36)) (some (28 , false))) :: o9_11)
theorem v9_12 : type_of% (@swl _ _ o9_12.eq_1) := @swl _ _ o9_12.eq_1
def o9_13 : List SO := ((SO.mk (some 30) (.load 3 (.tmp 29)) (some (28 , false))) :: (SO.mk (some 31) (.faddr 36 (.tmp 3) 5) (some (28 , false))) :: (SO.mk (some 32) (.load 3 (.tmp 31)) (some (28 , false))) :: (SO.mk (some 33) (.faddr 36 (.tmp 3) 10) (some (28 , false))) :: o9_12)
theorem v9_13 : type_of% (@swl _ _ o9_13.eq_1) := @swl _ _ o9_13.eq_1
def o9_14 : List SO := ((SO.mk (some 26) (.call 22 [(.const (Value.int .i64 16777215)), (.tmp 25)]) none) :: (SO.mk (some 27) (.un .not (.tmp 26)) none) :: (SO.mk (some 28) (.move (.tmp 27)) none) :: (SO.mk (some 29) (.faddr 42 (.tmp 1) 11) (some (28 , false))) :: o9_13)
theorem v9_14 : type_of% (@swl _ _ o9_14.eq_1) := @swl _ _ o9_14.eq_1
def o9_15 : List SO := ((SO.mk (some 22) (.faddr 42 (.tmp 1) 7) none) :: (SO.mk (some 23) (.faddr 38 (.tmp 22) 0) none) :: (SO.mk (some 24) (.load 3 (.tmp 23)) none) :: (SO.mk (some 25) (.bslice 34 3 [(0 , (.tmp 19)), (1 , (.tmp 21)), (2 , (.tmp 24))]) none) :: o9_14)
theorem v9_15 : type_of% (@swl _ _ o9_15.eq_1) := @swl _ _ o9_15.eq_1
def c9_16 : SC := (.seq (.reg [SO.mk (some 2) (.move (.const (Value.int .i64 2))) none]) (.keep [2] .ret))
theorem u9_16 : type_of% (@swc _ _ c9_16.eq_1) := @swc _ _ c9_16.eq_1
def c9_17 : SC := (.cond (.tmp 70) c9_16 .skip)
theorem u9_17 : type_of% (@swc _ _ c9_17.eq_1) := @swc _ _ c9_17.eq_1
def o9_18 : List SO := ((SO.mk (some 79) (.load 3 (.tmp 78)) (some (76 , false))) :: (SO.mk (some 80) (.call 21 [(.tmp 79), (.const (Value.int .i64 (-1))), (.const (Value.int .i64 4294967294))]) (some (76 , false))) :: (SO.mk (some 81) (.un .not (.tmp 80)) (some (76 , false))) :: (SO.mk (some 82) (.pick (.tmp 76) (.const (Value.bool true)) (.tmp 81)) none) :: [])
theorem v9_18 : type_of% (@swl _ _ o9_18.eq_1) := @swl _ _ o9_18.eq_1
def o9_19 : List SO := ((SO.mk (some 75) (.un .not (.tmp 74)) none) :: (SO.mk (some 76) (.move (.tmp 75)) none) :: (SO.mk (some 77) (.faddr 42 (.tmp 1) 5) (some (76 , false))) :: (SO.mk (some 78) (.faddr 33 (.tmp 77) 2) (some (76 , false))) :: o9_18)
theorem v9_19 : type_of% (@swl _ _ o9_19.eq_1) := @swl _ _ o9_19.eq_1
def c9_20 : SC := (.seq (.reg [SO.mk (some 2) (.move (.const (Value.int .i64 2))) none]) (.keep [2] .ret))
theorem u9_20 : type_of% (@swc _ _ c9_20.eq_1) := @swc _ _ c9_20.eq_1
def c9_21 : SC := (.cond (.tmp 82) c9_20 .skip)
theorem u9_21 : type_of% (@swc _ _ c9_21.eq_1) := @swc _ _ c9_21.eq_1
def o9_22 : List SO := ((SO.mk (some 147) (.pick (.tmp 142) (.const (Value.bool true)) (.tmp 146)) none) :: [])
theorem v9_22 : type_of% (@swl _ _ o9_22.eq_1) := @swl _ _ o9_22.eq_1
def o9_23 : List SO := ((SO.mk (some 143) (.faddr 40 (.tmp 4) 2) (some (142 , false))) :: (SO.mk (some 144) (.load 34 (.tmp 143)) (some (142 , false))) :: (SO.mk (some 145) (.call 22 [(.const (Value.int .i64 255)), (.tmp 144)]) (some (142 , false))) :: (SO.mk (some 146) (.un .not (.tmp 145)) (some (142 , false))) :: o9_22)
theorem v9_23 : type_of% (@swl _ _ o9_23.eq_1) := @swl _ _ o9_23.eq_1
def o9_24 : List SO := ((SO.mk (some 139) (.call 22 [(.const (Value.int .i64 255)), (.tmp 138)]) (some (136 , false))) :: (SO.mk (some 140) (.un .not (.tmp 139)) (some (136 , false))) :: (SO.mk (some 141) (.pick (.tmp 136) (.const (Value.bool true)) (.tmp 140)) none) :: (SO.mk (some 142) (.move (.tmp 141)) none) :: o9_23)
theorem v9_24 : type_of% (@swl _ _ o9_24.eq_1) := @swl _ _ o9_24.eq_1
def o9_25 : List SO := ((SO.mk (some 135) (.pick (.tmp 130) (.const (Value.bool true)) (.tmp 134)) none) :: (SO.mk (some 136) (.move (.tmp 135)) none) :: (SO.mk (some 137) (.faddr 36 (.tmp 3) 8) (some (136 , false))) :: (SO.mk (some 138) (.load 34 (.tmp 137)) (some (136 , false))) :: o9_24)
theorem v9_25 : type_of% (@swl _ _ o9_25.eq_1) := @swl _ _ o9_25.eq_1
def o9_26 : List SO := ((SO.mk (some 131) (.faddr 42 (.tmp 1) 9) (some (130 , false))) :: (SO.mk (some 132) (.load 34 (.tmp 131)) (some (130 , false))) :: (SO.mk (some 133) (.call 22 [(.const (Value.int .i64 255)), (.tmp 132)]) (some (130 , false))) :: (SO.mk (some 134) (.un .not (.tmp 133)) (some (130 , false))) :: o9_25)
theorem v9_26 : type_of% (@swl _ _ o9_26.eq_1) := @swl _ _ o9_26.eq_1
def o9_27 : List SO := ((SO.mk (some 127) (.len 34 (.tmp 126)) (some (124 , false))) :: (SO.mk (some 128) (.bin .gtr 3 (.tmp 127) (.const (Value.int .i64 255))) (some (124 , false))) :: (SO.mk (some 129) (.pick (.tmp 124) (.const (Value.bool true)) (.tmp 128)) none) :: (SO.mk (some 130) (.move (.tmp 129)) none) :: o9_26)
theorem v9_27 : type_of% (@swl _ _ o9_27.eq_1) := @swl _ _ o9_27.eq_1
def o9_28 : List SO := ((SO.mk (some 123) (.pick (.tmp 118) (.const (Value.bool true)) (.tmp 122)) none) :: (SO.mk (some 124) (.move (.tmp 123)) none) :: (SO.mk (some 125) (.faddr 40 (.tmp 4) 2) (some (124 , false))) :: (SO.mk (some 126) (.load 34 (.tmp 125)) (some (124 , false))) :: o9_27)
theorem v9_28 : type_of% (@swl _ _ o9_28.eq_1) := @swl _ _ o9_28.eq_1
def o9_29 : List SO := ((SO.mk (some 119) (.faddr 36 (.tmp 3) 8) (some (118 , false))) :: (SO.mk (some 120) (.load 34 (.tmp 119)) (some (118 , false))) :: (SO.mk (some 121) (.len 34 (.tmp 120)) (some (118 , false))) :: (SO.mk (some 122) (.bin .gtr 3 (.tmp 121) (.const (Value.int .i64 255))) (some (118 , false))) :: o9_28)
theorem v9_29 : type_of% (@swl _ _ o9_29.eq_1) := @swl _ _ o9_29.eq_1
def o9_30 : List SO := ((SO.mk (some 115) (.len 34 (.tmp 114)) (some (112 , false))) :: (SO.mk (some 116) (.bin .gtr 3 (.tmp 115) (.const (Value.int .i64 255))) (some (112 , false))) :: (SO.mk (some 117) (.pick (.tmp 112) (.const (Value.bool true)) (.tmp 116)) none) :: (SO.mk (some 118) (.move (.tmp 117)) none) :: o9_29)
theorem v9_30 : type_of% (@swl _ _ o9_30.eq_1) := @swl _ _ o9_30.eq_1
def o9_31 : List SO := ((SO.mk (some 111) (.pick (.tmp 106) (.const (Value.bool true)) (.tmp 110)) none) :: (SO.mk (some 112) (.move (.tmp 111)) none) :: (SO.mk (some 113) (.faddr 42 (.tmp 1) 9) (some (112 , false))) :: (SO.mk (some 114) (.load 34 (.tmp 113)) (some (112 , false))) :: o9_30)
theorem v9_31 : type_of% (@swl _ _ o9_31.eq_1) := @swl _ _ o9_31.eq_1
def o9_32 : List SO := ((SO.mk (some 107) (.faddr 36 (.tmp 3) 2) (some (106 , false))) :: (SO.mk (some 108) (.load 9 (.tmp 107)) (some (106 , false))) :: (SO.mk (some 109) (.len 9 (.tmp 108)) (some (106 , false))) :: (SO.mk (some 110) (.bin .gtr 3 (.tmp 109) (.const (Value.int .i64 255))) (some (106 , false))) :: o9_31)
theorem v9_32 : type_of% (@swl _ _ o9_32.eq_1) := @swl _ _ o9_32.eq_1
def o9_33 : List SO := ((SO.mk (some 103) (.len 9 (.tmp 102)) (some (100 , false))) :: (SO.mk (some 104) (.bin .gtr 3 (.tmp 103) (.const (Value.int .i64 255))) (some (100 , false))) :: (SO.mk (some 105) (.pick (.tmp 100) (.const (Value.bool true)) (.tmp 104)) none) :: (SO.mk (some 106) (.move (.tmp 105)) none) :: o9_32)
theorem v9_33 : type_of% (@swl _ _ o9_33.eq_1) := @swl _ _ o9_33.eq_1
def o9_34 : List SO := ((SO.mk (some 99) (.pick (.tmp 93) (.const (Value.bool true)) (.tmp 98)) none) :: (SO.mk (some 100) (.move (.tmp 99)) none) :: (SO.mk (some 101) (.faddr 36 (.tmp 3) 1) (some (100 , false))) :: (SO.mk (some 102) (.load 9 (.tmp 101)) (some (100 , false))) :: o9_33)
theorem v9_34 : type_of% (@swl _ _ o9_34.eq_1) := @swl _ _ o9_34.eq_1
def o9_35 : List SO := ((SO.mk (some 95) (.faddr 33 (.tmp 94) 0) (some (93 , false))) :: (SO.mk (some 96) (.load 9 (.tmp 95)) (some (93 , false))) :: (SO.mk (some 97) (.len 9 (.tmp 96)) (some (93 , false))) :: (SO.mk (some 98) (.bin .gtr 3 (.tmp 97) (.const (Value.int .i64 255))) (some (93 , false))) :: o9_34)
theorem v9_35 : type_of% (@swl _ _ o9_35.eq_1) := @swl _ _ o9_35.eq_1
def o9_36 : List SO := ((SO.mk (some 91) (.bin .gtr 3 (.tmp 90) (.const (Value.int .i64 255))) (some (87 , false))) :: (SO.mk (some 92) (.pick (.tmp 87) (.const (Value.bool true)) (.tmp 91)) none) :: (SO.mk (some 93) (.move (.tmp 92)) none) :: (SO.mk (some 94) (.faddr 42 (.tmp 1) 5) (some (93 , false))) :: o9_35)
theorem v9_36 : type_of% (@swl _ _ o9_36.eq_1) := @swl _ _ o9_36.eq_1
def o9_37 : List SO := ((SO.mk (some 87) (.move (.tmp 86)) none) :: (SO.mk (some 88) (.faddr 42 (.tmp 1) 4) (some (87 , false))) :: (SO.mk (some 89) (.load 9 (.tmp 88)) (some (87 , false))) :: (SO.mk (some 90) (.len 9 (.tmp 89)) (some (87 , false))) :: o9_36)
theorem v9_37 : type_of% (@swl _ _ o9_37.eq_1) := @swl _ _ o9_37.eq_1
def c9_38 : SC := (.seq (.reg [SO.mk (some 2) (.move (.const (Value.int .i64 1))) none]) (.keep [2] .ret))
theorem u9_38 : type_of% (@swc _ _ c9_38.eq_1) := @swc _ _ c9_38.eq_1
def c9_39 : SC := (.cond (.tmp 147) c9_38 .skip)
theorem u9_39 : type_of% (@swc _ _ c9_39.eq_1) := @swc _ _ c9_39.eq_1
def o9_40 : List SO := ((SO.mk (some 174) (.bin .eql 3 (.tmp 173) (.const (Value.int .i64 12))) (some (172 , false))) :: (SO.mk (some 175) (.pick (.tmp 172) (.const (Value.bool true)) (.tmp 174)) none) :: (SO.mk (some 6) (.move (.tmp 175)) none) :: [])
theorem v9_40 : type_of% (@swl _ _ o9_40.eq_1) := @swl _ _ o9_40.eq_1
def o9_41 : List SO := ((SO.mk (some 170) (.bin .eql 3 (.tmp 169) (.const (Value.int .i64 11))) (some (168 , false))) :: (SO.mk (some 171) (.pick (.tmp 168) (.const (Value.bool true)) (.tmp 170)) none) :: (SO.mk (some 172) (.move (.tmp 171)) none) :: (SO.mk (some 173) (.move (.tmp 5)) (some (172 , false))) :: o9_40)
theorem v9_41 : type_of% (@swl _ _ o9_41.eq_1) := @swl _ _ o9_41.eq_1
def o9_42 : List SO := ((SO.mk (some 166) (.bin .eql 3 (.tmp 165) (.const (Value.int .i64 10))) (some (164 , false))) :: (SO.mk (some 167) (.pick (.tmp 164) (.const (Value.bool true)) (.tmp 166)) none) :: (SO.mk (some 168) (.move (.tmp 167)) none) :: (SO.mk (some 169) (.move (.tmp 5)) (some (168 , false))) :: o9_41)
theorem v9_42 : type_of% (@swl _ _ o9_42.eq_1) := @swl _ _ o9_42.eq_1
def o9_43 : List SO := ((SO.mk (some 162) (.bin .eql 3 (.tmp 161) (.const (Value.int .i64 9))) (some (160 , false))) :: (SO.mk (some 163) (.pick (.tmp 160) (.const (Value.bool true)) (.tmp 162)) none) :: (SO.mk (some 164) (.move (.tmp 163)) none) :: (SO.mk (some 165) (.move (.tmp 5)) (some (164 , false))) :: o9_42)
theorem v9_43 : type_of% (@swl _ _ o9_43.eq_1) := @swl _ _ o9_43.eq_1
def o9_44 : List SO := ((SO.mk (some 158) (.bin .eql 3 (.tmp 157) (.const (Value.int .i64 8))) (some (156 , false))) :: (SO.mk (some 159) (.pick (.tmp 156) (.const (Value.bool true)) (.tmp 158)) none) :: (SO.mk (some 160) (.move (.tmp 159)) none) :: (SO.mk (some 161) (.move (.tmp 5)) (some (160 , false))) :: o9_43)
theorem v9_44 : type_of% (@swl _ _ o9_44.eq_1) := @swl _ _ o9_44.eq_1
def o9_45 : List SO := ((SO.mk (some 154) (.bin .eql 3 (.tmp 153) (.const (Value.int .i64 6))) (some (152 , false))) :: (SO.mk (some 155) (.pick (.tmp 152) (.const (Value.bool true)) (.tmp 154)) none) :: (SO.mk (some 156) (.move (.tmp 155)) none) :: (SO.mk (some 157) (.move (.tmp 5)) (some (156 , false))) :: o9_44)
theorem v9_45 : type_of% (@swl _ _ o9_45.eq_1) := @swl _ _ o9_45.eq_1
def o9_46 : List SO := ((SO.mk (some 188) (.bin .eql 3 (.tmp 187) (.const (Value.int .i64 10))) (some (186 , false))) :: (SO.mk (some 189) (.pick (.tmp 186) (.const (Value.bool true)) (.tmp 188)) none) :: (SO.mk (some 7) (.move (.tmp 189)) none) :: [])
theorem v9_46 : type_of% (@swl _ _ o9_46.eq_1) := @swl _ _ o9_46.eq_1
def o9_47 : List SO := ((SO.mk (some 184) (.bin .eql 3 (.tmp 183) (.const (Value.int .i64 3))) (some (182 , false))) :: (SO.mk (some 185) (.pick (.tmp 182) (.const (Value.bool true)) (.tmp 184)) none) :: (SO.mk (some 186) (.move (.tmp 185)) none) :: (SO.mk (some 187) (.move (.tmp 5)) (some (186 , false))) :: o9_46)
theorem v9_47 : type_of% (@swl _ _ o9_47.eq_1) := @swl _ _ o9_47.eq_1
def o9_48 : List SO := ((SO.mk (some 180) (.bin .eql 3 (.tmp 179) (.const (Value.int .i64 2))) (some (178 , false))) :: (SO.mk (some 181) (.pick (.tmp 178) (.const (Value.bool true)) (.tmp 180)) none) :: (SO.mk (some 182) (.move (.tmp 181)) none) :: (SO.mk (some 183) (.move (.tmp 5)) (some (182 , false))) :: o9_47)
theorem v9_48 : type_of% (@swl _ _ o9_48.eq_1) := @swl _ _ o9_48.eq_1
def o9_49 : List SO := ((SO.mk (some 198) (.bin .eql 3 (.tmp 197) (.const (Value.int .i64 13))) (some (196 , false))) :: (SO.mk (some 199) (.pick (.tmp 196) (.const (Value.bool true)) (.tmp 198)) none) :: (SO.mk (some 8) (.move (.tmp 199)) none) :: [])
theorem v9_49 : type_of% (@swl _ _ o9_49.eq_1) := @swl _ _ o9_49.eq_1
def o9_50 : List SO := ((SO.mk (some 194) (.bin .eql 3 (.tmp 193) (.const (Value.int .i64 8))) (some (192 , false))) :: (SO.mk (some 195) (.pick (.tmp 192) (.const (Value.bool true)) (.tmp 194)) none) :: (SO.mk (some 196) (.move (.tmp 195)) none) :: (SO.mk (some 197) (.move (.tmp 5)) (some (196 , false))) :: o9_49)
theorem v9_50 : type_of% (@swl _ _ o9_50.eq_1) := @swl _ _ o9_50.eq_1
def o9_51 : List SO := ((SO.mk (some 204) (.bin .eql 3 (.tmp 203) (.const (Value.int .i64 14))) (some (202 , false))) :: (SO.mk (some 205) (.pick (.tmp 202) (.const (Value.bool true)) (.tmp 204)) none) :: (SO.mk (some 9) (.move (.tmp 205)) none) :: [])
theorem v9_51 : type_of% (@swl _ _ o9_51.eq_1) := @swl _ _ o9_51.eq_1
def o9_52 : List SO := ((SO.mk (some 314) (.bin .gtr 3 (.tmp 313) (.const (Value.int .i64 0))) (some (310 , true))) :: (SO.mk (some 315) (.pick (.tmp 310) (.tmp 314) (.const (Value.bool false))) (some (307 , false))) :: (SO.mk (some 316) (.pick (.tmp 307) (.const (Value.bool true)) (.tmp 315)) none) :: [])
theorem v9_52 : type_of% (@swl _ _ o9_52.eq_1) := @swl _ _ o9_52.eq_1
def o9_53 : List SO := ((SO.mk (some 310) (.move (.tmp 309)) (some (307 , false))) :: (SO.mk (some 311) (.faddr 42 (.tmp 1) 9) (some (310 , true))) :: (SO.mk (some 312) (.load 34 (.tmp 311)) (some (310 , true))) :: (SO.mk (some 313) (.len 34 (.tmp 312)) (some (310 , true))) :: o9_52)
theorem v9_53 : type_of% (@swl _ _ o9_53.eq_1) := @swl _ _ o9_53.eq_1
def o9_54 : List SO := ((SO.mk (some 306) (.pick (.tmp 287) (.const (Value.bool true)) (.tmp 305)) none) :: (SO.mk (some 307) (.move (.tmp 306)) none) :: (SO.mk (some 308) (.move (.tmp 5)) (some (307 , false))) :: (SO.mk (some 309) (.bin .neq 3 (.tmp 308) (.const (Value.int .i64 8))) (some (307 , false))) :: o9_53)
theorem v9_54 : type_of% (@swl _ _ o9_54.eq_1) := @swl _ _ o9_54.eq_1
def o9_55 : List SO := ((SO.mk (some 302) (.len 34 (.tmp 301)) (some (299 , false))) :: (SO.mk (some 303) (.bin .gtr 3 (.tmp 302) (.const (Value.int .i64 0))) (some (299 , false))) :: (SO.mk (some 304) (.pick (.tmp 299) (.const (Value.bool true)) (.tmp 303)) (some (290 , true))) :: (SO.mk (some 305) (.pick (.tmp 290) (.tmp 304) (.const (Value.bool false))) (some (287 , false))) :: o9_54)
theorem v9_55 : type_of% (@swl _ _ o9_55.eq_1) := @swl _ _ o9_55.eq_1
def o9_56 : List SO := ((SO.mk (some 298) (.pick (.tmp 294) (.const (Value.bool true)) (.tmp 297)) (some (290 , true))) :: (SO.mk (some 299) (.move (.tmp 298)) (some (290 , true))) :: (SO.mk (some 300) (.faddr 40 (.tmp 4) 2) (some (299 , false))) :: (SO.mk (some 301) (.load 34 (.tmp 300)) (some (299 , false))) :: o9_55)
theorem v9_56 : type_of% (@swl _ _ o9_56.eq_1) := @swl _ _ o9_56.eq_1
def o9_57 : List SO := ((SO.mk (some 294) (.move (.tmp 293)) (some (290 , true))) :: (SO.mk (some 295) (.faddr 40 (.tmp 4) 1) (some (294 , false))) :: (SO.mk (some 296) (.load 3 (.tmp 295)) (some (294 , false))) :: (SO.mk (some 297) (.bin .neq 3 (.tmp 296) (.const (Value.int .i64 0))) (some (294 , false))) :: o9_56)
theorem v9_57 : type_of% (@swl _ _ o9_57.eq_1) := @swl _ _ o9_57.eq_1
def o9_58 : List SO := ((SO.mk (some 290) (.move (.tmp 289)) (some (287 , false))) :: (SO.mk (some 291) (.faddr 40 (.tmp 4) 0) (some (290 , true))) :: (SO.mk (some 292) (.load 3 (.tmp 291)) (some (290 , true))) :: (SO.mk (some 293) (.bin .neq 3 (.tmp 292) (.const (Value.int .i64 0))) (some (290 , true))) :: o9_57)
theorem v9_58 : type_of% (@swl _ _ o9_58.eq_1) := @swl _ _ o9_58.eq_1
def o9_59 : List SO := ((SO.mk (some 286) (.pick (.tmp 277) (.const (Value.bool true)) (.tmp 285)) none) :: (SO.mk (some 287) (.move (.tmp 286)) none) :: (SO.mk (some 288) (.move (.tmp 5)) (some (287 , false))) :: (SO.mk (some 289) (.bin .neq 3 (.tmp 288) (.const (Value.int .i64 11))) (some (287 , false))) :: o9_58)
theorem v9_59 : type_of% (@swl _ _ o9_59.eq_1) := @swl _ _ o9_59.eq_1
def o9_60 : List SO := ((SO.mk (some 282) (.load 38 (.tmp 281)) (some (280 , true))) :: (SO.mk (some 283) (.build 38 []) (some (280 , true))) :: (SO.mk (some 284) (.bin .neq 38 (.tmp 282) (.tmp 283)) (some (280 , true))) :: (SO.mk (some 285) (.pick (.tmp 280) (.tmp 284) (.const (Value.bool false))) (some (277 , false))) :: o9_59)
theorem v9_60 : type_of% (@swl _ _ o9_60.eq_1) := @swl _ _ o9_60.eq_1
def o9_61 : List SO := ((SO.mk (some 278) (.move (.tmp 5)) (some (277 , false))) :: (SO.mk (some 279) (.bin .neq 3 (.tmp 278) (.const (Value.int .i64 7))) (some (277 , false))) :: (SO.mk (some 280) (.move (.tmp 279)) (some (277 , false))) :: (SO.mk (some 281) (.faddr 42 (.tmp 1) 7) (some (280 , true))) :: o9_60)
theorem v9_61 : type_of% (@swl _ _ o9_61.eq_1) := @swl _ _ o9_61.eq_1
def o9_62 : List SO := ((SO.mk (some 274) (.un .not (.tmp 273)) (some (271 , true))) :: (SO.mk (some 275) (.pick (.tmp 271) (.tmp 274) (.const (Value.bool false))) (some (268 , false))) :: (SO.mk (some 276) (.pick (.tmp 268) (.const (Value.bool true)) (.tmp 275)) none) :: (SO.mk (some 277) (.move (.tmp 276)) none) :: o9_61)
theorem v9_62 : type_of% (@swl _ _ o9_62.eq_1) := @swl _ _ o9_62.eq_1
def o9_63 : List SO := ((SO.mk (some 270) (.bin .neq 3 (.tmp 269) (.const (Value.int .i64 4))) (some (268 , false))) :: (SO.mk (some 271) (.move (.tmp 270)) (some (268 , false))) :: (SO.mk (some 272) (.load 36 (.tmp 3)) (some (271 , true))) :: (SO.mk (some 273) (.call 23 [(.tmp 272)]) (some (271 , true))) :: o9_62)
theorem v9_63 : type_of% (@swl _ _ o9_63.eq_1) := @swl _ _ o9_63.eq_1
def o9_64 : List SO := ((SO.mk (some 266) (.pick (.tmp 261) (.tmp 265) (.const (Value.bool false))) (some (258 , false))) :: (SO.mk (some 267) (.pick (.tmp 258) (.const (Value.bool true)) (.tmp 266)) none) :: (SO.mk (some 268) (.move (.tmp 267)) none) :: (SO.mk (some 269) (.move (.tmp 5)) (some (268 , false))) :: o9_63)
theorem v9_64 : type_of% (@swl _ _ o9_64.eq_1) := @swl _ _ o9_64.eq_1
def o9_65 : List SO := ((SO.mk (some 262) (.faddr 42 (.tmp 1) 5) (some (261 , true))) :: (SO.mk (some 263) (.load 33 (.tmp 262)) (some (261 , true))) :: (SO.mk (some 264) (.build 33 []) (some (261 , true))) :: (SO.mk (some 265) (.bin .neq 33 (.tmp 263) (.tmp 264)) (some (261 , true))) :: o9_64)
theorem v9_65 : type_of% (@swl _ _ o9_65.eq_1) := @swl _ _ o9_65.eq_1
def o9_66 : List SO := ((SO.mk (some 258) (.move (.tmp 257)) none) :: (SO.mk (some 259) (.move (.tmp 5)) (some (258 , false))) :: (SO.mk (some 260) (.bin .neq 3 (.tmp 259) (.const (Value.int .i64 3))) (some (258 , false))) :: (SO.mk (some 261) (.move (.tmp 260)) (some (258 , false))) :: o9_65)
theorem v9_66 : type_of% (@swl _ _ o9_66.eq_1) := @swl _ _ o9_66.eq_1
def o9_67 : List SO := ((SO.mk (some 254) (.load 9 (.tmp 253)) (some (252 , true))) :: (SO.mk (some 255) (.bin .neq 9 (.tmp 254) (.const (Value.string ⟨#[]⟩))) (some (252 , true))) :: (SO.mk (some 256) (.pick (.tmp 252) (.tmp 255) (.const (Value.bool false))) (some (249 , false))) :: (SO.mk (some 257) (.pick (.tmp 249) (.const (Value.bool true)) (.tmp 256)) none) :: o9_66)
theorem v9_67 : type_of% (@swl _ _ o9_67.eq_1) := @swl _ _ o9_67.eq_1
def o9_68 : List SO := ((SO.mk (some 250) (.move (.tmp 5)) (some (249 , false))) :: (SO.mk (some 251) (.bin .neq 3 (.tmp 250) (.const (Value.int .i64 10))) (some (249 , false))) :: (SO.mk (some 252) (.move (.tmp 251)) (some (249 , false))) :: (SO.mk (some 253) (.faddr 42 (.tmp 1) 4) (some (252 , true))) :: o9_67)
theorem v9_68 : type_of% (@swl _ _ o9_68.eq_1) := @swl _ _ o9_68.eq_1
def o9_69 : List SO := ((SO.mk (some 246) (.bin .neq 3 (.tmp 245) (.const (Value.int .i64 0))) (some (243 , true))) :: (SO.mk (some 247) (.pick (.tmp 243) (.tmp 246) (.const (Value.bool false))) (some (240 , false))) :: (SO.mk (some 248) (.pick (.tmp 240) (.const (Value.bool true)) (.tmp 247)) none) :: (SO.mk (some 249) (.move (.tmp 248)) none) :: o9_68)
theorem v9_69 : type_of% (@swl _ _ o9_69.eq_1) := @swl _ _ o9_69.eq_1
def o9_70 : List SO := ((SO.mk (some 242) (.bin .neq 3 (.tmp 241) (.const (Value.int .i64 6))) (some (240 , false))) :: (SO.mk (some 243) (.move (.tmp 242)) (some (240 , false))) :: (SO.mk (some 244) (.faddr 42 (.tmp 1) 11) (some (243 , true))) :: (SO.mk (some 245) (.load 3 (.tmp 244)) (some (243 , true))) :: o9_69)
theorem v9_70 : type_of% (@swl _ _ o9_70.eq_1) := @swl _ _ o9_70.eq_1
def o9_71 : List SO := ((SO.mk (some 238) (.pick (.tmp 234) (.tmp 237) (.const (Value.bool false))) (some (231 , false))) :: (SO.mk (some 239) (.pick (.tmp 231) (.const (Value.bool true)) (.tmp 238)) none) :: (SO.mk (some 240) (.move (.tmp 239)) none) :: (SO.mk (some 241) (.move (.tmp 5)) (some (240 , false))) :: o9_70)
theorem v9_71 : type_of% (@swl _ _ o9_71.eq_1) := @swl _ _ o9_71.eq_1
def o9_72 : List SO := ((SO.mk (some 234) (.move (.tmp 233)) (some (231 , false))) :: (SO.mk (some 235) (.faddr 42 (.tmp 1) 10) (some (234 , true))) :: (SO.mk (some 236) (.load 3 (.tmp 235)) (some (234 , true))) :: (SO.mk (some 237) (.bin .neq 3 (.tmp 236) (.const (Value.int .i64 0))) (some (234 , true))) :: o9_71)
theorem v9_72 : type_of% (@swl _ _ o9_72.eq_1) := @swl _ _ o9_72.eq_1
def o9_73 : List SO := ((SO.mk (some 230) (.pick (.tmp 222) (.const (Value.bool true)) (.tmp 229)) none) :: (SO.mk (some 231) (.move (.tmp 230)) none) :: (SO.mk (some 232) (.move (.tmp 9)) (some (231 , false))) :: (SO.mk (some 233) (.un .not (.tmp 232)) (some (231 , false))) :: o9_72)
theorem v9_73 : type_of% (@swl _ _ o9_73.eq_1) := @swl _ _ o9_73.eq_1
def o9_74 : List SO := ((SO.mk (some 226) (.faddr 42 (.tmp 1) 2) (some (225 , true))) :: (SO.mk (some 227) (.load 3 (.tmp 226)) (some (225 , true))) :: (SO.mk (some 228) (.bin .neq 3 (.tmp 227) (.const (Value.int .i64 0))) (some (225 , true))) :: (SO.mk (some 229) (.pick (.tmp 225) (.tmp 228) (.const (Value.bool false))) (some (222 , false))) :: o9_73)
theorem v9_74 : type_of% (@swl _ _ o9_74.eq_1) := @swl _ _ o9_74.eq_1
def o9_75 : List SO := ((SO.mk (some 222) (.move (.tmp 221)) none) :: (SO.mk (some 223) (.move (.tmp 8)) (some (222 , false))) :: (SO.mk (some 224) (.un .not (.tmp 223)) (some (222 , false))) :: (SO.mk (some 225) (.move (.tmp 224)) (some (222 , false))) :: o9_74)
theorem v9_75 : type_of% (@swl _ _ o9_75.eq_1) := @swl _ _ o9_75.eq_1
def o9_76 : List SO := ((SO.mk (some 218) (.load 9 (.tmp 217)) (some (216 , true))) :: (SO.mk (some 219) (.bin .neq 9 (.tmp 218) (.const (Value.string ⟨#[]⟩))) (some (216 , true))) :: (SO.mk (some 220) (.pick (.tmp 216) (.tmp 219) (.const (Value.bool false))) (some (213 , false))) :: (SO.mk (some 221) (.pick (.tmp 213) (.const (Value.bool true)) (.tmp 220)) none) :: o9_75)
theorem v9_76 : type_of% (@swl _ _ o9_76.eq_1) := @swl _ _ o9_76.eq_1
def o9_77 : List SO := ((SO.mk (some 214) (.move (.tmp 7)) (some (213 , false))) :: (SO.mk (some 215) (.un .not (.tmp 214)) (some (213 , false))) :: (SO.mk (some 216) (.move (.tmp 215)) (some (213 , false))) :: (SO.mk (some 217) (.faddr 42 (.tmp 1) 3) (some (216 , true))) :: o9_76)
theorem v9_77 : type_of% (@swl _ _ o9_77.eq_1) := @swl _ _ o9_77.eq_1
def o9_78 : List SO := ((SO.mk (some 210) (.load 3 (.tmp 209)) (some (208 , true))) :: (SO.mk (some 211) (.bin .neq 3 (.tmp 210) (.const (Value.int .i64 0))) (some (208 , true))) :: (SO.mk (some 212) (.pick (.tmp 208) (.tmp 211) (.const (Value.bool false))) none) :: (SO.mk (some 213) (.move (.tmp 212)) none) :: o9_77)
theorem v9_78 : type_of% (@swl _ _ o9_78.eq_1) := @swl _ _ o9_78.eq_1
def c9_79 : SC := (.seq (.reg [SO.mk (some 2) (.move (.const (Value.int .i64 4))) none]) (.keep [2] .ret))
theorem u9_79 : type_of% (@swc _ _ c9_79.eq_1) := @swc _ _ c9_79.eq_1
def c9_80 : SC := (.cond (.tmp 316) c9_79 .skip)
theorem u9_80 : type_of% (@swc _ _ c9_80.eq_1) := @swc _ _ c9_80.eq_1
def c9_81 : SC := (.seq (.reg [SO.mk (some 2) (.move (.const (Value.int .i64 0))) none]) (.keep [2] .ret))
theorem u9_81 : type_of% (@swc _ _ c9_81.eq_1) := @swc _ _ c9_81.eq_1
def c9_82 : SC := (.seq (.seq (.reg ((SO.mk (some 206) (.move (.tmp 6)) none) :: (SO.mk (some 207) (.un .not (.tmp 206)) none) :: (SO.mk (some 208) (.move (.tmp 207)) none) :: (SO.mk (some 209) (.faddr 42 (.tmp 1) 1) (some (208 , true))) :: o9_78)) (.keep [316] c9_80)) (.keep [] c9_81))
theorem u9_82 : type_of% (@swc _ _ c9_82.eq_1) := @swc _ _ c9_82.eq_1
def c9_83 : SC := (.seq (.reg ((SO.mk (some 200) (.move (.tmp 5)) none) :: (SO.mk (some 201) (.bin .eql 3 (.tmp 200) (.const (Value.int .i64 6))) none) :: (SO.mk (some 202) (.move (.tmp 201)) none) :: (SO.mk (some 203) (.move (.tmp 5)) (some (202 , false))) :: o9_51)) (.keep [6, 7, 8, 9, 3, 4, 5, 1] c9_82))
theorem u9_83 : type_of% (@swc _ _ c9_83.eq_1) := @swc _ _ c9_83.eq_1
def c9_84 : SC := (.seq (.reg ((SO.mk (some 190) (.move (.tmp 5)) none) :: (SO.mk (some 191) (.bin .eql 3 (.tmp 190) (.const (Value.int .i64 2))) none) :: (SO.mk (some 192) (.move (.tmp 191)) none) :: (SO.mk (some 193) (.move (.tmp 5)) (some (192 , false))) :: o9_50)) (.keep [6, 7, 8, 3, 4, 5, 1] c9_83))
theorem u9_84 : type_of% (@swc _ _ c9_84.eq_1) := @swc _ _ c9_84.eq_1
def c9_85 : SC := (.seq (.reg ((SO.mk (some 176) (.move (.tmp 5)) none) :: (SO.mk (some 177) (.bin .eql 3 (.tmp 176) (.const (Value.int .i64 1))) none) :: (SO.mk (some 178) (.move (.tmp 177)) none) :: (SO.mk (some 179) (.move (.tmp 5)) (some (178 , false))) :: o9_48)) (.keep [6, 7, 3, 4, 5, 1] c9_84))
theorem u9_85 : type_of% (@swc _ _ c9_85.eq_1) := @swc _ _ c9_85.eq_1
def c9_86 : SC := (.seq (.reg ((SO.mk (some 150) (.move (.tmp 5)) none) :: (SO.mk (some 151) (.bin .eql 3 (.tmp 150) (.const (Value.int .i64 5))) none) :: (SO.mk (some 152) (.move (.tmp 151)) none) :: (SO.mk (some 153) (.move (.tmp 5)) (some (152 , false))) :: o9_45)) (.keep [6, 3, 4, 5, 1] c9_85))
theorem u9_86 : type_of% (@swc _ _ c9_86.eq_1) := @swc _ _ c9_86.eq_1
def c9_87 : SC := (.seq (.reg [SO.mk (some 148) (.faddr 42 (.tmp 1) 0) none, SO.mk (some 149) (.load 3 (.tmp 148)) none, SO.mk (some 5) (.move (.tmp 149)) none]) (.keep [3, 4, 5, 1] c9_86))
theorem u9_87 : type_of% (@swc _ _ c9_87.eq_1) := @swc _ _ c9_87.eq_1
def c9_88 : SC := (.seq (.seq (.reg ((SO.mk (some 83) (.faddr 42 (.tmp 1) 3) none) :: (SO.mk (some 84) (.load 9 (.tmp 83)) none) :: (SO.mk (some 85) (.len 9 (.tmp 84)) none) :: (SO.mk (some 86) (.bin .gtr 3 (.tmp 85) (.const (Value.int .i64 255))) none) :: o9_37)) (.keep [147, 3, 4, 1] c9_39)) (.keep [3, 4, 1] c9_87))
theorem u9_88 : type_of% (@swc _ _ c9_88.eq_1) := @swc _ _ c9_88.eq_1
def c9_89 : SC := (.seq (.seq (.reg ((SO.mk (some 71) (.faddr 42 (.tmp 1) 5) none) :: (SO.mk (some 72) (.faddr 33 (.tmp 71) 1) none) :: (SO.mk (some 73) (.load 3 (.tmp 72)) none) :: (SO.mk (some 74) (.call 21 [(.tmp 73), (.const (Value.int .i64 (-1))), (.const (Value.int .i64 4294967294))]) none) :: o9_19)) (.keep [82, 3, 4, 1] c9_21)) (.keep [3, 4, 1] c9_88))
theorem u9_89 : type_of% (@swc _ _ c9_89.eq_1) := @swc _ _ c9_89.eq_1
def c9_90 : SC := (.seq (.seq (.reg ((SO.mk (some 18) (.faddr 42 (.tmp 1) 1) none) :: (SO.mk (some 19) (.load 3 (.tmp 18)) none) :: (SO.mk (some 20) (.faddr 36 (.tmp 3) 0) none) :: (SO.mk (some 21) (.load 3 (.tmp 20)) none) :: o9_15)) (.keep [70, 3, 4, 1] c9_17)) (.keep [3, 4, 1] c9_89))
theorem u9_90 : type_of% (@swc _ _ c9_90.eq_1) := @swc _ _ c9_90.eq_1
def c9_91 : SC := (.seq (.reg [SO.mk (some 16) (.faddr 42 (.tmp 1) 8) none, SO.mk (some 17) (.load 40 (.tmp 16)) none, SO.mk (some 4) (.alloc 40) none, SO.mk none (.store 40 (.tmp 4) (.tmp 17)) none]) (.keep [3, 4, 1] c9_90))
theorem u9_91 : type_of% (@swc _ _ c9_91.eq_1) := @swc _ _ c9_91.eq_1
def c9_92 : SC := (.seq (.reg [SO.mk (some 14) (.faddr 42 (.tmp 1) 6) none, SO.mk (some 15) (.load 36 (.tmp 14)) none, SO.mk (some 3) (.alloc 36) none, SO.mk none (.store 36 (.tmp 3) (.tmp 15)) none]) (.keep [3, 1] c9_91))
theorem u9_92 : type_of% (@swc _ _ c9_92.eq_1) := @swc _ _ c9_92.eq_1
def c9_93 : SC := (.seq (.seq (.reg [SO.mk (some 10) (.faddr 42 (.tmp 1) 0) none, SO.mk (some 11) (.load 3 (.tmp 10)) none, SO.mk (some 12) (.call 21 [(.tmp 11), (.const (Value.int .i64 1)), (.const (Value.int .i64 14))]) none, SO.mk (some 13) (.un .not (.tmp 12)) none]) (.keep [13, 1] c9_2)) (.keep [1] c9_92))
theorem u9_93 : type_of% (@swc _ _ c9_93.eq_1) := @swc _ _ c9_93.eq_1
def c9 : SC := (.seq (.reg [SO.mk (some 1) (.box 42 (.tmp 0)) none, SO.mk (some 2) (.move (.const (Value.int .i64 0))) none]) (.keep [1] c9_93))
theorem c9_eq : annC Tryd.f9 = some c9 := by kernel_rfl
theorem r9 : Tryd.f9.results.toList = [.tmp 2] := by kernel_rfl
theorem e9 : enters Tryd.prog 9 = true := by kernel_rfl
end Go.Proofs.YtckjgipcephmfaaDoor
namespace Go.Proofs.YtckjgipcephmfaaDoor
open Go.RowKit
set_option maxHeartbeats 4000000
set_option maxRecDepth 20000
attribute [local irreducible] SW SWL SWLn SWD SEcall SEcallv SDv SE SO1 SOg ACalls ACallv Wk EndV
set_option linter.unusedSimpArgs false
set_option linter.unusedVariables false
theorem afA (r : RecD) : Pure Tryd.prog 22 [I 16777215, .d (.ro ([r.id, r.ver.id, r.ask.ver].map int_))] (Bo (rngA r)) := allIn_p _ _
theorem afB (r : RecD) : Pure Tryd.prog 22 [I 65535, .d (.ro ([r.pos, r.ver.size, r.ver.pos, r.ask.days, r.part.size].map int_))] (Bo (rngB r)) := allIn_p _ _
theorem afC (r : RecD) : Pure Tryd.prog 22 [I 255, .d (.ro ([r.vol, r.ver.tier, r.ver.vol, r.ask.cls, r.part.num].map int_))] (Bo (rngC r)) := allIn_p _ _
def rngG (r : RecD) : Bool := fitsF 4294967295 [r.n, r.ver.time, r.ver.till]
theorem afG (r : RecD) : Pure Tryd.prog 22 [I 4294967295, .d (.ro ([r.n, r.ver.time, r.ver.till].map int_))] (Bo (rngG r)) := allIn_p _ _
theorem afS (l : List Int) : Pure Tryd.prog 22 [I 255, .d (.ro (l.map int_))] (Bo (fitsF 255 l)) := allIn_p _ _
theorem inR_D (x : Int) (h : -9223372036854775808 ≤ x ∧ x ≤ 9223372036854775807) : (!noFit 4294967295 (IntKind.i64.wrap (x + 1)) && decide (x ≥ -1)) = inR x (-1) 4294967294 := by
  unfold noFit inR
  by_cases hx : x = 9223372036854775807
  · subst hx; decide
  · rw [IntWalk.i64_in (x + 1) (by omega), Bool.eq_iff_iff]; simp; omega
theorem rngD_ref (r : RecD) (h : r.wf) : rngD r = (rngG r && inR r.frz (-1) 4294967294 && inR r.drop (-1) 4294967294) := by
  rw [← inR_D r.frz h.f1, ← inR_D r.drop h.d1]
  unfold rngD rngG fitsF
  simp only [List.any_cons, List.any_nil, Bool.or_false]
  cases noFit 4294967295 r.n <;> cases noFit 4294967295 (IntKind.i64.wrap (r.frz + 1)) <;> cases noFit 4294967295 (IntKind.i64.wrap (r.drop + 1)) <;> cases noFit 4294967295 r.ver.time <;> cases noFit 4294967295 r.ver.till <;> cases decide (r.frz ≥ -1) <;> cases decide (r.drop ≥ -1) <;> rfl
theorem len256 (l : List Int) : decide ((l.length : Int) < 256) = !decide ((l.length : Int) > 255) := by
  rw [Bool.eq_iff_iff]; simp; omega
theorem szF_ref (r : RecD) : szF r = (!(decide ((r.name.size : Int) > 255) || decide ((r.key.size : Int) > 255) || decide ((r.pre.size : Int) > 255) || decide ((r.ver.bkt.size : Int) > 255) || decide ((r.ver.key.size : Int) > 255) || decide ((r.secs.length : Int) > 255) || decide ((r.ver.secs.length : Int) > 255) || decide ((r.part.secs.length : Int) > 255)) && fitsF 255 r.secs && fitsF 255 r.ver.secs && fitsF 255 r.part.secs) := by
  unfold szF namesF
  simp only [len256, List.any_cons, List.any_nil, longT, Bool.or_false]
  generalize decide ((r.name.size : Int) > 255) = a1
  generalize decide ((r.key.size : Int) > 255) = a2
  generalize decide ((r.pre.size : Int) > 255) = a3
  generalize decide ((r.ver.bkt.size : Int) > 255) = a4
  generalize decide ((r.ver.key.size : Int) > 255) = a5
  generalize decide ((r.secs.length : Int) > 255) = a6
  generalize decide ((r.ver.secs.length : Int) > 255) = a7
  generalize decide ((r.part.secs.length : Int) > 255) = a8
  generalize fitsF 255 r.secs = b1
  generalize fitsF 255 r.ver.secs = b2
  generalize fitsF 255 r.part.secs = b3
  cases a1 <;> cases a2 <;> cases a3 <;> cases a4 <;> cases a5 <;> cases a6 <;> cases a7 <;> cases a8 <;> cases b1 <;> cases b2 <;> cases b3 <;> rfl
def badL : List Bool → Prop
  | [] => False
  | [a] => a = false
  | a :: b :: l => a = false ∨ (a = true ∧ badL (b :: l))
theorem badL_of : ∀ {l : List Bool}, l.all (fun b => b) = false → badL l
  | [], h => by cases h
  | [a], h => by cases a <;> first | rfl | cases h
  | a :: b :: l, h => by
    cases a with
    | false => exact .inl rfl
    | true => exact .inr ⟨rfl, badL_of (l := b :: l) h⟩
def recT (r : RecD) : List Bool := [rngA r, rngB r, rngC r, rngG r, inR r.frz (-1) 4294967294, inR r.drop (-1) 4294967294, !decide ((r.name.size : Int) > 255), !decide ((r.key.size : Int) > 255), !decide ((r.pre.size : Int) > 255), !decide ((r.ver.bkt.size : Int) > 255), !decide ((r.ver.key.size : Int) > 255), !decide ((r.secs.length : Int) > 255), !decide ((r.ver.secs.length : Int) > 255), !decide ((r.part.secs.length : Int) > 255), fitsF 255 r.secs, fitsF 255 r.ver.secs, fitsF 255 r.part.secs]
theorem recT_all (r : RecD) (h : r.wf) : (recT r).all (fun b => b) = (rngF r && szF r) := by
  unfold rngF
  rw [rngD_ref r h, szF_ref r]
  unfold recT
  simp only [List.all_cons, List.all_nil]
  generalize decide ((r.name.size : Int) > 255) = b0
  generalize decide ((r.key.size : Int) > 255) = b1
  generalize decide ((r.pre.size : Int) > 255) = b2
  generalize decide ((r.ver.bkt.size : Int) > 255) = b3
  generalize decide ((r.ver.key.size : Int) > 255) = b4
  generalize decide ((r.secs.length : Int) > 255) = b5
  generalize decide ((r.ver.secs.length : Int) > 255) = b6
  generalize decide ((r.part.secs.length : Int) > 255) = b7
  generalize fitsF 255 r.secs = c0
  generalize fitsF 255 r.ver.secs = c1
  generalize fitsF 255 r.part.secs = c2
  generalize rngA r = a1
  generalize rngB r = a2
  generalize rngC r = a3
  generalize rngG r = a4
  generalize inR r.frz (-1) 4294967294 = a5
  generalize inR r.drop (-1) 4294967294 = a6
  cases a1 <;> cases a2 <;> cases a3 <;> cases a4 <;> cases a5 <;> cases a6 <;> simp only [Bool.true_and, Bool.false_and, Bool.and_false, Bool.and_true]
  simp only [Bool.not_or, Bool.and_assoc]
theorem recFault_bad (r : RecD) (hk : inR r.kind 1 14 = true) (h : badL (recT r)) : Pure Tryd.prog 9 [r.av] (I (bif !rngC r || !rngB r || !rngA r || !rngG r || !inR r.frz (-1) 4294967294 || !inR r.drop (-1) 4294967294 then 2 else 1)) := by
  refine pure_of follows Tryd.func9 c9_eq r9 (Nat.le_of_ble_eq_true rfl) fun B σ hcl _ => ?_
  unfold recT at h
  rcases h with z1 | ⟨z1, z2 | ⟨z2, z3 | ⟨z3, z4 | ⟨z4, z5 | ⟨z5, z6 | ⟨z6, z7 | ⟨z7, z8 | ⟨z8, z9 | ⟨z9, z10 | ⟨z10, z11 | ⟨z11, z12 | ⟨z12, z13 | ⟨z13, z14 | ⟨z14, z15 | ⟨z15, z16 | ⟨z16, z17⟩⟩⟩⟩⟩⟩⟩⟩⟩⟩⟩⟩⟩⟩⟩⟩
  all_goals (try (have z18 : fitsF 255 r.part.secs = false := z17; clear z17))
  all_goals (try simp only [Bool.not_eq_true', Bool.not_eq_false'] at *)
  repeat' (first | (simp -implicitDefEqProofs only [*, contN, contC, Nat.reduceBEq, Bool.or_false, Bool.or_true, Bool.false_or, Bool.true_or, Bool.not_true, Bool.not_false, SEconv, w_skip, w_ret, w_exit, w_reg, w_dreg, w_seq, SK_n, SK_r, SK_x, w_keep, w_block, w_cond, w_nil, w_cons, w_consg, w_nnil, w_ncons, w_dnil, w_dcons, w_dconsg, HK_app, HD_app, HQ_n, HQ_r, HQ_x, HQ_bn, HQ_br, HQ_bx, HQ_en, HQ_er, HQ_ex, CondB_true, CondB_false, SO1, w_sdv, SDe_alloc, SDe_box, SDe_bslice, SDe_app, true_imp_iff, false_imp_iff, and_false, false_and, not_false_eq_true, not_true_eq_false, addN, mkNames, killT, killD, killO, List.foldl_nil, List.foldl_cons, List.append_nil, List.nil_append, List.cons_append, GuardS_true, GuardS_false, GuardD_true, GuardD_false, DK_true, DK_false, lt_self_add, le_self_add, decide_true, decide_false, Bool.false_eq_true, Bool.true_eq_false, Nat.add_left_cancel_iff, SE, SEalloc, SEbox, SEstore, w_bs, SEbl, SEfz, SEbs0, fzName, osOf, AV.fz1, w_app, w_mk, aev, opd, Fr.get, putO, Fr.norm, List.map_cons, List.map_nil, with1, with2, onInt, AV.lit, entry, ↓reduceIte, Nat.reduceEqDiff, Nat.reduceAdd, reduceCtorEq, true_and, and_true, Option.map_some, Option.map_none, Option.bind_some, Option.bind_none, cond_true, cond_false, binV, unV, fieldV, loadV, sto, cellsAV, newF, newL, Fr.map, Loc.kill, Loc.set, AO.kill, AV.kill, AV.mapN, AV.mapNL, List.filter_nil, List.filter_cons, allP, EndV, retV, resV, resL, frz, dropL, AV.pick, nilV, tupV, imp_self, ne_eq, Int.cast_ofNat_Int, Int.reduceLT, Int.reduceToNat, List.getD_cons_zero, List.getD_cons_succ, bsliceV, buildV, afill, repl, chunk, rvs, AV.rv, RV.nrm, List.getElem?_nil, List.append_assoc, Nat.reduceMul, Nat.reducePow, Nat.zero_lt_succ, Nat.zero_add, Nat.add_zero, List.length_cons, List.length_nil, Nat.reduceLeDiff, Nat.le_refl, List.take_succ_cons, List.take_zero, List.drop_succ_cons, List.drop_zero, indexV, lenV, rowOf_mapD, rowOf_mapI, rowOf_mapA, List.length_map, Int.toNat_natCast, List.getElem?_cons_zero, List.getElem?_cons_succ, and_self, implies_true, if_true, if_false, HQ_zn, HQ_zr, HQ_wn, HQ_wr, AV.nz, AV.nzL, RV.nrm, SEbin, SEnil, nilK, srcV, dstV, appName, List.length_append, Nat.mul_one, take_map_len, take_map_app, List.getElem?_cons_zero, List.map_append, SEmkmap, SEmset, mgetV, kvOf, getM, setM, c9, r9, u9_1, u9_2, v9_3, v9_4, v9_5, v9_6, v9_7, v9_8, v9_9, v9_10, v9_11, v9_12, v9_13, v9_14, v9_15, u9_16, u9_17, v9_18, v9_19, u9_20, u9_21, v9_22, v9_23, v9_24, v9_25, v9_26, v9_27, v9_28, v9_29, v9_30, v9_31, v9_32, v9_33, v9_34, v9_35, v9_36, v9_37, u9_38, u9_39, v9_40, v9_41, v9_42, v9_43, v9_44, v9_45, v9_46, v9_47, v9_48, v9_49, v9_50, v9_51, v9_52, v9_53, v9_54, v9_55, v9_56, v9_57, v9_58, v9_59, v9_60, v9_61, v9_62, v9_63, v9_64, v9_65, v9_66, v9_67, v9_68, v9_69, v9_70, v9_71, v9_72, v9_73, v9_74, v9_75, v9_76, v9_77, v9_78, u9_79, u9_80, u9_81, u9_82, u9_83, u9_84, u9_85, u9_86, u9_87, u9_88, u9_89, u9_90, u9_91, u9_92, u9_93, ty42, ty3, ty36, ty40, ty38, ty34, ty33, ty9, RecD.av, RecD.row, ints, int_, VerD.av, VerD.row, PartD.av, PartD.row, feqR0, feqK0, Int.reduceBEq, Int.reduceBNe]) | (with_reducible refine And.intro ?_ ?_) | (refine call_ro e21 ( In_p _ _ _) rfl ?_ ?_ ?_ ?_) | (refine gcall_ro e21 ( In_p _ _ _) rfl ?_ ?_ ?_ ?_) | (refine dcall_ro e21 ( In_p _ _ _) rfl ?_ ?_ ?_ ?_) | (refine gdcall_ro rfl e21 ( In_p _ _ _) rfl ?_ ?_ ?_ ?_) | (refine call_ro e22 ( afA r) rfl ?_ ?_ ?_ ?_) | (refine gcall_ro e22 ( afA r) rfl ?_ ?_ ?_ ?_) | (refine dcall_ro e22 ( afA r) rfl ?_ ?_ ?_ ?_) | (refine gdcall_ro rfl e22 ( afA r) rfl ?_ ?_ ?_ ?_) | (refine call_ro e22 ( afB r) rfl ?_ ?_ ?_ ?_) | (refine gcall_ro e22 ( afB r) rfl ?_ ?_ ?_ ?_) | (refine dcall_ro e22 ( afB r) rfl ?_ ?_ ?_ ?_) | (refine gdcall_ro rfl e22 ( afB r) rfl ?_ ?_ ?_ ?_) | (refine call_ro e22 ( afC r) rfl ?_ ?_ ?_ ?_) | (refine gcall_ro e22 ( afC r) rfl ?_ ?_ ?_ ?_) | (refine dcall_ro e22 ( afC r) rfl ?_ ?_ ?_ ?_) | (refine gdcall_ro rfl e22 ( afC r) rfl ?_ ?_ ?_ ?_) | (refine call_ro e22 ( afG r) rfl ?_ ?_ ?_ ?_) | (refine gcall_ro e22 ( afG r) rfl ?_ ?_ ?_ ?_) | (refine dcall_ro e22 ( afG r) rfl ?_ ?_ ?_ ?_) | (refine gdcall_ro rfl e22 ( afG r) rfl ?_ ?_ ?_ ?_) | (refine call_ro e22 ( afS r.secs) rfl ?_ ?_ ?_ ?_) | (refine gcall_ro e22 ( afS r.secs) rfl ?_ ?_ ?_ ?_) | (refine dcall_ro e22 ( afS r.secs) rfl ?_ ?_ ?_ ?_) | (refine gdcall_ro rfl e22 ( afS r.secs) rfl ?_ ?_ ?_ ?_) | (refine call_ro e22 ( afS r.ver.secs) rfl ?_ ?_ ?_ ?_) | (refine gcall_ro e22 ( afS r.ver.secs) rfl ?_ ?_ ?_ ?_) | (refine dcall_ro e22 ( afS r.ver.secs) rfl ?_ ?_ ?_ ?_) | (refine gdcall_ro rfl e22 ( afS r.ver.secs) rfl ?_ ?_ ?_ ?_) | (refine call_ro e22 ( afS r.part.secs) rfl ?_ ?_ ?_ ?_) | (refine gcall_ro e22 ( afS r.part.secs) rfl ?_ ?_ ?_ ?_) | (refine dcall_ro e22 ( afS r.part.secs) rfl ?_ ?_ ?_ ?_) | (refine gdcall_ro rfl e22 ( afS r.part.secs) rfl ?_ ?_ ?_ ?_) | (refine call_ro e23 ( noVersion_p r.ver) rfl ?_ ?_ ?_ ?_) | (refine gcall_ro e23 ( noVersion_p r.ver) rfl ?_ ?_ ?_ ?_) | (refine dcall_ro e23 ( noVersion_p r.ver) rfl ?_ ?_ ?_ ?_) | (refine gdcall_ro rfl e23 ( noVersion_p r.ver) rfl ?_ ?_ ?_ ?_) | (refine gcall_do trivial ?_) | (refine EndX.plain ?_) | (refine nil_split (fun hn => ?_) (fun hn => ?_)) | (refine gcall_no not_false ?_) | (refine gdcall_no not_false ?_) | (refine GuardS_of _ _ _ _ _ _ (fun hg => ?_) (fun hg => ?_)) | (refine GuardD_of _ _ _ _ (fun hg => ?_) (fun hg => ?_)) | (refine CondB_of _ _ _ _ _ _ _ ?_ (fun hg => ?_) (fun hg => ?_)))
  all_goals (try (first | ((first | unfold noN | unfold Fr.below | unfold Loc.below); simp [Fr.allN, AV.allN, AV.allNL, AO.allN]; done) | rfl | trivial | assumption | (intro row hrow; simp only [List.mem_map] at hrow; obtain ⟨x, _, rfl⟩ := hrow; rfl) | (refine Wk.keep hcl ?_ ?_ ?_; (focus (simp [Fr.get, RecD.av, RecD.row, ints, int_, VerD.av, VerD.row, PartD.av, PartD.row, feqR0, feqK0, Int.reduceBEq, Int.reduceBNe] <;> fail)); (focus (simp [sto, RecD.av, RecD.row, ints, int_, VerD.av, VerD.row, PartD.av, PartD.row, feqR0, feqK0, Int.reduceBEq, Int.reduceBNe] <;> fail)); (focus (simp <;> fail))) | (simp [allP, opd, Fr.get, Fr.below, Fr.allN, AV.allN, AV.allNL, Loc.below, AO.allN, noN, killO, killT, killD, mkNames, AO.kill, AV.kill, AV.mapN, AV.mapNL]; done) | (with_reducible exact ltD (by assumption)) | omega | (simp only [decide_eq_true_eq, decide_eq_false_iff_not] at *; omega)))
  all_goals (try (simp [avName, loadNames, opd, Fr.get]; done))
  all_goals (first | rfl | (simp only [*, Bool.false_or, Bool.true_or, Bool.or_true, Bool.or_false, Bool.and_true, Bool.true_and, Bool.false_and, Bool.and_false, Bool.not_true, Bool.not_false, cond_true, cond_false]; done) | trace_state)
theorem recFault_kind (r : RecD) (hk : kindF r = false) : Pure Tryd.prog 9 [r.av] (I 3) := by
  refine pure_of follows Tryd.func9 c9_eq r9 (Nat.le_of_ble_eq_true rfl) fun B σ hcl _ => ?_
  have q5 : inR r.kind 1 14 = false := hk
  repeat' (first | (simp -implicitDefEqProofs only [*, contN, contC, Nat.reduceBEq, Bool.or_false, Bool.or_true, Bool.false_or, Bool.true_or, Bool.not_true, Bool.not_false, SEconv, w_skip, w_ret, w_exit, w_reg, w_dreg, w_seq, SK_n, SK_r, SK_x, w_keep, w_block, w_cond, w_nil, w_cons, w_consg, w_nnil, w_ncons, w_dnil, w_dcons, w_dconsg, HK_app, HD_app, HQ_n, HQ_r, HQ_x, HQ_bn, HQ_br, HQ_bx, HQ_en, HQ_er, HQ_ex, CondB_true, CondB_false, SO1, w_sdv, SDe_alloc, SDe_box, SDe_bslice, SDe_app, true_imp_iff, false_imp_iff, and_false, false_and, not_false_eq_true, not_true_eq_false, addN, mkNames, killT, killD, killO, List.foldl_nil, List.foldl_cons, List.append_nil, List.nil_append, List.cons_append, GuardS_true, GuardS_false, GuardD_true, GuardD_false, DK_true, DK_false, lt_self_add, le_self_add, decide_true, decide_false, Bool.false_eq_true, Bool.true_eq_false, Nat.add_left_cancel_iff, SE, SEalloc, SEbox, SEstore, w_bs, SEbl, SEfz, SEbs0, fzName, osOf, AV.fz1, w_app, w_mk, aev, opd, Fr.get, putO, Fr.norm, List.map_cons, List.map_nil, with1, with2, onInt, AV.lit, entry, ↓reduceIte, Nat.reduceEqDiff, Nat.reduceAdd, reduceCtorEq, true_and, and_true, Option.map_some, Option.map_none, Option.bind_some, Option.bind_none, cond_true, cond_false, binV, unV, fieldV, loadV, sto, cellsAV, newF, newL, Fr.map, Loc.kill, Loc.set, AO.kill, AV.kill, AV.mapN, AV.mapNL, List.filter_nil, List.filter_cons, allP, EndV, retV, resV, resL, frz, dropL, AV.pick, nilV, tupV, imp_self, ne_eq, Int.cast_ofNat_Int, Int.reduceLT, Int.reduceToNat, List.getD_cons_zero, List.getD_cons_succ, bsliceV, buildV, afill, repl, chunk, rvs, AV.rv, RV.nrm, List.getElem?_nil, List.append_assoc, Nat.reduceMul, Nat.reducePow, Nat.zero_lt_succ, Nat.zero_add, Nat.add_zero, List.length_cons, List.length_nil, Nat.reduceLeDiff, Nat.le_refl, List.take_succ_cons, List.take_zero, List.drop_succ_cons, List.drop_zero, indexV, lenV, rowOf_mapD, rowOf_mapI, rowOf_mapA, List.length_map, Int.toNat_natCast, List.getElem?_cons_zero, List.getElem?_cons_succ, and_self, implies_true, if_true, if_false, HQ_zn, HQ_zr, HQ_wn, HQ_wr, AV.nz, AV.nzL, RV.nrm, SEbin, SEnil, nilK, srcV, dstV, appName, List.length_append, Nat.mul_one, take_map_len, take_map_app, List.getElem?_cons_zero, List.map_append, SEmkmap, SEmset, mgetV, kvOf, getM, setM, c9, r9, u9_1, u9_2, v9_3, v9_4, v9_5, v9_6, v9_7, v9_8, v9_9, v9_10, v9_11, v9_12, v9_13, v9_14, v9_15, u9_16, u9_17, v9_18, v9_19, u9_20, u9_21, v9_22, v9_23, v9_24, v9_25, v9_26, v9_27, v9_28, v9_29, v9_30, v9_31, v9_32, v9_33, v9_34, v9_35, v9_36, v9_37, u9_38, u9_39, v9_40, v9_41, v9_42, v9_43, v9_44, v9_45, v9_46, v9_47, v9_48, v9_49, v9_50, v9_51, v9_52, v9_53, v9_54, v9_55, v9_56, v9_57, v9_58, v9_59, v9_60, v9_61, v9_62, v9_63, v9_64, v9_65, v9_66, v9_67, v9_68, v9_69, v9_70, v9_71, v9_72, v9_73, v9_74, v9_75, v9_76, v9_77, v9_78, u9_79, u9_80, u9_81, u9_82, u9_83, u9_84, u9_85, u9_86, u9_87, u9_88, u9_89, u9_90, u9_91, u9_92, u9_93, ty42, ty3, ty36, ty40, ty38, ty34, ty33, ty9, RecD.av, RecD.row, ints, int_, VerD.av, VerD.row, PartD.av, PartD.row, feqR0, feqK0, Int.reduceBEq, Int.reduceBNe]) | (with_reducible refine And.intro ?_ ?_) | (refine call_ro e21 ( In_p _ _ _) rfl ?_ ?_ ?_ ?_) | (refine gcall_ro e21 ( In_p _ _ _) rfl ?_ ?_ ?_ ?_) | (refine dcall_ro e21 ( In_p _ _ _) rfl ?_ ?_ ?_ ?_) | (refine gdcall_ro rfl e21 ( In_p _ _ _) rfl ?_ ?_ ?_ ?_) | (refine call_ro e22 ( afA r) rfl ?_ ?_ ?_ ?_) | (refine gcall_ro e22 ( afA r) rfl ?_ ?_ ?_ ?_) | (refine dcall_ro e22 ( afA r) rfl ?_ ?_ ?_ ?_) | (refine gdcall_ro rfl e22 ( afA r) rfl ?_ ?_ ?_ ?_) | (refine call_ro e22 ( afB r) rfl ?_ ?_ ?_ ?_) | (refine gcall_ro e22 ( afB r) rfl ?_ ?_ ?_ ?_) | (refine dcall_ro e22 ( afB r) rfl ?_ ?_ ?_ ?_) | (refine gdcall_ro rfl e22 ( afB r) rfl ?_ ?_ ?_ ?_) | (refine call_ro e22 ( afC r) rfl ?_ ?_ ?_ ?_) | (refine gcall_ro e22 ( afC r) rfl ?_ ?_ ?_ ?_) | (refine dcall_ro e22 ( afC r) rfl ?_ ?_ ?_ ?_) | (refine gdcall_ro rfl e22 ( afC r) rfl ?_ ?_ ?_ ?_) | (refine call_ro e22 ( afG r) rfl ?_ ?_ ?_ ?_) | (refine gcall_ro e22 ( afG r) rfl ?_ ?_ ?_ ?_) | (refine dcall_ro e22 ( afG r) rfl ?_ ?_ ?_ ?_) | (refine gdcall_ro rfl e22 ( afG r) rfl ?_ ?_ ?_ ?_) | (refine call_ro e22 ( afS r.secs) rfl ?_ ?_ ?_ ?_) | (refine gcall_ro e22 ( afS r.secs) rfl ?_ ?_ ?_ ?_) | (refine dcall_ro e22 ( afS r.secs) rfl ?_ ?_ ?_ ?_) | (refine gdcall_ro rfl e22 ( afS r.secs) rfl ?_ ?_ ?_ ?_) | (refine call_ro e22 ( afS r.ver.secs) rfl ?_ ?_ ?_ ?_) | (refine gcall_ro e22 ( afS r.ver.secs) rfl ?_ ?_ ?_ ?_) | (refine dcall_ro e22 ( afS r.ver.secs) rfl ?_ ?_ ?_ ?_) | (refine gdcall_ro rfl e22 ( afS r.ver.secs) rfl ?_ ?_ ?_ ?_) | (refine call_ro e22 ( afS r.part.secs) rfl ?_ ?_ ?_ ?_) | (refine gcall_ro e22 ( afS r.part.secs) rfl ?_ ?_ ?_ ?_) | (refine dcall_ro e22 ( afS r.part.secs) rfl ?_ ?_ ?_ ?_) | (refine gdcall_ro rfl e22 ( afS r.part.secs) rfl ?_ ?_ ?_ ?_) | (refine call_ro e23 ( noVersion_p r.ver) rfl ?_ ?_ ?_ ?_) | (refine gcall_ro e23 ( noVersion_p r.ver) rfl ?_ ?_ ?_ ?_) | (refine dcall_ro e23 ( noVersion_p r.ver) rfl ?_ ?_ ?_ ?_) | (refine gdcall_ro rfl e23 ( noVersion_p r.ver) rfl ?_ ?_ ?_ ?_) | (refine gcall_do trivial ?_) | (refine EndX.plain ?_) | (refine nil_split (fun hn => ?_) (fun hn => ?_)) | (refine gcall_no not_false ?_) | (refine gdcall_no not_false ?_) | (refine GuardS_of _ _ _ _ _ _ (fun hg => ?_) (fun hg => ?_)) | (refine GuardD_of _ _ _ _ (fun hg => ?_) (fun hg => ?_)) | (refine CondB_of _ _ _ _ _ _ _ ?_ (fun hg => ?_) (fun hg => ?_)))
  all_goals (try (first | ((first | unfold noN | unfold Fr.below | unfold Loc.below); simp [Fr.allN, AV.allN, AV.allNL, AO.allN]; done) | rfl | trivial | assumption | (intro row hrow; simp only [List.mem_map] at hrow; obtain ⟨x, _, rfl⟩ := hrow; rfl) | (refine Wk.keep hcl ?_ ?_ ?_; (focus (simp [Fr.get, RecD.av, RecD.row, ints, int_, VerD.av, VerD.row, PartD.av, PartD.row, feqR0, feqK0, Int.reduceBEq, Int.reduceBNe] <;> fail)); (focus (simp [sto, RecD.av, RecD.row, ints, int_, VerD.av, VerD.row, PartD.av, PartD.row, feqR0, feqK0, Int.reduceBEq, Int.reduceBNe] <;> fail)); (focus (simp <;> fail))) | (simp [allP, opd, Fr.get, Fr.below, Fr.allN, AV.allN, AV.allNL, Loc.below, AO.allN, noN, killO, killT, killD, mkNames, AO.kill, AV.kill, AV.mapN, AV.mapNL]; done) | (with_reducible exact ltD (by assumption)) | omega | (simp only [decide_eq_true_eq, decide_eq_false_iff_not] at *; omega)))
end Go.Proofs.YtckjgipcephmfaaDoor
