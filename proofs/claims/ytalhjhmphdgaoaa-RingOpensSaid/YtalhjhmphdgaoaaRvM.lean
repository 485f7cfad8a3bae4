/- Contracts on the way of OpenOf; its code (c18_eq). -/
import Derived.Test.YtalhjhmphdgaoaaRvI
import Derived.Test.YtalhjhmphdgaoaaFz
import Derived.Test.YtalhjhmphdgaoaaTypes
namespace Go.Proofs.Ytalhjhmphdgaoaa
open Go.RowKit
set_option maxRecDepth 100000
def o18_1 : List SO := ((SO.mk (some 6) (.move (.const (Value.slice none 0 0))) none) :: (SO.mk (some 7) (.move (.const (Value.slice none 0 0))) none) :: (SO.mk (some 8) (.move (.const (Value.int .i64 0))) none) :: [])
theorem v18_1 : type_of% (@swl _ _ o18_1.eq_1) := @swl _ _ o18_1.eq_1
def o18_2 : List SO := ((SO.mk none (.store 45 (.tmp 5) (.tmp 34)) none) :: (SO.mk (some 6) (.move (.const (Value.slice none 0 0))) none) :: (SO.mk (some 7) (.move (.const (Value.slice none 0 0))) none) :: (SO.mk (some 8) (.move (.tmp 35)) none) :: [])
theorem v18_2 : type_of% (@swl _ _ o18_2.eq_1) := @swl _ _ o18_2.eq_1
def c18_3 : SC := (.seq (.reg ((SO.mk (some 33) (.build 28 []) none) :: (SO.mk (some 34) (.build 45 []) none) :: (SO.mk (some 35) (.move (.tmp 9)) none) :: (SO.mk none (.store 28 (.tmp 4) (.tmp 33)) none) :: o18_2)) (.keep [4, 5, 6, 7, 8] .ret))
theorem u18_3 : type_of% (@swc _ _ c18_3.eq_1) := @swc _ _ c18_3.eq_1
def c18_4 : SC := (.cond (.tmp 32) c18_3 .skip)
theorem u18_4 : type_of% (@swc _ _ c18_4.eq_1) := @swc _ _ c18_4.eq_1
def c18_5 : SC := (.reg [SO.mk (some 47) (.load 45 (.tmp 11)) none, SO.mk none (.store 45 (.tmp 10) (.tmp 47)) none])
theorem u18_5 : type_of% (@swc _ _ c18_5.eq_1) := @swc _ _ c18_5.eq_1
def c18_6 : SC := (.cond (.tmp 46) c18_5 .skip)
theorem u18_6 : type_of% (@swc _ _ c18_6.eq_1) := @swc _ _ c18_6.eq_1
def o18_7 : List SO := ((SO.mk (some 6) (.move (.const (Value.slice none 0 0))) none) :: (SO.mk (some 7) (.move (.const (Value.slice none 0 0))) none) :: (SO.mk (some 8) (.move (.const (Value.int .i64 4))) none) :: [])
theorem v18_7 : type_of% (@swl _ _ o18_7.eq_1) := @swl _ _ o18_7.eq_1
def c18_8 : SC := (.seq (.reg ((SO.mk (some 51) (.build 28 []) none) :: (SO.mk (some 52) (.build 45 []) none) :: (SO.mk none (.store 28 (.tmp 4) (.tmp 51)) none) :: (SO.mk none (.store 45 (.tmp 5) (.tmp 52)) none) :: o18_7)) (.keep [4, 5, 6, 7, 8] .ret))
theorem u18_8 : type_of% (@swc _ _ c18_8.eq_1) := @swc _ _ c18_8.eq_1
def c18_9 : SC := (.cond (.tmp 50) c18_8 .skip)
theorem u18_9 : type_of% (@swc _ _ c18_9.eq_1) := @swc _ _ c18_9.eq_1
def o18_10 : List SO := ((SO.mk (some 57) (.faddr 45 (.tmp 10) 1) (some (56 , false))) :: (SO.mk (some 58) (.load 3 (.tmp 57)) (some (56 , false))) :: (SO.mk (some 59) (.bin .geq 3 (.tmp 58) (.const (Value.int .i64 1048576))) (some (56 , false))) :: (SO.mk (some 60) (.pick (.tmp 56) (.const (Value.bool true)) (.tmp 59)) none) :: [])
theorem v18_10 : type_of% (@swl _ _ o18_10.eq_1) := @swl _ _ o18_10.eq_1
def o18_11 : List SO := ((SO.mk (some 6) (.move (.const (Value.slice none 0 0))) none) :: (SO.mk (some 7) (.move (.const (Value.slice none 0 0))) none) :: (SO.mk (some 8) (.move (.const (Value.int .i64 8))) none) :: [])
theorem v18_11 : type_of% (@swl _ _ o18_11.eq_1) := @swl _ _ o18_11.eq_1
def c18_12 : SC := (.seq (.reg ((SO.mk (some 61) (.build 28 []) none) :: (SO.mk (some 62) (.build 45 []) none) :: (SO.mk none (.store 28 (.tmp 4) (.tmp 61)) none) :: (SO.mk none (.store 45 (.tmp 5) (.tmp 62)) none) :: o18_11)) (.keep [4, 5, 6, 7, 8] .ret))
theorem u18_12 : type_of% (@swc _ _ c18_12.eq_1) := @swc _ _ c18_12.eq_1
def c18_13 : SC := (.cond (.tmp 60) c18_12 .skip)
theorem u18_13 : type_of% (@swc _ _ c18_13.eq_1) := @swc _ _ c18_13.eq_1
def c18_14 : SC := (.cond (.tmp 67) .skip (.exit 0))
theorem u18_14 : type_of% (@swc _ _ c18_14.eq_1) := @swc _ _ c18_14.eq_1
def o18_15 : List SO := ((SO.mk (some 86) (.extract (.tmp 70) 1) none) :: (SO.mk (some 14) (.move (.tmp 85)) none) :: (SO.mk (some 15) (.move (.tmp 86)) none) :: [])
theorem v18_15 : type_of% (@swl _ _ o18_15.eq_1) := @swl _ _ o18_15.eq_1
def o18_16 : List SO := ((SO.mk (some 83) (.bin .add 3 (.tmp 81) (.tmp 82)) none) :: (SO.mk (some 84) (.call 8 [(.tmp 71), (.tmp 72), (.tmp 83)]) none) :: (SO.mk (some 70) (.move (.tmp 84)) none) :: (SO.mk (some 85) (.extract (.tmp 70) 0) none) :: o18_15)
theorem v18_16 : type_of% (@swl _ _ o18_16.eq_1) := @swl _ _ o18_16.eq_1
def o18_17 : List SO := ((SO.mk (some 79) (.load 3 (.tmp 78)) none) :: (SO.mk (some 80) (.bin .mul 3 (.tmp 77) (.tmp 79)) none) :: (SO.mk (some 81) (.bin .add 3 (.tmp 75) (.tmp 80)) none) :: (SO.mk (some 82) (.move (.tmp 13)) none) :: o18_16)
theorem v18_17 : type_of% (@swl _ _ o18_17.eq_1) := @swl _ _ o18_17.eq_1
def o18_18 : List SO := ((SO.mk (some 75) (.bin .add 3 (.const (Value.int .i64 2)) (.tmp 74)) none) :: (SO.mk (some 76) (.faddr 45 (.tmp 10) 2) none) :: (SO.mk (some 77) (.load 3 (.tmp 76)) none) :: (SO.mk (some 78) (.faddr 23 (.tmp 2) 1) none) :: o18_17)
theorem v18_18 : type_of% (@swl _ _ o18_18.eq_1) := @swl _ _ o18_18.eq_1
def c18_19 : SC := (.reg [SO.mk (some 87) (.move (.tmp 12)) none, SO.mk (some 88) (.move (.tmp 14)) none, SO.mk (some 89) (.bslice 24 2 [(0 , (.tmp 87)), (1 , (.tmp 88))]) none, SO.mk (some 90) (.call 25 [(.tmp 89)]) none, SO.mk (some 12) (.move (.tmp 90)) none])
theorem u18_19 : type_of% (@swc _ _ c18_19.eq_1) := @swc _ _ c18_19.eq_1
def c18_20 : SC := (.reg [SO.mk (some 68) (.move (.tmp 13)) none, SO.mk (some 69) (.bin .add 3 (.tmp 68) (.const (Value.int .i64 1))) none, SO.mk (some 13) (.move (.tmp 69)) none])
theorem u18_20 : type_of% (@swc _ _ c18_20.eq_1) := @swc _ _ c18_20.eq_1
def c18_21 : SC := (.seq (.block 1 (.seq (.reg ((SO.mk (some 71) (.load 23 (.tmp 2)) none) :: (SO.mk (some 72) (.load 28 (.tmp 3)) none) :: (SO.mk (some 73) (.faddr 23 (.tmp 2) 0) none) :: (SO.mk (some 74) (.load 3 (.tmp 73)) none) :: o18_18)) (.keep [12, 14, 13, 2, 3, 10, 4, 5] c18_19))) (.keep [13, 12, 2, 3, 10, 4, 5] c18_20))
theorem u18_21 : type_of% (@swc _ _ c18_21.eq_1) := @swc _ _ c18_21.eq_1
def c18_22 : SC := (.seq (.seq (.reg [SO.mk (some 63) (.move (.tmp 13)) none, SO.mk (some 64) (.faddr 45 (.tmp 10) 3) none, SO.mk (some 65) (.load 3 (.tmp 64)) none, SO.mk (some 66) (.call 41 [(.tmp 65), (.const (Value.int .i64 64))]) none, SO.mk (some 67) (.bin .lss 3 (.tmp 63) (.tmp 66)) none]) (.keep [67, 13, 12, 2, 3, 10, 4, 5] c18_14)) (.keep [12, 13, 2, 3, 10, 4, 5] c18_21))
theorem u18_22 : type_of% (@swc _ _ c18_22.eq_1) := @swc _ _ c18_22.eq_1
def c18_23 : SC := (.block 0 (.loop (.keep [13, 12, 2, 3, 10, 4, 5] c18_22)))
theorem u18_23 : type_of% (@swc _ _ c18_23.eq_1) := @swc _ _ c18_23.eq_1
def o18_24 : List SO := ((SO.mk (some 99) (.bin .lss 3 (.tmp 98) (.const (Value.int .i64 1048576))) (some (96 , true))) :: (SO.mk (some 100) (.pick (.tmp 96) (.tmp 99) (.const (Value.bool false))) none) :: [])
theorem v18_24 : type_of% (@swl _ _ o18_24.eq_1) := @swl _ _ o18_24.eq_1
def c18_25 : SC := (.cond (.tmp 100) .skip (.exit 2))
theorem u18_25 : type_of% (@swc _ _ c18_25.eq_1) := @swc _ _ c18_25.eq_1
def o18_26 : List SO := ((SO.mk (some 105) (.load 3 (.tmp 104)) none) :: (SO.mk (some 106) (.bin .sub 3 (.tmp 103) (.tmp 105)) none) :: (SO.mk (some 107) (.bin .lss 3 (.tmp 101) (.tmp 106)) none) :: [])
theorem v18_26 : type_of% (@swl _ _ o18_26.eq_1) := @swl _ _ o18_26.eq_1
def c18_27 : SC := (.cond (.tmp 107) .skip (.exit 4))
theorem u18_27 : type_of% (@swc _ _ c18_27.eq_1) := @swc _ _ c18_27.eq_1
def o18_28 : List SO := ((SO.mk (some 119) (.bin .rem 3 (.tmp 116) (.tmp 118)) none) :: (SO.mk (some 120) (.bin .add 3 (.const (Value.int .i64 2)) (.tmp 119)) none) :: [])
theorem v18_28 : type_of% (@swd _ _ o18_28.eq_1) := @swd _ _ o18_28.eq_1
def o18_29 : List SO := ((SO.mk (some 115) (.move (.tmp 21)) none) :: (SO.mk (some 116) (.bin .add 3 (.tmp 114) (.tmp 115)) none) :: (SO.mk (some 117) (.faddr 23 (.tmp 2) 0) none) :: (SO.mk (some 118) (.load 3 (.tmp 117)) none) :: o18_28)
theorem v18_29 : type_of% (@swd _ _ o18_29.eq_1) := @swd _ _ o18_29.eq_1
def o18_30 : List SO := ((SO.mk (some 111) (.load 23 (.tmp 2)) none) :: (SO.mk (some 112) (.load 28 (.tmp 3)) none) :: (SO.mk (some 113) (.faddr 45 (.tmp 10) 6) none) :: (SO.mk (some 114) (.load 3 (.tmp 113)) none) :: o18_29)
theorem v18_30 : type_of% (@swd _ _ o18_30.eq_1) := @swd _ _ o18_30.eq_1
theorem m18_30 (B : Nat) : mkNames B o18_30 = [] := (rfl)
def o18_31 : List SO := ((SO.mk (some 123) (.extract (.tmp 110) 1) none) :: (SO.mk (some 23) (.move (.tmp 123)) none) :: [])
theorem v18_31 : type_of% (@swl _ _ o18_31.eq_1) := @swl _ _ o18_31.eq_1
def o18_32 : List SO := ((SO.mk (some 178) (.move (.tmp 20)) (some (176 , true))) :: (SO.mk (some 179) (.bin .neq 3 (.tmp 177) (.tmp 178)) (some (176 , true))) :: (SO.mk (some 180) (.pick (.tmp 176) (.tmp 179) (.const (Value.bool false))) (some (173 , false))) :: (SO.mk (some 181) (.pick (.tmp 173) (.const (Value.bool true)) (.tmp 180)) none) :: [])
theorem v18_32 : type_of% (@swd _ _ o18_32.eq_1) := @swd _ _ o18_32.eq_1
def o18_33 : List SO := ((SO.mk (some 174) (.move (.tmp 21)) (some (173 , false))) :: (SO.mk (some 175) (.bin .gtr 3 (.tmp 174) (.const (Value.int .i64 0))) (some (173 , false))) :: (SO.mk (some 176) (.move (.tmp 175)) (some (173 , false))) :: (SO.mk (some 177) (.move (.tmp 25)) (some (176 , true))) :: o18_32)
theorem v18_33 : type_of% (@swd _ _ o18_33.eq_1) := @swd _ _ o18_33.eq_1
def o18_34 : List SO := ((SO.mk (some 170) (.bin .lss 3 (.tmp 168) (.tmp 169)) (some (167 , true))) :: (SO.mk (some 171) (.pick (.tmp 167) (.tmp 170) (.const (Value.bool false))) (some (164 , false))) :: (SO.mk (some 172) (.pick (.tmp 164) (.const (Value.bool true)) (.tmp 171)) none) :: (SO.mk (some 173) (.move (.tmp 172)) none) :: o18_33)
theorem v18_34 : type_of% (@swd _ _ o18_34.eq_1) := @swd _ _ o18_34.eq_1
def o18_35 : List SO := ((SO.mk (some 166) (.bin .eql 3 (.tmp 165) (.const (Value.int .i64 0))) (some (164 , false))) :: (SO.mk (some 167) (.move (.tmp 166)) (some (164 , false))) :: (SO.mk (some 168) (.move (.tmp 25)) (some (167 , true))) :: (SO.mk (some 169) (.move (.tmp 17)) (some (167 , true))) :: o18_34)
theorem v18_35 : type_of% (@swd _ _ o18_35.eq_1) := @swd _ _ o18_35.eq_1
def o18_36 : List SO := ((SO.mk (some 162) (.bin .neq 3 (.tmp 160) (.tmp 161)) (some (156 , false))) :: (SO.mk (some 163) (.pick (.tmp 156) (.const (Value.bool true)) (.tmp 162)) none) :: (SO.mk (some 164) (.move (.tmp 163)) none) :: (SO.mk (some 165) (.move (.tmp 21)) (some (164 , false))) :: o18_35)
theorem v18_36 : type_of% (@swd _ _ o18_36.eq_1) := @swd _ _ o18_36.eq_1
def o18_37 : List SO := ((SO.mk (some 158) (.iaddr 29 (.tmp 157) (.const (Value.int .i64 8))) (some (156 , false))) :: (SO.mk (some 159) (.load 5 (.tmp 158)) (some (156 , false))) :: (SO.mk (some 160) (.conv 5 3 (.tmp 159)) (some (156 , false))) :: (SO.mk (some 161) (.move (.tmp 21)) (some (156 , false))) :: o18_36)
theorem v18_37 : type_of% (@swd _ _ o18_37.eq_1) := @swd _ _ o18_37.eq_1
def o18_38 : List SO := ((SO.mk (some 154) (.bin .neq 3 (.tmp 151) (.tmp 153)) (some (148 , false))) :: (SO.mk (some 155) (.pick (.tmp 148) (.const (Value.bool true)) (.tmp 154)) none) :: (SO.mk (some 156) (.move (.tmp 155)) none) :: (SO.mk (some 157) (.move (.tmp 22)) (some (156 , false))) :: o18_37)
theorem v18_38 : type_of% (@swd _ _ o18_38.eq_1) := @swd _ _ o18_38.eq_1
def o18_39 : List SO := ((SO.mk (some 150) (.slice 29 (.tmp 149) (some (.const (Value.int .i64 4))) (some (.const (Value.int .i64 8)))) (some (148 , false))) :: (SO.mk (some 151) (.call 42 [(.tmp 150)]) (some (148 , false))) :: (SO.mk (some 152) (.faddr 45 (.tmp 10) 7) (some (148 , false))) :: (SO.mk (some 153) (.load 3 (.tmp 152)) (some (148 , false))) :: o18_38)
theorem v18_39 : type_of% (@swd _ _ o18_39.eq_1) := @swd _ _ o18_39.eq_1
def o18_40 : List SO := ((SO.mk (some 146) (.pick (.tmp 143) (.tmp 145) (.const (Value.bool false))) (some (138 , false))) :: (SO.mk (some 147) (.pick (.tmp 138) (.const (Value.bool true)) (.tmp 146)) none) :: (SO.mk (some 148) (.move (.tmp 147)) none) :: (SO.mk (some 149) (.move (.tmp 22)) (some (148 , false))) :: o18_39)
theorem v18_40 : type_of% (@swd _ _ o18_40.eq_1) := @swd _ _ o18_40.eq_1
def o18_41 : List SO := ((SO.mk (some 142) (.bin .eql 5 (.tmp 141) (.const (Value.int .u8 0))) (some (138 , false))) :: (SO.mk (some 143) (.move (.tmp 142)) (some (138 , false))) :: (SO.mk (some 144) (.move (.tmp 24)) (some (143 , true))) :: (SO.mk (some 145) (.bin .neq 3 (.tmp 144) (.const (Value.int .i64 52))) (some (143 , true))) :: o18_40)
theorem v18_41 : type_of% (@swd _ _ o18_41.eq_1) := @swd _ _ o18_41.eq_1
def o18_42 : List SO := ((SO.mk (some 138) (.move (.tmp 137)) none) :: (SO.mk (some 139) (.move (.tmp 22)) (some (138 , false))) :: (SO.mk (some 140) (.iaddr 29 (.tmp 139) (.const (Value.int .i64 9))) (some (138 , false))) :: (SO.mk (some 141) (.load 5 (.tmp 140)) (some (138 , false))) :: o18_41)
theorem v18_42 : type_of% (@swd _ _ o18_42.eq_1) := @swd _ _ o18_42.eq_1
def o18_43 : List SO := ((SO.mk (some 134) (.move (.tmp 133)) none) :: (SO.mk (some 135) (.move (.tmp 24)) (some (134 , false))) :: (SO.mk (some 136) (.bin .gtr 3 (.tmp 135) (.const (Value.int .i64 52))) (some (134 , false))) :: (SO.mk (some 137) (.pick (.tmp 134) (.const (Value.bool true)) (.tmp 136)) none) :: o18_42)
theorem v18_43 : type_of% (@swd _ _ o18_43.eq_1) := @swd _ _ o18_43.eq_1
def o18_44 : List SO := ((SO.mk (some 130) (.move (.tmp 22)) none) :: (SO.mk (some 131) (.iaddr 29 (.tmp 130) (.const (Value.int .i64 9))) none) :: (SO.mk (some 132) (.load 5 (.tmp 131)) none) :: (SO.mk (some 133) (.bin .gtr 5 (.tmp 132) (.const (Value.int .u8 1))) none) :: o18_43)
theorem v18_44 : type_of% (@swd _ _ o18_44.eq_1) := @swd _ _ o18_44.eq_1
theorem m18_44 (B : Nat) : mkNames B o18_44 = [] := (rfl)
def c18_45 : SC := (.cond (.tmp 181) (.exit 4) .skip)
theorem u18_45 : type_of% (@swc _ _ c18_45.eq_1) := @swc _ _ c18_45.eq_1
def o18_46 : List SO := ((SO.mk (some 187) (.slice 29 (.tmp 184) (some (.const (Value.int .i64 12))) (some (.tmp 186))) none) :: (SO.mk (some 188) (.bslice 24 2 [(0 , (.tmp 183)), (1 , (.tmp 187))]) none) :: (SO.mk (some 189) (.call 25 [(.tmp 188)]) none) :: (SO.mk (some 19) (.move (.tmp 189)) none) :: [])
theorem v18_46 : type_of% (@swl _ _ o18_46.eq_1) := @swl _ _ o18_46.eq_1
def o18_47 : List SO := ((SO.mk (some 206) (.faddr 45 (.tmp 10) 6) none) :: (SO.mk none (.store 3 (.tmp 206) (.tmp 205)) none) :: [])
theorem v18_47 : type_of% (@swl _ _ o18_47.eq_1) := @swl _ _ o18_47.eq_1
def o18_48 : List SO := ((SO.mk (some 202) (.bin .add 3 (.tmp 201) (.const (Value.int .i64 1))) none) :: (SO.mk (some 203) (.faddr 23 (.tmp 2) 0) none) :: (SO.mk (some 204) (.load 3 (.tmp 203)) none) :: (SO.mk (some 205) (.bin .rem 3 (.tmp 202) (.tmp 204)) none) :: o18_47)
theorem v18_48 : type_of% (@swl _ _ o18_48.eq_1) := @swl _ _ o18_48.eq_1
def o18_49 : List SO := ((SO.mk (some 211) (.bin .add 3 (.tmp 210) (.const (Value.int .i64 1))) none) :: (SO.mk (some 212) (.faddr 45 (.tmp 10) 8) none) :: (SO.mk none (.store 3 (.tmp 212) (.tmp 211)) none) :: [])
theorem v18_49 : type_of% (@swl _ _ o18_49.eq_1) := @swl _ _ o18_49.eq_1
def c18_50 : SC := (.seq (.reg [SO.mk (some 18) (.move (.const (Value.bool true))) none]) (.keep [18, 17, 2, 3, 10, 12, 16, 4, 5] (.exit 4)))
theorem u18_50 : type_of% (@swc _ _ c18_50.eq_1) := @swc _ _ c18_50.eq_1
def c18_51 : SC := (.seq (.reg [SO.mk (some 217) (.move (.tmp 20)) none, SO.mk (some 17) (.move (.tmp 217)) none]) (.keep [17, 2, 3, 10, 12, 16, 4, 5] c18_50))
theorem u18_51 : type_of% (@swc _ _ c18_51.eq_1) := @swc _ _ c18_51.eq_1
def c18_52 : SC := (.seq (.reg [SO.mk (some 213) (.faddr 45 (.tmp 10) 7) none, SO.mk (some 214) (.load 3 (.tmp 213)) none, SO.mk (some 215) (.bin .add 3 (.tmp 214) (.const (Value.int .i64 1))) none, SO.mk (some 216) (.faddr 45 (.tmp 10) 7) none, SO.mk none (.store 3 (.tmp 216) (.tmp 215)) none]) (.keep [20, 2, 3, 10, 12, 16, 4, 5] c18_51))
theorem u18_52 : type_of% (@swc _ _ c18_52.eq_1) := @swc _ _ c18_52.eq_1
def c18_53 : SC := (.seq (.reg ((SO.mk (some 207) (.faddr 45 (.tmp 10) 8) none) :: (SO.mk (some 208) (.load 3 (.tmp 207)) none) :: (SO.mk (some 209) (.move (.tmp 21)) none) :: (SO.mk (some 210) (.bin .add 3 (.tmp 208) (.tmp 209)) none) :: o18_49)) (.keep [20, 2, 3, 10, 12, 16, 4, 5] c18_52))
theorem u18_53 : type_of% (@swc _ _ c18_53.eq_1) := @swc _ _ c18_53.eq_1
def c18_54 : SC := (.seq (.reg ((SO.mk (some 198) (.faddr 45 (.tmp 10) 6) none) :: (SO.mk (some 199) (.load 3 (.tmp 198)) none) :: (SO.mk (some 200) (.move (.tmp 21)) none) :: (SO.mk (some 201) (.bin .add 3 (.tmp 199) (.tmp 200)) none) :: o18_48)) (.keep [21, 20, 2, 3, 10, 12, 16, 4, 5] c18_53))
theorem u18_54 : type_of% (@swc _ _ c18_54.eq_1) := @swc _ _ c18_54.eq_1
def c18_55 : SC := (.seq (.reg [SO.mk (some 194) (.move (.tmp 16)) none, SO.mk (some 195) (.move (.tmp 19)) none, SO.mk (some 196) (.bslice 24 1 [(0 , (.tmp 195))]) none, SO.mk (some 197) (.app 24 24 (.tmp 194) (.tmp 196)) none, SO.mk (some 16) (.move (.tmp 197)) none]) (.keep [21, 20, 2, 3, 10, 12, 16, 4, 5] c18_54))
theorem u18_55 : type_of% (@swc _ _ c18_55.eq_1) := @swc _ _ c18_55.eq_1
def c18_56 : SC := (.cond (.tmp 193) c18_55 .skip)
theorem u18_56 : type_of% (@swc _ _ c18_56.eq_1) := @swc _ _ c18_56.eq_1
def c18_57 : SC := (.seq (.reg [SO.mk (some 190) (.move (.tmp 22)) none, SO.mk (some 191) (.iaddr 29 (.tmp 190) (.const (Value.int .i64 9))) none, SO.mk (some 192) (.load 5 (.tmp 191)) none, SO.mk (some 193) (.bin .eql 5 (.tmp 192) (.const (Value.int .u8 1))) none]) (.keep [193, 21, 19, 20, 18, 17, 2, 3, 10, 12, 16, 4, 5] c18_56))
theorem u18_57 : type_of% (@swc _ _ c18_57.eq_1) := @swc _ _ c18_57.eq_1
def c18_58 : SC := (.seq (.reg ((SO.mk (some 183) (.move (.tmp 19)) none) :: (SO.mk (some 184) (.move (.tmp 22)) none) :: (SO.mk (some 185) (.move (.tmp 24)) none) :: (SO.mk (some 186) (.bin .add 3 (.const (Value.int .i64 12)) (.tmp 185)) none) :: o18_46)) (.keep [22, 21, 19, 20, 18, 17, 2, 3, 10, 12, 16, 4, 5] c18_57))
theorem u18_58 : type_of% (@swc _ _ c18_58.eq_1) := @swc _ _ c18_58.eq_1
def c18_59 : SC := (.seq (.reg [SO.mk (some 182) (.move (.tmp 25)) none, SO.mk (some 20) (.move (.tmp 182)) none]) (.keep [19, 24, 22, 21, 20, 18, 17, 2, 3, 10, 12, 16, 4, 5] c18_58))
theorem u18_59 : type_of% (@swc _ _ c18_59.eq_1) := @swc _ _ c18_59.eq_1
def c18_60 : SC := (.seq (.seq (.dreg false o18_44 []) (.keep [181, 25, 19, 24, 22, 21, 18, 17, 2, 3, 10, 12, 16, 4, 5] c18_45)) (.keep [25, 19, 24, 22, 21, 18, 17, 2, 3, 10, 12, 16, 4, 5] c18_59))
theorem u18_60 : type_of% (@swc _ _ c18_60.eq_1) := @swc _ _ c18_60.eq_1
def c18_61 : SC := (.seq (.reg [SO.mk (some 127) (.move (.tmp 22)) none, SO.mk (some 128) (.slice 29 (.tmp 127) (some (.const (Value.int .i64 0))) (some (.const (Value.int .i64 4)))) none, SO.mk (some 129) (.call 42 [(.tmp 128)]) none, SO.mk (some 25) (.move (.tmp 129)) none]) (.keep [20, 25, 19, 24, 22, 21, 18, 17, 2, 3, 10, 12, 16, 4, 5] c18_60))
theorem u18_61 : type_of% (@swc _ _ c18_61.eq_1) := @swc _ _ c18_61.eq_1
def c18_62 : SC := (.seq (.reg [SO.mk (some 124) (.move (.tmp 22)) none, SO.mk (some 125) (.slice 29 (.tmp 124) (some (.const (Value.int .i64 10))) (some (.const (Value.int .i64 12)))) none, SO.mk (some 126) (.call 42 [(.tmp 125)]) none, SO.mk (some 24) (.move (.tmp 126)) none]) (.keep [20, 19, 24, 22, 21, 18, 17, 2, 3, 10, 12, 16, 4, 5] c18_61))
theorem u18_62 : type_of% (@swc _ _ c18_62.eq_1) := @swc _ _ c18_62.eq_1
def c18_63 : SC := (.reg [SO.mk (some 108) (.move (.tmp 21)) none, SO.mk (some 109) (.bin .add 3 (.tmp 108) (.const (Value.int .i64 1))) none, SO.mk (some 21) (.move (.tmp 109)) none])
theorem u18_63 : type_of% (@swc _ _ c18_63.eq_1) := @swc _ _ c18_63.eq_1
def c18_64 : SC := (.seq (.block 5 (.seq (.dreg false o18_30 ((SO.mk (some 121) (.call 8 [(.tmp 111), (.tmp 112), (.tmp 120)]) none) :: (SO.mk (some 110) (.move (.tmp 121)) none) :: (SO.mk (some 122) (.extract (.tmp 110) 0) none) :: (SO.mk (some 22) (.move (.tmp 122)) none) :: o18_31)) (.keep [20, 19, 22, 21, 18, 17, 2, 3, 10, 12, 16, 4, 5] c18_62))) (.keep [21, 19, 20, 18, 17, 2, 3, 10, 12, 16, 4, 5] c18_63))
theorem u18_64 : type_of% (@swc _ _ c18_64.eq_1) := @swc _ _ c18_64.eq_1
def c18_65 : SC := (.seq (.seq (.reg ((SO.mk (some 101) (.move (.tmp 21)) none) :: (SO.mk (some 102) (.faddr 23 (.tmp 2) 0) none) :: (SO.mk (some 103) (.load 3 (.tmp 102)) none) :: (SO.mk (some 104) (.faddr 45 (.tmp 10) 8) none) :: o18_26)) (.keep [107, 21, 19, 20, 18, 17, 2, 3, 10, 12, 16, 4, 5] c18_27)) (.keep [20, 19, 21, 18, 17, 2, 3, 10, 12, 16, 4, 5] c18_64))
theorem u18_65 : type_of% (@swc _ _ c18_65.eq_1) := @swc _ _ c18_65.eq_1
def c18_66 : SC := (.block 4 (.loop (.keep [21, 19, 20, 18, 17, 2, 3, 10, 12, 16, 4, 5] c18_65)))
theorem u18_66 : type_of% (@swc _ _ c18_66.eq_1) := @swc _ _ c18_66.eq_1
def c18_67 : SC := (.seq (.reg [SO.mk (some 21) (.move (.const (Value.int .i64 0))) none]) (.keep [21, 19, 20, 18, 17, 2, 3, 10, 12, 16, 4, 5] c18_66))
theorem u18_67 : type_of% (@swc _ _ c18_67.eq_1) := @swc _ _ c18_67.eq_1
def c18_68 : SC := (.seq (.reg [SO.mk (some 18) (.move (.const (Value.bool false))) none]) (.keep [19, 20, 18, 17, 2, 3, 10, 12, 16, 4, 5] c18_67))
theorem u18_68 : type_of% (@swc _ _ c18_68.eq_1) := @swc _ _ c18_68.eq_1
def c18_69 : SC := (.seq (.reg [SO.mk (some 20) (.move (.const (Value.int .i64 0))) none]) (.keep [19, 20, 17, 2, 3, 10, 12, 16, 4, 5] c18_68))
theorem u18_69 : type_of% (@swc _ _ c18_69.eq_1) := @swc _ _ c18_69.eq_1
def c18_70 : SC := (.block 3 (.seq (.reg [SO.mk (some 19) (.move (.const (Value.slice none 0 0))) none]) (.keep [19, 17, 2, 3, 10, 12, 16, 4, 5] c18_69)))
theorem u18_70 : type_of% (@swc _ _ c18_70.eq_1) := @swc _ _ c18_70.eq_1
def c18_71 : SC := (.seq (.seq (.reg ((SO.mk (some 95) (.move (.tmp 18)) none) :: (SO.mk (some 96) (.move (.tmp 95)) none) :: (SO.mk (some 97) (.faddr 45 (.tmp 10) 7) (some (96 , true))) :: (SO.mk (some 98) (.load 3 (.tmp 97)) (some (96 , true))) :: o18_24)) (.keep [100, 17, 2, 3, 10, 12, 16, 4, 5] c18_25)) (.keep [17, 2, 3, 10, 12, 16, 4, 5] c18_70))
theorem u18_71 : type_of% (@swc _ _ c18_71.eq_1) := @swc _ _ c18_71.eq_1
def o18_72 : List SO := ((SO.mk (some 26) (.alloc 28) none) :: (SO.mk (some 27) (.alloc 45) none) :: [])
theorem v18_72 : type_of% (@swd _ _ o18_72.eq_1) := @swd _ _ o18_72.eq_1
def o18_73 : List SO := ((SO.mk (some 226) (.move (.tmp 238)) none) :: (SO.mk (some 239) (.extract (.tmp 226) 0) none) :: (SO.mk (some 240) (.extract (.tmp 226) 1) none) :: (SO.mk (some 241) (.extract (.tmp 226) 2) none) :: o18_72)
theorem v18_73 : type_of% (@swd _ _ o18_73.eq_1) := @swd _ _ o18_73.eq_1
def o18_74 : List SO := ((SO.mk (some 235) (.build 82 [(0 , (.const (Value.bool true)))]) none) :: (SO.mk (some 236) (.bslice 83 2 [(0 , (.tmp 234)), (1 , (.tmp 235))]) none) :: (SO.mk (some 237) (.load 45 (.tmp 10)) none) :: (SO.mk (some 238) (.call 43 [(.tmp 227), (.tmp 228), (.tmp 236), (.tmp 237)]) none) :: o18_73)
theorem v18_74 : type_of% (@swd _ _ o18_74.eq_1) := @swd _ _ o18_74.eq_1
def o18_75 : List SO := ((SO.mk (some 231) (.bin .rem 3 (.tmp 230) (.const (Value.int .i64 2))) none) :: (SO.mk (some 232) (.load 45 (.tmp 10)) none) :: (SO.mk (some 233) (.call 44 [(.tmp 232)]) none) :: (SO.mk (some 234) (.build 82 [(1 , (.tmp 231)), (2 , (.tmp 233))]) none) :: o18_74)
theorem v18_75 : type_of% (@swd _ _ o18_75.eq_1) := @swd _ _ o18_75.eq_1
def o18_76 : List SO := ((SO.mk (some 227) (.load 23 (.tmp 2)) none) :: (SO.mk (some 228) (.load 28 (.tmp 3)) none) :: (SO.mk (some 229) (.faddr 45 (.tmp 10) 0) none) :: (SO.mk (some 230) (.load 3 (.tmp 229)) none) :: o18_75)
theorem v18_76 : type_of% (@swd _ _ o18_76.eq_1) := @swd _ _ o18_76.eq_1
theorem m18_76 (B : Nat) : mkNames B o18_76 = [B + 26, B + 27] := (rfl)
def c18_77 : SC := (.seq (.dreg true [SO.mk (some 244) (.load 28 (.tmp 26)) none, SO.mk (some 245) (.load 45 (.tmp 27)) none, SO.mk (some 246) (.move (.tmp 9)) none] [SO.mk none (.store 28 (.tmp 4) (.tmp 244)) none, SO.mk none (.store 45 (.tmp 5) (.tmp 245)) none, SO.mk (some 6) (.move (.const (Value.slice none 0 0))) none, SO.mk (some 7) (.move (.const (Value.slice none 0 0))) none, SO.mk (some 8) (.move (.tmp 246)) none]) (.keep [4, 5, 6, 7, 8] .ret))
theorem u18_77 : type_of% (@swc _ _ c18_77.eq_1) := @swc _ _ c18_77.eq_1
def c18_78 : SC := (.cond (.tmp 243) c18_77 .skip)
theorem u18_78 : type_of% (@swc _ _ c18_78.eq_1) := @swc _ _ c18_78.eq_1
def c18_79 : SC := (.seq (.dreg true [SO.mk (some 247) (.load 28 (.tmp 26)) none, SO.mk (some 248) (.load 45 (.tmp 27)) none, SO.mk (some 249) (.move (.tmp 12)) none, SO.mk (some 250) (.move (.tmp 16)) none] [SO.mk none (.store 28 (.tmp 4) (.tmp 247)) none, SO.mk none (.store 45 (.tmp 5) (.tmp 248)) none, SO.mk (some 6) (.move (.tmp 249)) none, SO.mk (some 7) (.move (.tmp 250)) none, SO.mk (some 8) (.move (.const (Value.int .i64 0))) none]) (.keep [4, 5, 6, 7, 8] .ret))
theorem u18_79 : type_of% (@swc _ _ c18_79.eq_1) := @swc _ _ c18_79.eq_1
def c18_80 : SC := (.seq (.seq (.reg [SO.mk (some 242) (.move (.tmp 9)) none, SO.mk (some 243) (.bin .neq 30 (.tmp 242) (.const (Value.int .i64 0))) none]) (.keep [243, 9, 26, 27, 12, 16, 4, 5] c18_78)) (.keep [26, 27, 12, 16, 4, 5] c18_79))
theorem u18_80 : type_of% (@swc _ _ c18_80.eq_1) := @swc _ _ c18_80.eq_1
def c18_81 : SC := (.seq (.dreg false o18_76 [SO.mk none (.store 28 (.tmp 26) (.tmp 239)) none, SO.mk none (.store 45 (.tmp 27) (.tmp 240)) none, SO.mk (some 9) (.move (.tmp 241)) none]) (.keep [9, 26, 27, 12, 16, 4, 5] c18_80))
theorem u18_81 : type_of% (@swc _ _ c18_81.eq_1) := @swc _ _ c18_81.eq_1
def c18_82 : SC := (.seq (.reg [SO.mk (some 222) (.faddr 45 (.tmp 10) 1) none, SO.mk (some 223) (.load 3 (.tmp 222)) none, SO.mk (some 224) (.bin .add 3 (.tmp 223) (.const (Value.int .i64 1))) none, SO.mk (some 225) (.faddr 45 (.tmp 10) 1) none, SO.mk none (.store 3 (.tmp 225) (.tmp 224)) none]) (.keep [2, 3, 10, 12, 16, 4, 5] c18_81))
theorem u18_82 : type_of% (@swc _ _ c18_82.eq_1) := @swc _ _ c18_82.eq_1
def c18_83 : SC := (.seq (.reg [SO.mk (some 218) (.faddr 45 (.tmp 10) 0) none, SO.mk (some 219) (.load 3 (.tmp 218)) none, SO.mk (some 220) (.bin .add 3 (.tmp 219) (.const (Value.int .i64 1))) none, SO.mk (some 221) (.faddr 45 (.tmp 10) 0) none, SO.mk none (.store 3 (.tmp 221) (.tmp 220)) none]) (.keep [2, 3, 10, 12, 16, 4, 5] c18_82))
theorem u18_83 : type_of% (@swc _ _ c18_83.eq_1) := @swc _ _ c18_83.eq_1
def c18_84 : SC := (.seq (.block 2 (.loop (.keep [18, 17, 2, 3, 10, 12, 16, 4, 5] c18_71))) (.keep [2, 3, 10, 12, 16, 4, 5] c18_83))
theorem u18_84 : type_of% (@swc _ _ c18_84.eq_1) := @swc _ _ c18_84.eq_1
def c18_85 : SC := (.seq (.reg [SO.mk (some 18) (.move (.const (Value.bool true))) none]) (.keep [18, 17, 2, 3, 10, 12, 16, 4, 5] c18_84))
theorem u18_85 : type_of% (@swc _ _ c18_85.eq_1) := @swc _ _ c18_85.eq_1
def c18_86 : SC := (.seq (.reg [SO.mk (some 17) (.move (.const (Value.int .i64 0))) none]) (.keep [17, 2, 3, 10, 12, 16, 4, 5] c18_85))
theorem u18_86 : type_of% (@swc _ _ c18_86.eq_1) := @swc _ _ c18_86.eq_1
def c18_87 : SC := (.seq (.reg [SO.mk (some 16) (.move (.const (Value.slice none 0 0))) none]) (.keep [2, 3, 10, 12, 16, 4, 5] c18_86))
theorem u18_87 : type_of% (@swc _ _ c18_87.eq_1) := @swc _ _ c18_87.eq_1
def c18_88 : SC := (.seq (.reg [SO.mk (some 91) (.move (.tmp 12)) none, SO.mk (some 92) (.faddr 45 (.tmp 10) 3) none, SO.mk (some 93) (.load 3 (.tmp 92)) none, SO.mk (some 94) (.slice 29 (.tmp 91) none (some (.tmp 93))) none, SO.mk (some 12) (.move (.tmp 94)) none]) (.keep [2, 3, 10, 12, 4, 5] c18_87))
theorem u18_88 : type_of% (@swc _ _ c18_88.eq_1) := @swc _ _ c18_88.eq_1
def c18_89 : SC := (.seq (.seq (.reg [SO.mk (some 13) (.move (.const (Value.int .i64 0))) none]) (.keep [13, 12, 2, 3, 10, 4, 5] c18_23)) (.keep [12, 2, 3, 10, 4, 5] c18_88))
theorem u18_89 : type_of% (@swc _ _ c18_89.eq_1) := @swc _ _ c18_89.eq_1
def c18_90 : SC := (.seq (.reg [SO.mk (some 12) (.move (.const (Value.slice none 0 0))) none]) (.keep [12, 2, 3, 10, 4, 5] c18_89))
theorem u18_90 : type_of% (@swc _ _ c18_90.eq_1) := @swc _ _ c18_90.eq_1
def c18_91 : SC := (.seq (.seq (.reg ((SO.mk (some 53) (.faddr 45 (.tmp 10) 0) none) :: (SO.mk (some 54) (.load 3 (.tmp 53)) none) :: (SO.mk (some 55) (.bin .geq 3 (.tmp 54) (.const (Value.int .i64 1048576))) none) :: (SO.mk (some 56) (.move (.tmp 55)) none) :: o18_10)) (.keep [60, 2, 3, 10, 4, 5] c18_13)) (.keep [2, 3, 10, 4, 5] c18_90))
theorem u18_91 : type_of% (@swc _ _ c18_91.eq_1) := @swc _ _ c18_91.eq_1
def c18_92 : SC := (.seq (.seq (.reg [SO.mk (some 48) (.faddr 45 (.tmp 10) 0) none, SO.mk (some 49) (.load 3 (.tmp 48)) none, SO.mk (some 50) (.bin .eql 3 (.tmp 49) (.const (Value.int .i64 0))) none]) (.keep [50, 2, 3, 10, 4, 5] c18_9)) (.keep [2, 3, 10, 4, 5] c18_91))
theorem u18_92 : type_of% (@swc _ _ c18_92.eq_1) := @swc _ _ c18_92.eq_1
def c18_93 : SC := (.seq (.seq (.reg [SO.mk (some 42) (.faddr 45 (.tmp 11) 0) none, SO.mk (some 43) (.load 3 (.tmp 42)) none, SO.mk (some 44) (.faddr 45 (.tmp 10) 0) none, SO.mk (some 45) (.load 3 (.tmp 44)) none, SO.mk (some 46) (.bin .gtr 3 (.tmp 43) (.tmp 45)) none]) (.keep [46, 11, 2, 3, 10, 4, 5] c18_6)) (.keep [2, 3, 10, 4, 5] c18_92))
theorem u18_93 : type_of% (@swc _ _ c18_93.eq_1) := @swc _ _ c18_93.eq_1
def c18_94 : SC := (.seq (.reg [SO.mk (some 39) (.load 23 (.tmp 2)) none, SO.mk (some 40) (.load 28 (.tmp 3)) none, SO.mk (some 41) (.call 40 [(.tmp 39), (.tmp 40), (.const (Value.int .i64 1))]) none, SO.mk (some 11) (.alloc 45) none, SO.mk none (.store 45 (.tmp 11) (.tmp 41)) none]) (.keep [11, 2, 3, 10, 4, 5] c18_93))
theorem u18_94 : type_of% (@swc _ _ c18_94.eq_1) := @swc _ _ c18_94.eq_1
def c18_95 : SC := (.seq (.reg [SO.mk (some 36) (.load 23 (.tmp 2)) none, SO.mk (some 37) (.load 28 (.tmp 3)) none, SO.mk (some 38) (.call 40 [(.tmp 36), (.tmp 37), (.const (Value.int .i64 0))]) none, SO.mk (some 10) (.alloc 45) none, SO.mk none (.store 45 (.tmp 10) (.tmp 38)) none]) (.keep [2, 3, 10, 4, 5] c18_94))
theorem u18_95 : type_of% (@swc _ _ c18_95.eq_1) := @swc _ _ c18_95.eq_1
def c18_96 : SC := (.seq (.seq (.reg [SO.mk (some 31) (.move (.tmp 9)) none, SO.mk (some 32) (.bin .neq 30 (.tmp 31) (.const (Value.int .i64 0))) none]) (.keep [32, 9, 2, 3, 4, 5] c18_4)) (.keep [2, 3, 4, 5] c18_95))
theorem u18_96 : type_of% (@swc _ _ c18_96.eq_1) := @swc _ _ c18_96.eq_1
def c18_97 : SC := (.seq (.reg [SO.mk (some 28) (.load 23 (.tmp 2)) none, SO.mk (some 29) (.load 28 (.tmp 3)) none, SO.mk (some 30) (.call 23 [(.tmp 28), (.tmp 29)]) none, SO.mk (some 9) (.move (.tmp 30)) none]) (.keep [9, 2, 3, 4, 5] c18_96))
theorem u18_97 : type_of% (@swc _ _ c18_97.eq_1) := @swc _ _ c18_97.eq_1
def c18 : SC := (.seq (.reg ((SO.mk (some 2) (.box 23 (.tmp 0)) none) :: (SO.mk (some 3) (.box 28 (.tmp 1)) none) :: (SO.mk (some 4) (.alloc 28) none) :: (SO.mk (some 5) (.alloc 45) none) :: o18_1)) (.keep [2, 3, 4, 5] c18_97))
theorem c18_eq : annC Try.f18 = some c18 := by kernel_rfl
theorem r18 : Try.f18.results.toList = [.cell 4 28, .cell 5 45, .tmp 6, .tmp 7, .tmp 8] := by kernel_rfl
theorem e18 : enters Try.prog 18 = true := by kernel_rfl
end Go.Proofs.Ytalhjhmphdgaoaa
namespace Go.Proofs.Ytalhjhmphdgaoaa
open Go.RowKit
set_option maxHeartbeats 4000000
set_option maxRecDepth 20000
attribute [local irreducible] SW SWL SWLn SWD SEcall SEcallv SDv SE SO1 SOg ACalls ACallv Wk EndV
set_option linter.unusedSimpArgs false
set_option linter.unusedVariables false
theorem joinedO (a b : List UInt8) (h : (a ++ b).length ≤ 2 ^ 47) : Pure Try.prog 25 [.d (.ro [[.ro (a.map by_)], [.ro (b.map by_)]])] (.d (.ro ((a ++ b).map by_))) := by
  have := joined_p [a, b] (by simpa using h)
  simpa [secRow, bytes] using this
theorem jE_ok {g : GeoD} {j : JrnD} {s : OpS} (hj : JOk g j) (hB : GeoB g) (h3 : ¬ (j.gen = 1048576)) (h4 : ¬ (j.epoch = 1048576)) : JrnOk (jE j s) := by
  obtain ⟨gr1, gr2, ga1, ga2, gh1, gh2⟩ := hB
  obtain ⟨g1, g2, e1, e2, f1, n1, n2, a1, a2, l1, l2, s1, s2, u1, u2, pp⟩ := hj
  refine ⟨?_, ?_, ?_, ?_, ?_, ?_⟩ <;> simp only [jE] <;> omega
theorem superOfO_p {g : GeoD} {j : JrnD} (s : OpS) (hj : JOk g j) (hB : GeoB g) (h3 : ¬ (j.gen = 1048576)) (h4 : ¬ (j.epoch = 1048576)) : Pure Try.prog 44 [.agg [I (j.gen + 1), I (j.epoch + 1), I j.area, I j.length, I j.start, I j.first, I s.place, I s.next, I s.used]] (.d (bytes (superB (jE j s)))) := superOf_p (jE j s) (jE_ok hj hB h3 h4)
theorem doneO_p (g : GeoD) (d : DevD) (j : JrnD) (s : OpS) (hw : d.fit) : Pure Try.prog 43 [g.av, d.av, .d (.ro [[.v (.bool false), .v (.int .i64 ((j.gen + 1).tmod 2)), .ro ((superB (jE j s)).map by_)], [.v (.bool true), .v (.int .i64 0), .ro []]]), .agg [I (j.gen + 1), I (j.epoch + 1), I j.area, I j.length, I j.start, I j.first, I s.place, I s.next, I s.used]] (doneV (oS2 g d (jE j s)) (jE j s)) := by
  rw [← oS2_eq]; exact done_p g d (oT (jE j s)) (jE j s) hw
end Go.Proofs.Ytalhjhmphdgaoaa
