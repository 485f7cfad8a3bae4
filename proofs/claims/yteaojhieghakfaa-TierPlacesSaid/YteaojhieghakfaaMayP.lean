/- The reference's StateMay, walked. UNDER WAY (does not build yet). -/
import Derived.Test.YteaojhieghakfaaMayH
import Derived.Test.YteaojhieghakfaaTypes
namespace Go.Proofs.Yteaojhieghakfaa
open Go.RowKit
set_option maxRecDepth 100000
def o24_1 : List SO := ((SO.mk (some 53) (.bin .gtr 3 (.tmp 52) (.const (Value.int .i64 10))) (some (49 , false))) :: (SO.mk (some 54) (.pick (.tmp 49) (.const (Value.bool true)) (.tmp 53)) none) :: [])
theorem v24_1 : type_of% (@swl _ _ o24_1.eq_1) := @swl _ _ o24_1.eq_1
def o24_2 : List SO := ((SO.mk (some 49) (.move (.tmp 48)) none) :: (SO.mk (some 50) (.faddr 30 (.tmp 1) 5) (some (49 , false))) :: (SO.mk (some 51) (.load 27 (.tmp 50)) (some (49 , false))) :: (SO.mk (some 52) (.len 27 (.tmp 51)) (some (49 , false))) :: o24_1)
theorem v24_2 : type_of% (@swl _ _ o24_2.eq_1) := @swl _ _ o24_2.eq_1
def o24_3 : List SO := ((SO.mk (some 45) (.load 26 (.tmp 44)) (some (43 , false))) :: (SO.mk (some 46) (.len 26 (.tmp 45)) (some (43 , false))) :: (SO.mk (some 47) (.bin .gtr 3 (.tmp 46) (.const (Value.int .i64 4))) (some (43 , false))) :: (SO.mk (some 48) (.pick (.tmp 43) (.const (Value.bool true)) (.tmp 47)) none) :: o24_2)
theorem v24_3 : type_of% (@swl _ _ o24_3.eq_1) := @swl _ _ o24_3.eq_1
def o24_4 : List SO := ((SO.mk (some 41) (.bin .gtr 3 (.tmp 40) (.const (Value.int .i64 40))) (some (37 , false))) :: (SO.mk (some 42) (.pick (.tmp 37) (.const (Value.bool true)) (.tmp 41)) none) :: (SO.mk (some 43) (.move (.tmp 42)) none) :: (SO.mk (some 44) (.faddr 30 (.tmp 1) 4) (some (43 , false))) :: o24_3)
theorem v24_4 : type_of% (@swl _ _ o24_4.eq_1) := @swl _ _ o24_4.eq_1
def o24_5 : List SO := ((SO.mk (some 37) (.move (.tmp 36)) none) :: (SO.mk (some 38) (.faddr 30 (.tmp 1) 3) (some (37 , false))) :: (SO.mk (some 39) (.load 25 (.tmp 38)) (some (37 , false))) :: (SO.mk (some 40) (.len 25 (.tmp 39)) (some (37 , false))) :: o24_4)
theorem v24_5 : type_of% (@swl _ _ o24_5.eq_1) := @swl _ _ o24_5.eq_1
def o24_6 : List SO := ((SO.mk (some 33) (.load 24 (.tmp 32)) (some (31 , false))) :: (SO.mk (some 34) (.len 24 (.tmp 33)) (some (31 , false))) :: (SO.mk (some 35) (.bin .gtr 3 (.tmp 34) (.const (Value.int .i64 4))) (some (31 , false))) :: (SO.mk (some 36) (.pick (.tmp 31) (.const (Value.bool true)) (.tmp 35)) none) :: o24_5)
theorem v24_6 : type_of% (@swl _ _ o24_6.eq_1) := @swl _ _ o24_6.eq_1
def o24_7 : List SO := ((SO.mk (some 29) (.un .not (.tmp 28)) (some (25 , false))) :: (SO.mk (some 30) (.pick (.tmp 25) (.const (Value.bool true)) (.tmp 29)) none) :: (SO.mk (some 31) (.move (.tmp 30)) none) :: (SO.mk (some 32) (.faddr 30 (.tmp 1) 2) (some (31 , false))) :: o24_6)
theorem v24_7 : type_of% (@swl _ _ o24_7.eq_1) := @swl _ _ o24_7.eq_1
def o24_8 : List SO := ((SO.mk (some 25) (.move (.tmp 24)) none) :: (SO.mk (some 26) (.faddr 30 (.tmp 1) 1) (some (25 , false))) :: (SO.mk (some 27) (.load 3 (.tmp 26)) (some (25 , false))) :: (SO.mk (some 28) (.call 26 [(.tmp 27), (.const (Value.int .i64 0)), (.const (Value.int .i64 1073741824))]) (some (25 , false))) :: o24_7)
theorem v24_8 : type_of% (@swl _ _ o24_8.eq_1) := @swl _ _ o24_8.eq_1
def c24_9 : SC := (.seq (.reg [SO.mk (some 2) (.move (.const (Value.bool false))) none]) (.keep [2] .ret))
theorem u24_9 : type_of% (@swc _ _ c24_9.eq_1) := @swc _ _ c24_9.eq_1
def c24_10 : SC := (.cond (.tmp 54) c24_9 .skip)
theorem u24_10 : type_of% (@swc _ _ c24_10.eq_1) := @swc _ _ c24_10.eq_1
def c24_11 : SC := (.cond (.tmp 59) .skip (.exit 0))
theorem u24_11 : type_of% (@swc _ _ c24_11.eq_1) := @swc _ _ c24_11.eq_1
def o24_12 : List SO := ((SO.mk (some 66) (.load 3 (.tmp 65)) none) :: [])
theorem v24_12 : type_of% (@swd _ _ o24_12.eq_1) := @swd _ _ o24_12.eq_1
def o24_13 : List SO := ((SO.mk (some 62) (.faddr 30 (.tmp 1) 6) none) :: (SO.mk (some 63) (.load 28 (.tmp 62)) none) :: (SO.mk (some 64) (.move (.tmp 3)) none) :: (SO.mk (some 65) (.iaddr 28 (.tmp 63) (.tmp 64)) none) :: o24_12)
theorem v24_13 : type_of% (@swd _ _ o24_13.eq_1) := @swd _ _ o24_13.eq_1
theorem m24_13 (B : Nat) : mkNames B o24_13 = [] := (rfl)
def o24_14 : List SO := ((SO.mk (some 83) (.load 3 (.tmp 82)) (some (72 , true))) :: (SO.mk (some 84) (.bin .leq 3 (.tmp 77) (.tmp 83)) (some (72 , true))) :: (SO.mk (some 85) (.pick (.tmp 72) (.tmp 84) (.const (Value.bool false))) (some (69 , false))) :: (SO.mk (some 86) (.pick (.tmp 69) (.const (Value.bool true)) (.tmp 85)) none) :: [])
theorem v24_14 : type_of% (@swl _ _ o24_14.eq_1) := @swl _ _ o24_14.eq_1
def o24_15 : List SO := ((SO.mk (some 78) (.faddr 30 (.tmp 1) 6) (some (72 , true))) :: (SO.mk (some 79) (.load 28 (.tmp 78)) (some (72 , true))) :: (SO.mk (some 81) (.bin .sub 3 (.tmp 80) (.const (Value.int .i64 1))) (some (72 , true))) :: (SO.mk (some 82) (.iaddr 28 (.tmp 79) (.tmp 81)) (some (72 , true))) :: o24_14)
theorem v24_15 : type_of% (@swl _ _ o24_15.eq_1) := @swl _ _ o24_15.eq_1
def o24_16 : List SO := ((SO.mk (some 73) (.faddr 30 (.tmp 1) 6) (some (72 , true))) :: (SO.mk (some 74) (.load 28 (.tmp 73)) (some (72 , true))) :: (SO.mk (some 76) (.iaddr 28 (.tmp 74) (.tmp 75)) (some (72 , true))) :: (SO.mk (some 77) (.load 3 (.tmp 76)) (some (72 , true))) :: o24_15)
theorem v24_16 : type_of% (@swl _ _ o24_16.eq_1) := @swl _ _ o24_16.eq_1
def o24_17 : List SO := ((SO.mk (some 71) (.bin .gtr 3 (.tmp 70) (.const (Value.int .i64 0))) (some (69 , false))) :: (SO.mk (some 72) (.move (.tmp 71)) (some (69 , false))) :: (SO.mk (some 75) (.move (.tmp 3)) (some (72 , true))) :: (SO.mk (some 80) (.move (.tmp 3)) (some (72 , true))) :: o24_16)
theorem v24_17 : type_of% (@swl _ _ o24_17.eq_1) := @swl _ _ o24_17.eq_1
def c24_18 : SC := (.seq (.reg [SO.mk (some 2) (.move (.const (Value.bool false))) none]) (.keep [2] .ret))
theorem u24_18 : type_of% (@swc _ _ c24_18.eq_1) := @swc _ _ c24_18.eq_1
def c24_19 : SC := (.cond (.tmp 86) c24_18 .skip)
theorem u24_19 : type_of% (@swc _ _ c24_19.eq_1) := @swc _ _ c24_19.eq_1
def c24_20 : SC := (.reg [SO.mk (some 60) (.move (.tmp 3)) none, SO.mk (some 61) (.bin .add 3 (.tmp 60) (.const (Value.int .i64 1))) none, SO.mk (some 3) (.move (.tmp 61)) none])
theorem u24_20 : type_of% (@swc _ _ c24_20.eq_1) := @swc _ _ c24_20.eq_1
def c24_21 : SC := (.seq (.block 1 (.seq (.dreg false o24_13 ((SO.mk (some 67) (.call 26 [(.tmp 66), (.const (Value.int .i64 0)), (.const (Value.int .i64 7))]) none) :: (SO.mk (some 68) (.un .not (.tmp 67)) none) :: (SO.mk (some 69) (.move (.tmp 68)) none) :: (SO.mk (some 70) (.move (.tmp 3)) (some (69 , false))) :: o24_17)) (.keep [86, 3, 1] c24_19))) (.keep [3, 1] c24_20))
theorem u24_21 : type_of% (@swc _ _ c24_21.eq_1) := @swc _ _ c24_21.eq_1
def c24_22 : SC := (.seq (.seq (.reg [SO.mk (some 55) (.move (.tmp 3)) none, SO.mk (some 56) (.faddr 30 (.tmp 1) 6) none, SO.mk (some 57) (.load 28 (.tmp 56)) none, SO.mk (some 58) (.len 28 (.tmp 57)) none, SO.mk (some 59) (.bin .lss 3 (.tmp 55) (.tmp 58)) none]) (.keep [59, 3, 1] c24_11)) (.keep [3, 1] c24_21))
theorem u24_22 : type_of% (@swc _ _ c24_22.eq_1) := @swc _ _ c24_22.eq_1
def c24_23 : SC := (.block 0 (.loop (.keep [3, 1] c24_22)))
theorem u24_23 : type_of% (@swc _ _ c24_23.eq_1) := @swc _ _ c24_23.eq_1
def c24_24 : SC := (.cond (.tmp 91) .skip (.exit 2))
theorem u24_24 : type_of% (@swc _ _ c24_24.eq_1) := @swc _ _ c24_24.eq_1
def o24_25 : List SO := ((SO.mk (some 98) (.load 78 (.tmp 97)) none) :: (SO.mk (some 5) (.alloc 78) none) :: (SO.mk none (.store 78 (.tmp 5) (.tmp 98)) none) :: [])
theorem v24_25 : type_of% (@swl _ _ o24_25.eq_1) := @swl _ _ o24_25.eq_1
def o24_26 : List SO := ((SO.mk (some 99) (.faddr 78 (.tmp 5) 0) none) :: (SO.mk (some 100) (.load 9 (.tmp 99)) none) :: [])
theorem v24_26 : type_of% (@swd _ _ o24_26.eq_1) := @swd _ _ o24_26.eq_1
theorem m24_26 (B : Nat) : mkNames B o24_26 = [] := (rfl)
def o24_27 : List SO := ((SO.mk (some 129) (.pick (.tmp 118) (.tmp 128) (.const (Value.bool false))) (some (115 , false))) :: (SO.mk (some 130) (.pick (.tmp 115) (.const (Value.bool true)) (.tmp 129)) none) :: [])
theorem v24_27 : type_of% (@swl _ _ o24_27.eq_1) := @swl _ _ o24_27.eq_1
def o24_28 : List SO := ((SO.mk (some 125) (.iaddr 24 (.tmp 122) (.tmp 124)) (some (118 , true))) :: (SO.mk (some 126) (.faddr 78 (.tmp 125) 0) (some (118 , true))) :: (SO.mk (some 127) (.load 9 (.tmp 126)) (some (118 , true))) :: (SO.mk (some 128) (.bin .leq 9 (.tmp 120) (.tmp 127)) (some (118 , true))) :: o24_27)
theorem v24_28 : type_of% (@swl _ _ o24_28.eq_1) := @swl _ _ o24_28.eq_1
def o24_29 : List SO := ((SO.mk (some 120) (.load 9 (.tmp 119)) (some (118 , true))) :: (SO.mk (some 121) (.faddr 30 (.tmp 1) 2) (some (118 , true))) :: (SO.mk (some 122) (.load 24 (.tmp 121)) (some (118 , true))) :: (SO.mk (some 124) (.bin .sub 3 (.tmp 123) (.const (Value.int .i64 1))) (some (118 , true))) :: o24_28)
theorem v24_29 : type_of% (@swl _ _ o24_29.eq_1) := @swl _ _ o24_29.eq_1
def o24_30 : List SO := ((SO.mk (some 117) (.bin .gtr 3 (.tmp 116) (.const (Value.int .i64 0))) (some (115 , false))) :: (SO.mk (some 118) (.move (.tmp 117)) (some (115 , false))) :: (SO.mk (some 123) (.move (.tmp 4)) (some (118 , true))) :: (SO.mk (some 119) (.faddr 78 (.tmp 5) 0) (some (118 , true))) :: o24_29)
theorem v24_30 : type_of% (@swl _ _ o24_30.eq_1) := @swl _ _ o24_30.eq_1
def o24_31 : List SO := ((SO.mk (some 113) (.bin .neq 31 (.tmp 112) (.const (Value.int .i64 0))) (some (109 , false))) :: (SO.mk (some 114) (.pick (.tmp 109) (.const (Value.bool true)) (.tmp 113)) none) :: (SO.mk (some 115) (.move (.tmp 114)) none) :: (SO.mk (some 116) (.move (.tmp 4)) (some (115 , false))) :: o24_30)
theorem v24_31 : type_of% (@swl _ _ o24_31.eq_1) := @swl _ _ o24_31.eq_1
def o24_32 : List SO := ((SO.mk (some 109) (.move (.tmp 108)) none) :: (SO.mk (some 110) (.faddr 78 (.tmp 5) 2) (some (109 , false))) :: (SO.mk (some 111) (.load 76 (.tmp 110)) (some (109 , false))) :: (SO.mk (some 112) (.call 44 [(.tmp 111)]) (some (109 , false))) :: o24_31)
theorem v24_32 : type_of% (@swl _ _ o24_32.eq_1) := @swl _ _ o24_32.eq_1
def o24_33 : List SO := ((SO.mk (some 105) (.load 3 (.tmp 104)) (some (103 , false))) :: (SO.mk (some 106) (.call 26 [(.tmp 105), (.const (Value.int .i64 0)), (.const (Value.int .i64 2))]) (some (103 , false))) :: (SO.mk (some 107) (.un .not (.tmp 106)) (some (103 , false))) :: (SO.mk (some 108) (.pick (.tmp 103) (.const (Value.bool true)) (.tmp 107)) none) :: o24_32)
theorem v24_33 : type_of% (@swl _ _ o24_33.eq_1) := @swl _ _ o24_33.eq_1
def c24_34 : SC := (.seq (.reg [SO.mk (some 2) (.move (.const (Value.bool false))) none]) (.keep [2] .ret))
theorem u24_34 : type_of% (@swc _ _ c24_34.eq_1) := @swc _ _ c24_34.eq_1
def c24_35 : SC := (.cond (.tmp 130) c24_34 .skip)
theorem u24_35 : type_of% (@swc _ _ c24_35.eq_1) := @swc _ _ c24_35.eq_1
def c24_36 : SC := (.seq (.dreg false o24_26 ((SO.mk (some 101) (.call 43 [(.tmp 100)]) none) :: (SO.mk (some 102) (.bin .neq 31 (.tmp 101) (.const (Value.int .i64 0))) none) :: (SO.mk (some 103) (.move (.tmp 102)) none) :: (SO.mk (some 104) (.faddr 78 (.tmp 5) 1) (some (103 , false))) :: o24_33)) (.keep [130, 4, 1] c24_35))
theorem u24_36 : type_of% (@swc _ _ c24_36.eq_1) := @swc _ _ c24_36.eq_1
def c24_37 : SC := (.reg [SO.mk (some 92) (.move (.tmp 4)) none, SO.mk (some 93) (.bin .add 3 (.tmp 92) (.const (Value.int .i64 1))) none, SO.mk (some 4) (.move (.tmp 93)) none])
theorem u24_37 : type_of% (@swc _ _ c24_37.eq_1) := @swc _ _ c24_37.eq_1
def c24_38 : SC := (.seq (.block 3 (.seq (.reg ((SO.mk (some 94) (.faddr 30 (.tmp 1) 2) none) :: (SO.mk (some 95) (.load 24 (.tmp 94)) none) :: (SO.mk (some 96) (.move (.tmp 4)) none) :: (SO.mk (some 97) (.iaddr 24 (.tmp 95) (.tmp 96)) none) :: o24_25)) (.keep [5, 4, 1] c24_36))) (.keep [4, 1] c24_37))
theorem u24_38 : type_of% (@swc _ _ c24_38.eq_1) := @swc _ _ c24_38.eq_1
def c24_39 : SC := (.seq (.seq (.reg [SO.mk (some 87) (.move (.tmp 4)) none, SO.mk (some 88) (.faddr 30 (.tmp 1) 2) none, SO.mk (some 89) (.load 24 (.tmp 88)) none, SO.mk (some 90) (.len 24 (.tmp 89)) none, SO.mk (some 91) (.bin .lss 3 (.tmp 87) (.tmp 90)) none]) (.keep [91, 4, 1] c24_24)) (.keep [4, 1] c24_38))
theorem u24_39 : type_of% (@swc _ _ c24_39.eq_1) := @swc _ _ c24_39.eq_1
def c24_40 : SC := (.block 2 (.loop (.keep [4, 1] c24_39)))
theorem u24_40 : type_of% (@swc _ _ c24_40.eq_1) := @swc _ _ c24_40.eq_1
def c24_41 : SC := (.cond (.tmp 135) .skip (.exit 4))
theorem u24_41 : type_of% (@swc _ _ c24_41.eq_1) := @swc _ _ c24_41.eq_1
def o24_42 : List SO := ((SO.mk (some 142) (.load 57 (.tmp 141)) none) :: (SO.mk (some 7) (.alloc 57) none) :: (SO.mk none (.store 57 (.tmp 7) (.tmp 142)) none) :: [])
theorem v24_42 : type_of% (@swl _ _ o24_42.eq_1) := @swl _ _ o24_42.eq_1
def o24_43 : List SO := ((SO.mk (some 143) (.load 30 (.tmp 1)) none) :: (SO.mk (some 144) (.load 57 (.tmp 7)) none) :: [])
theorem v24_43 : type_of% (@swd _ _ o24_43.eq_1) := @swd _ _ o24_43.eq_1
theorem m24_43 (B : Nat) : mkNames B o24_43 = [] := (rfl)
def o24_44 : List SO := ((SO.mk (some 161) (.pick (.tmp 150) (.tmp 160) (.const (Value.bool false))) (some (147 , false))) :: (SO.mk (some 162) (.pick (.tmp 147) (.const (Value.bool true)) (.tmp 161)) none) :: [])
theorem v24_44 : type_of% (@swl _ _ o24_44.eq_1) := @swl _ _ o24_44.eq_1
def o24_45 : List SO := ((SO.mk (some 157) (.iaddr 25 (.tmp 154) (.tmp 156)) (some (150 , true))) :: (SO.mk (some 158) (.faddr 57 (.tmp 157) 0) (some (150 , true))) :: (SO.mk (some 159) (.load 3 (.tmp 158)) (some (150 , true))) :: (SO.mk (some 160) (.bin .leq 3 (.tmp 152) (.tmp 159)) (some (150 , true))) :: o24_44)
theorem v24_45 : type_of% (@swl _ _ o24_45.eq_1) := @swl _ _ o24_45.eq_1
def o24_46 : List SO := ((SO.mk (some 152) (.load 3 (.tmp 151)) (some (150 , true))) :: (SO.mk (some 153) (.faddr 30 (.tmp 1) 3) (some (150 , true))) :: (SO.mk (some 154) (.load 25 (.tmp 153)) (some (150 , true))) :: (SO.mk (some 156) (.bin .sub 3 (.tmp 155) (.const (Value.int .i64 1))) (some (150 , true))) :: o24_45)
theorem v24_46 : type_of% (@swl _ _ o24_46.eq_1) := @swl _ _ o24_46.eq_1
def o24_47 : List SO := ((SO.mk (some 149) (.bin .gtr 3 (.tmp 148) (.const (Value.int .i64 0))) (some (147 , false))) :: (SO.mk (some 150) (.move (.tmp 149)) (some (147 , false))) :: (SO.mk (some 155) (.move (.tmp 6)) (some (150 , true))) :: (SO.mk (some 151) (.faddr 57 (.tmp 7) 0) (some (150 , true))) :: o24_46)
theorem v24_47 : type_of% (@swl _ _ o24_47.eq_1) := @swl _ _ o24_47.eq_1
def c24_48 : SC := (.seq (.reg [SO.mk (some 2) (.move (.const (Value.bool false))) none]) (.keep [2] .ret))
theorem u24_48 : type_of% (@swc _ _ c24_48.eq_1) := @swc _ _ c24_48.eq_1
def c24_49 : SC := (.cond (.tmp 162) c24_48 .skip)
theorem u24_49 : type_of% (@swc _ _ c24_49.eq_1) := @swc _ _ c24_49.eq_1
def c24_50 : SC := (.cond (.tmp 165) .skip (.exit 6))
theorem u24_50 : type_of% (@swc _ _ c24_50.eq_1) := @swc _ _ c24_50.eq_1
def o24_51 : List SO := ((SO.mk (some 172) (.load 57 (.tmp 171)) none) :: (SO.mk (some 9) (.alloc 57) none) :: (SO.mk none (.store 57 (.tmp 9) (.tmp 172)) none) :: [])
theorem v24_51 : type_of% (@swl _ _ o24_51.eq_1) := @swl _ _ o24_51.eq_1
def o24_52 : List SO := ((SO.mk (some 189) (.faddr 57 (.tmp 9) 2) (some (186 , true))) :: (SO.mk (some 190) (.load 9 (.tmp 189)) (some (186 , true))) :: (SO.mk (some 191) (.bin .eql 9 (.tmp 188) (.tmp 190)) (some (186 , true))) :: (SO.mk (some 192) (.pick (.tmp 186) (.tmp 191) (.const (Value.bool false))) none) :: [])
theorem v24_52 : type_of% (@swl _ _ o24_52.eq_1) := @swl _ _ o24_52.eq_1
def o24_53 : List SO := ((SO.mk (some 185) (.pick (.tmp 179) (.tmp 184) (.const (Value.bool false))) none) :: (SO.mk (some 186) (.move (.tmp 185)) none) :: (SO.mk (some 187) (.faddr 57 (.tmp 7) 2) (some (186 , true))) :: (SO.mk (some 188) (.load 9 (.tmp 187)) (some (186 , true))) :: o24_52)
theorem v24_53 : type_of% (@swl _ _ o24_53.eq_1) := @swl _ _ o24_53.eq_1
def o24_54 : List SO := ((SO.mk (some 181) (.load 9 (.tmp 180)) (some (179 , true))) :: (SO.mk (some 182) (.faddr 57 (.tmp 9) 1) (some (179 , true))) :: (SO.mk (some 183) (.load 9 (.tmp 182)) (some (179 , true))) :: (SO.mk (some 184) (.bin .eql 9 (.tmp 181) (.tmp 183)) (some (179 , true))) :: o24_53)
theorem v24_54 : type_of% (@swl _ _ o24_54.eq_1) := @swl _ _ o24_54.eq_1
def o24_55 : List SO := ((SO.mk (some 177) (.load 4 (.tmp 176)) (some (175 , true))) :: (SO.mk (some 178) (.pick (.tmp 175) (.tmp 177) (.const (Value.bool false))) none) :: (SO.mk (some 179) (.move (.tmp 178)) none) :: (SO.mk (some 180) (.faddr 57 (.tmp 7) 1) (some (179 , true))) :: o24_54)
theorem v24_55 : type_of% (@swl _ _ o24_55.eq_1) := @swl _ _ o24_55.eq_1
def c24_56 : SC := (.seq (.reg [SO.mk (some 2) (.move (.const (Value.bool false))) none]) (.keep [2] .ret))
theorem u24_56 : type_of% (@swc _ _ c24_56.eq_1) := @swc _ _ c24_56.eq_1
def c24_57 : SC := (.cond (.tmp 192) c24_56 .skip)
theorem u24_57 : type_of% (@swc _ _ c24_57.eq_1) := @swc _ _ c24_57.eq_1
def c24_58 : SC := (.seq (.reg ((SO.mk (some 173) (.faddr 57 (.tmp 7) 3) none) :: (SO.mk (some 174) (.load 4 (.tmp 173)) none) :: (SO.mk (some 175) (.move (.tmp 174)) none) :: (SO.mk (some 176) (.faddr 57 (.tmp 9) 3) (some (175 , true))) :: o24_55)) (.keep [192, 8, 7, 6, 1] c24_57))
theorem u24_58 : type_of% (@swc _ _ c24_58.eq_1) := @swc _ _ c24_58.eq_1
def c24_59 : SC := (.reg [SO.mk (some 166) (.move (.tmp 8)) none, SO.mk (some 167) (.bin .add 3 (.tmp 166) (.const (Value.int .i64 1))) none, SO.mk (some 8) (.move (.tmp 167)) none])
theorem u24_59 : type_of% (@swc _ _ c24_59.eq_1) := @swc _ _ c24_59.eq_1
def c24_60 : SC := (.seq (.block 7 (.seq (.reg ((SO.mk (some 168) (.faddr 30 (.tmp 1) 3) none) :: (SO.mk (some 169) (.load 25 (.tmp 168)) none) :: (SO.mk (some 170) (.move (.tmp 8)) none) :: (SO.mk (some 171) (.iaddr 25 (.tmp 169) (.tmp 170)) none) :: o24_51)) (.keep [9, 8, 7, 6, 1] c24_58))) (.keep [8, 7, 6, 1] c24_59))
theorem u24_60 : type_of% (@swc _ _ c24_60.eq_1) := @swc _ _ c24_60.eq_1
def c24_61 : SC := (.seq (.seq (.reg [SO.mk (some 163) (.move (.tmp 8)) none, SO.mk (some 164) (.move (.tmp 6)) none, SO.mk (some 165) (.bin .lss 3 (.tmp 163) (.tmp 164)) none]) (.keep [165, 7, 8, 6, 1] c24_50)) (.keep [8, 7, 6, 1] c24_60))
theorem u24_61 : type_of% (@swc _ _ c24_61.eq_1) := @swc _ _ c24_61.eq_1
def c24_62 : SC := (.block 6 (.loop (.keep [7, 8, 6, 1] c24_61)))
theorem u24_62 : type_of% (@swc _ _ c24_62.eq_1) := @swc _ _ c24_62.eq_1
def c24_63 : SC := (.seq (.reg [SO.mk (some 8) (.move (.const (Value.int .i64 0))) none]) (.keep [7, 8, 6, 1] c24_62))
theorem u24_63 : type_of% (@swc _ _ c24_63.eq_1) := @swc _ _ c24_63.eq_1
def c24_64 : SC := (.seq (.seq (.dreg false o24_43 ((SO.mk (some 145) (.call 45 [(.tmp 143), (.tmp 144)]) none) :: (SO.mk (some 146) (.un .not (.tmp 145)) none) :: (SO.mk (some 147) (.move (.tmp 146)) none) :: (SO.mk (some 148) (.move (.tmp 6)) (some (147 , false))) :: o24_47)) (.keep [162, 7, 6, 1] c24_49)) (.keep [7, 6, 1] c24_63))
theorem u24_64 : type_of% (@swc _ _ c24_64.eq_1) := @swc _ _ c24_64.eq_1
def c24_65 : SC := (.reg [SO.mk (some 136) (.move (.tmp 6)) none, SO.mk (some 137) (.bin .add 3 (.tmp 136) (.const (Value.int .i64 1))) none, SO.mk (some 6) (.move (.tmp 137)) none])
theorem u24_65 : type_of% (@swc _ _ c24_65.eq_1) := @swc _ _ c24_65.eq_1
def c24_66 : SC := (.seq (.block 5 (.seq (.reg ((SO.mk (some 138) (.faddr 30 (.tmp 1) 3) none) :: (SO.mk (some 139) (.load 25 (.tmp 138)) none) :: (SO.mk (some 140) (.move (.tmp 6)) none) :: (SO.mk (some 141) (.iaddr 25 (.tmp 139) (.tmp 140)) none) :: o24_42)) (.keep [7, 6, 1] c24_64))) (.keep [6, 1] c24_65))
theorem u24_66 : type_of% (@swc _ _ c24_66.eq_1) := @swc _ _ c24_66.eq_1
def c24_67 : SC := (.seq (.seq (.reg [SO.mk (some 131) (.move (.tmp 6)) none, SO.mk (some 132) (.faddr 30 (.tmp 1) 3) none, SO.mk (some 133) (.load 25 (.tmp 132)) none, SO.mk (some 134) (.len 25 (.tmp 133)) none, SO.mk (some 135) (.bin .lss 3 (.tmp 131) (.tmp 134)) none]) (.keep [135, 6, 1] c24_41)) (.keep [6, 1] c24_66))
theorem u24_67 : type_of% (@swc _ _ c24_67.eq_1) := @swc _ _ c24_67.eq_1
def c24_68 : SC := (.block 4 (.loop (.keep [6, 1] c24_67)))
theorem u24_68 : type_of% (@swc _ _ c24_68.eq_1) := @swc _ _ c24_68.eq_1
def c24_69 : SC := (.cond (.tmp 197) .skip (.exit 8))
theorem u24_69 : type_of% (@swc _ _ c24_69.eq_1) := @swc _ _ c24_69.eq_1
def o24_70 : List SO := ((SO.mk (some 204) (.load 65 (.tmp 203)) none) :: (SO.mk (some 11) (.alloc 65) none) :: (SO.mk none (.store 65 (.tmp 11) (.tmp 204)) none) :: [])
theorem v24_70 : type_of% (@swl _ _ o24_70.eq_1) := @swl _ _ o24_70.eq_1
def o24_71 : List SO := ((SO.mk (some 237) (.load 3 (.tmp 236)) (some (228 , true))) :: (SO.mk (some 238) (.bin .leq 3 (.tmp 230) (.tmp 237)) (some (228 , true))) :: (SO.mk (some 239) (.pick (.tmp 228) (.tmp 238) (.const (Value.bool false))) (some (225 , false))) :: (SO.mk (some 240) (.pick (.tmp 225) (.const (Value.bool true)) (.tmp 239)) none) :: [])
theorem v24_71 : type_of% (@swd _ _ o24_71.eq_1) := @swd _ _ o24_71.eq_1
def o24_72 : List SO := ((SO.mk (some 233) (.move (.tmp 10)) (some (228 , true))) :: (SO.mk (some 234) (.bin .sub 3 (.tmp 233) (.const (Value.int .i64 1))) (some (228 , true))) :: (SO.mk (some 235) (.iaddr 26 (.tmp 232) (.tmp 234)) (some (228 , true))) :: (SO.mk (some 236) (.faddr 65 (.tmp 235) 0) (some (228 , true))) :: o24_71)
theorem v24_72 : type_of% (@swd _ _ o24_72.eq_1) := @swd _ _ o24_72.eq_1
def o24_73 : List SO := ((SO.mk (some 229) (.faddr 65 (.tmp 11) 0) (some (228 , true))) :: (SO.mk (some 230) (.load 3 (.tmp 229)) (some (228 , true))) :: (SO.mk (some 231) (.faddr 30 (.tmp 1) 4) (some (228 , true))) :: (SO.mk (some 232) (.load 26 (.tmp 231)) (some (228 , true))) :: o24_72)
theorem v24_73 : type_of% (@swd _ _ o24_73.eq_1) := @swd _ _ o24_73.eq_1
def o24_74 : List SO := ((SO.mk (some 225) (.move (.tmp 224)) none) :: (SO.mk (some 226) (.move (.tmp 10)) (some (225 , false))) :: (SO.mk (some 227) (.bin .gtr 3 (.tmp 226) (.const (Value.int .i64 0))) (some (225 , false))) :: (SO.mk (some 228) (.move (.tmp 227)) (some (225 , false))) :: o24_73)
theorem v24_74 : type_of% (@swd _ _ o24_74.eq_1) := @swd _ _ o24_74.eq_1
def o24_75 : List SO := ((SO.mk (some 221) (.bin .sub 3 (.tmp 220) (.const (Value.int .i64 1))) (some (216 , false))) :: (SO.mk (some 222) (.call 26 [(.tmp 218), (.const (Value.int .i64 1)), (.tmp 221)]) (some (216 , false))) :: (SO.mk (some 223) (.un .not (.tmp 222)) (some (216 , false))) :: (SO.mk (some 224) (.pick (.tmp 216) (.const (Value.bool true)) (.tmp 223)) none) :: o24_74)
theorem v24_75 : type_of% (@swd _ _ o24_75.eq_1) := @swd _ _ o24_75.eq_1
def o24_76 : List SO := ((SO.mk (some 217) (.faddr 65 (.tmp 11) 0) (some (216 , false))) :: (SO.mk (some 218) (.load 3 (.tmp 217)) (some (216 , false))) :: (SO.mk (some 219) (.faddr 30 (.tmp 1) 0) (some (216 , false))) :: (SO.mk (some 220) (.load 3 (.tmp 219)) (some (216 , false))) :: o24_75)
theorem v24_76 : type_of% (@swd _ _ o24_76.eq_1) := @swd _ _ o24_76.eq_1
def o24_77 : List SO := ((SO.mk (some 213) (.call 47 [(.tmp 212)]) (some (210 , false))) :: (SO.mk (some 214) (.bin .neq 31 (.tmp 213) (.const (Value.int .i64 0))) (some (210 , false))) :: (SO.mk (some 215) (.pick (.tmp 210) (.const (Value.bool true)) (.tmp 214)) none) :: (SO.mk (some 216) (.move (.tmp 215)) none) :: o24_76)
theorem v24_77 : type_of% (@swd _ _ o24_77.eq_1) := @swd _ _ o24_77.eq_1
def o24_78 : List SO := ((SO.mk (some 209) (.bin .lss 3 (.tmp 208) (.const (Value.int .i64 0))) none) :: (SO.mk (some 210) (.move (.tmp 209)) none) :: (SO.mk (some 211) (.faddr 65 (.tmp 11) 2) (some (210 , false))) :: (SO.mk (some 212) (.load 9 (.tmp 211)) (some (210 , false))) :: o24_77)
theorem v24_78 : type_of% (@swd _ _ o24_78.eq_1) := @swd _ _ o24_78.eq_1
def o24_79 : List SO := ((SO.mk (some 205) (.load 30 (.tmp 1)) none) :: (SO.mk (some 206) (.faddr 65 (.tmp 11) 1) none) :: (SO.mk (some 207) (.load 9 (.tmp 206)) none) :: (SO.mk (some 208) (.call 46 [(.tmp 205), (.tmp 207)]) none) :: o24_78)
theorem v24_79 : type_of% (@swd _ _ o24_79.eq_1) := @swd _ _ o24_79.eq_1
theorem m24_79 (B : Nat) : mkNames B o24_79 = [] := (rfl)
def c24_80 : SC := (.seq (.reg [SO.mk (some 2) (.move (.const (Value.bool false))) none]) (.keep [2] .ret))
theorem u24_80 : type_of% (@swc _ _ c24_80.eq_1) := @swc _ _ c24_80.eq_1
def c24_81 : SC := (.cond (.tmp 240) c24_80 .skip)
theorem u24_81 : type_of% (@swc _ _ c24_81.eq_1) := @swc _ _ c24_81.eq_1
def c24_82 : SC := (.cond (.tmp 245) .skip (.exit 10))
theorem u24_82 : type_of% (@swc _ _ c24_82.eq_1) := @swc _ _ c24_82.eq_1
def o24_83 : List SO := ((SO.mk (some 252) (.load 67 (.tmp 251)) none) :: (SO.mk (some 13) (.alloc 67) none) :: (SO.mk none (.store 67 (.tmp 13) (.tmp 252)) none) :: [])
theorem v24_83 : type_of% (@swl _ _ o24_83.eq_1) := @swl _ _ o24_83.eq_1
def o24_84 : List SO := ((SO.mk (some 285) (.bin .leq 3 (.tmp 277) (.tmp 284)) (some (275 , true))) :: (SO.mk (some 286) (.pick (.tmp 275) (.tmp 285) (.const (Value.bool false))) (some (272 , false))) :: (SO.mk (some 287) (.pick (.tmp 272) (.const (Value.bool true)) (.tmp 286)) none) :: [])
theorem v24_84 : type_of% (@swd _ _ o24_84.eq_1) := @swd _ _ o24_84.eq_1
def o24_85 : List SO := ((SO.mk (some 281) (.bin .sub 3 (.tmp 280) (.const (Value.int .i64 1))) (some (275 , true))) :: (SO.mk (some 282) (.iaddr 63 (.tmp 279) (.tmp 281)) (some (275 , true))) :: (SO.mk (some 283) (.faddr 67 (.tmp 282) 0) (some (275 , true))) :: (SO.mk (some 284) (.load 3 (.tmp 283)) (some (275 , true))) :: o24_84)
theorem v24_85 : type_of% (@swd _ _ o24_85.eq_1) := @swd _ _ o24_85.eq_1
def o24_86 : List SO := ((SO.mk (some 277) (.load 3 (.tmp 276)) (some (275 , true))) :: (SO.mk (some 278) (.faddr 65 (.tmp 11) 3) (some (275 , true))) :: (SO.mk (some 279) (.load 63 (.tmp 278)) (some (275 , true))) :: (SO.mk (some 280) (.move (.tmp 12)) (some (275 , true))) :: o24_85)
theorem v24_86 : type_of% (@swd _ _ o24_86.eq_1) := @swd _ _ o24_86.eq_1
def o24_87 : List SO := ((SO.mk (some 273) (.move (.tmp 12)) (some (272 , false))) :: (SO.mk (some 274) (.bin .gtr 3 (.tmp 273) (.const (Value.int .i64 0))) (some (272 , false))) :: (SO.mk (some 275) (.move (.tmp 274)) (some (272 , false))) :: (SO.mk (some 276) (.faddr 67 (.tmp 13) 0) (some (275 , true))) :: o24_86)
theorem v24_87 : type_of% (@swd _ _ o24_87.eq_1) := @swd _ _ o24_87.eq_1
def o24_88 : List SO := ((SO.mk (some 269) (.call 48 [(.tmp 268), (.const (Value.int .i64 64))]) (some (263 , false))) :: (SO.mk (some 270) (.bin .neq 3 (.tmp 266) (.tmp 269)) (some (263 , false))) :: (SO.mk (some 271) (.pick (.tmp 263) (.const (Value.bool true)) (.tmp 270)) none) :: (SO.mk (some 272) (.move (.tmp 271)) none) :: o24_87)
theorem v24_88 : type_of% (@swd _ _ o24_88.eq_1) := @swd _ _ o24_88.eq_1
def o24_89 : List SO := ((SO.mk (some 265) (.load 28 (.tmp 264)) (some (263 , false))) :: (SO.mk (some 266) (.len 28 (.tmp 265)) (some (263 , false))) :: (SO.mk (some 267) (.faddr 67 (.tmp 13) 1) (some (263 , false))) :: (SO.mk (some 268) (.load 3 (.tmp 267)) (some (263 , false))) :: o24_88)
theorem v24_89 : type_of% (@swd _ _ o24_89.eq_1) := @swd _ _ o24_89.eq_1
def o24_90 : List SO := ((SO.mk (some 261) (.un .not (.tmp 260)) (some (257 , false))) :: (SO.mk (some 262) (.pick (.tmp 257) (.const (Value.bool true)) (.tmp 261)) none) :: (SO.mk (some 263) (.move (.tmp 262)) none) :: (SO.mk (some 264) (.faddr 67 (.tmp 13) 2) (some (263 , false))) :: o24_89)
theorem v24_90 : type_of% (@swd _ _ o24_90.eq_1) := @swd _ _ o24_90.eq_1
def o24_91 : List SO := ((SO.mk (some 257) (.move (.tmp 256)) none) :: (SO.mk (some 258) (.faddr 67 (.tmp 13) 1) (some (257 , false))) :: (SO.mk (some 259) (.load 3 (.tmp 258)) (some (257 , false))) :: (SO.mk (some 260) (.call 26 [(.tmp 259), (.const (Value.int .i64 0)), (.const (Value.int .i64 600))]) (some (257 , false))) :: o24_90)
theorem v24_91 : type_of% (@swd _ _ o24_91.eq_1) := @swd _ _ o24_91.eq_1
def o24_92 : List SO := ((SO.mk (some 253) (.faddr 67 (.tmp 13) 0) none) :: (SO.mk (some 254) (.load 3 (.tmp 253)) none) :: (SO.mk (some 255) (.call 26 [(.tmp 254), (.const (Value.int .i64 1)), (.const (Value.int .i64 5))]) none) :: (SO.mk (some 256) (.un .not (.tmp 255)) none) :: o24_91)
theorem v24_92 : type_of% (@swd _ _ o24_92.eq_1) := @swd _ _ o24_92.eq_1
theorem m24_92 (B : Nat) : mkNames B o24_92 = [] := (rfl)
def c24_93 : SC := (.seq (.reg [SO.mk (some 2) (.move (.const (Value.bool false))) none]) (.keep [2] .ret))
theorem u24_93 : type_of% (@swc _ _ c24_93.eq_1) := @swc _ _ c24_93.eq_1
def c24_94 : SC := (.cond (.tmp 287) c24_93 .skip)
theorem u24_94 : type_of% (@swc _ _ c24_94.eq_1) := @swc _ _ c24_94.eq_1
def c24_95 : SC := (.seq (.dreg false o24_92 []) (.keep [287, 12, 11, 10, 1] c24_94))
theorem u24_95 : type_of% (@swc _ _ c24_95.eq_1) := @swc _ _ c24_95.eq_1
def c24_96 : SC := (.reg [SO.mk (some 246) (.move (.tmp 12)) none, SO.mk (some 247) (.bin .add 3 (.tmp 246) (.const (Value.int .i64 1))) none, SO.mk (some 12) (.move (.tmp 247)) none])
theorem u24_96 : type_of% (@swc _ _ c24_96.eq_1) := @swc _ _ c24_96.eq_1
def c24_97 : SC := (.seq (.block 11 (.seq (.reg ((SO.mk (some 248) (.faddr 65 (.tmp 11) 3) none) :: (SO.mk (some 249) (.load 63 (.tmp 248)) none) :: (SO.mk (some 250) (.move (.tmp 12)) none) :: (SO.mk (some 251) (.iaddr 63 (.tmp 249) (.tmp 250)) none) :: o24_83)) (.keep [13, 12, 11, 10, 1] c24_95))) (.keep [12, 11, 10, 1] c24_96))
theorem u24_97 : type_of% (@swc _ _ c24_97.eq_1) := @swc _ _ c24_97.eq_1
def c24_98 : SC := (.seq (.seq (.reg [SO.mk (some 241) (.move (.tmp 12)) none, SO.mk (some 242) (.faddr 65 (.tmp 11) 3) none, SO.mk (some 243) (.load 63 (.tmp 242)) none, SO.mk (some 244) (.len 63 (.tmp 243)) none, SO.mk (some 245) (.bin .lss 3 (.tmp 241) (.tmp 244)) none]) (.keep [245, 11, 12, 10, 1] c24_82)) (.keep [12, 11, 10, 1] c24_97))
theorem u24_98 : type_of% (@swc _ _ c24_98.eq_1) := @swc _ _ c24_98.eq_1
def c24_99 : SC := (.block 10 (.loop (.keep [11, 12, 10, 1] c24_98)))
theorem u24_99 : type_of% (@swc _ _ c24_99.eq_1) := @swc _ _ c24_99.eq_1
def c24_100 : SC := (.seq (.reg [SO.mk (some 12) (.move (.const (Value.int .i64 0))) none]) (.keep [11, 12, 10, 1] c24_99))
theorem u24_100 : type_of% (@swc _ _ c24_100.eq_1) := @swc _ _ c24_100.eq_1
def c24_101 : SC := (.seq (.seq (.dreg false o24_79 []) (.keep [240, 11, 10, 1] c24_81)) (.keep [11, 10, 1] c24_100))
theorem u24_101 : type_of% (@swc _ _ c24_101.eq_1) := @swc _ _ c24_101.eq_1
def c24_102 : SC := (.reg [SO.mk (some 198) (.move (.tmp 10)) none, SO.mk (some 199) (.bin .add 3 (.tmp 198) (.const (Value.int .i64 1))) none, SO.mk (some 10) (.move (.tmp 199)) none])
theorem u24_102 : type_of% (@swc _ _ c24_102.eq_1) := @swc _ _ c24_102.eq_1
def c24_103 : SC := (.seq (.block 9 (.seq (.reg ((SO.mk (some 200) (.faddr 30 (.tmp 1) 4) none) :: (SO.mk (some 201) (.load 26 (.tmp 200)) none) :: (SO.mk (some 202) (.move (.tmp 10)) none) :: (SO.mk (some 203) (.iaddr 26 (.tmp 201) (.tmp 202)) none) :: o24_70)) (.keep [11, 10, 1] c24_101))) (.keep [10, 1] c24_102))
theorem u24_103 : type_of% (@swc _ _ c24_103.eq_1) := @swc _ _ c24_103.eq_1
def c24_104 : SC := (.seq (.seq (.reg [SO.mk (some 193) (.move (.tmp 10)) none, SO.mk (some 194) (.faddr 30 (.tmp 1) 4) none, SO.mk (some 195) (.load 26 (.tmp 194)) none, SO.mk (some 196) (.len 26 (.tmp 195)) none, SO.mk (some 197) (.bin .lss 3 (.tmp 193) (.tmp 196)) none]) (.keep [197, 10, 1] c24_69)) (.keep [10, 1] c24_103))
theorem u24_104 : type_of% (@swc _ _ c24_104.eq_1) := @swc _ _ c24_104.eq_1
def c24_105 : SC := (.block 8 (.loop (.keep [10, 1] c24_104)))
theorem u24_105 : type_of% (@swc _ _ c24_105.eq_1) := @swc _ _ c24_105.eq_1
def c24_106 : SC := (.cond (.tmp 292) .skip (.exit 12))
theorem u24_106 : type_of% (@swc _ _ c24_106.eq_1) := @swc _ _ c24_106.eq_1
def o24_107 : List SO := ((SO.mk (some 299) (.load 41 (.tmp 298)) none) :: (SO.mk (some 15) (.alloc 41) none) :: (SO.mk none (.store 41 (.tmp 15) (.tmp 299)) none) :: [])
theorem v24_107 : type_of% (@swl _ _ o24_107.eq_1) := @swl _ _ o24_107.eq_1
def o24_108 : List SO := ((SO.mk (some 324) (.call 26 [(.tmp 323), (.const (Value.int .i64 0)), (.const (Value.int .i64 2))]) (some (321 , false))) :: (SO.mk (some 325) (.un .not (.tmp 324)) (some (321 , false))) :: (SO.mk (some 326) (.pick (.tmp 321) (.const (Value.bool true)) (.tmp 325)) none) :: [])
theorem v24_108 : type_of% (@swl _ _ o24_108.eq_1) := @swl _ _ o24_108.eq_1
def o24_109 : List SO := ((SO.mk (some 320) (.pick (.tmp 315) (.const (Value.bool true)) (.tmp 319)) none) :: (SO.mk (some 321) (.move (.tmp 320)) none) :: (SO.mk (some 322) (.faddr 41 (.tmp 15) 2) (some (321 , false))) :: (SO.mk (some 323) (.load 3 (.tmp 322)) (some (321 , false))) :: o24_108)
theorem v24_109 : type_of% (@swl _ _ o24_109.eq_1) := @swl _ _ o24_109.eq_1
def o24_110 : List SO := ((SO.mk (some 316) (.faddr 41 (.tmp 15) 1) (some (315 , false))) :: (SO.mk (some 317) (.load 3 (.tmp 316)) (some (315 , false))) :: (SO.mk (some 318) (.call 26 [(.tmp 317), (.const (Value.int .i64 1)), (.const (Value.int .i64 1000))]) (some (315 , false))) :: (SO.mk (some 319) (.un .not (.tmp 318)) (some (315 , false))) :: o24_109)
theorem v24_110 : type_of% (@swl _ _ o24_110.eq_1) := @swl _ _ o24_110.eq_1
def o24_111 : List SO := ((SO.mk (some 312) (.load 3 (.tmp 311)) (some (306 , false))) :: (SO.mk (some 313) (.bin .neq 3 (.tmp 312) (.const (Value.int .i64 2))) (some (306 , false))) :: (SO.mk (some 314) (.pick (.tmp 306) (.const (Value.bool true)) (.tmp 313)) none) :: (SO.mk (some 315) (.move (.tmp 314)) none) :: o24_110)
theorem v24_111 : type_of% (@swl _ _ o24_111.eq_1) := @swl _ _ o24_111.eq_1
def o24_112 : List SO := ((SO.mk (some 308) (.load 25 (.tmp 307)) (some (306 , false))) :: (SO.mk (some 309) (.move (.tmp 16)) (some (306 , false))) :: (SO.mk (some 310) (.iaddr 25 (.tmp 308) (.tmp 309)) (some (306 , false))) :: (SO.mk (some 311) (.faddr 57 (.tmp 310) 7) (some (306 , false))) :: o24_111)
theorem v24_112 : type_of% (@swl _ _ o24_112.eq_1) := @swl _ _ o24_112.eq_1
def c24_113 : SC := (.seq (.reg [SO.mk (some 2) (.move (.const (Value.bool false))) none]) (.keep [2] .ret))
theorem u24_113 : type_of% (@swc _ _ c24_113.eq_1) := @swc _ _ c24_113.eq_1
def c24_114 : SC := (.cond (.tmp 326) c24_113 .skip)
theorem u24_114 : type_of% (@swc _ _ c24_114.eq_1) := @swc _ _ c24_114.eq_1
def c24_115 : SC := (.cond (.tmp 329) .skip (.exit 14))
theorem u24_115 : type_of% (@swc _ _ c24_115.eq_1) := @swc _ _ c24_115.eq_1
def o24_116 : List SO := ((SO.mk (some 340) (.bin .eql 3 (.tmp 337) (.tmp 339)) none) :: [])
theorem v24_116 : type_of% (@swd _ _ o24_116.eq_1) := @swd _ _ o24_116.eq_1
def o24_117 : List SO := ((SO.mk (some 336) (.faddr 41 (.tmp 335) 0) none) :: (SO.mk (some 337) (.load 3 (.tmp 336)) none) :: (SO.mk (some 338) (.faddr 41 (.tmp 15) 0) none) :: (SO.mk (some 339) (.load 3 (.tmp 338)) none) :: o24_116)
theorem v24_117 : type_of% (@swd _ _ o24_117.eq_1) := @swd _ _ o24_117.eq_1
def o24_118 : List SO := ((SO.mk (some 332) (.faddr 30 (.tmp 1) 5) none) :: (SO.mk (some 333) (.load 27 (.tmp 332)) none) :: (SO.mk (some 334) (.move (.tmp 17)) none) :: (SO.mk (some 335) (.iaddr 27 (.tmp 333) (.tmp 334)) none) :: o24_117)
theorem v24_118 : type_of% (@swd _ _ o24_118.eq_1) := @swd _ _ o24_118.eq_1
theorem m24_118 (B : Nat) : mkNames B o24_118 = [] := (rfl)
def c24_119 : SC := (.seq (.reg [SO.mk (some 2) (.move (.const (Value.bool false))) none]) (.keep [2] .ret))
theorem u24_119 : type_of% (@swc _ _ c24_119.eq_1) := @swc _ _ c24_119.eq_1
def c24_120 : SC := (.cond (.tmp 340) c24_119 .skip)
theorem u24_120 : type_of% (@swc _ _ c24_120.eq_1) := @swc _ _ c24_120.eq_1
def c24_121 : SC := (.reg [SO.mk (some 330) (.move (.tmp 17)) none, SO.mk (some 331) (.bin .add 3 (.tmp 330) (.const (Value.int .i64 1))) none, SO.mk (some 17) (.move (.tmp 331)) none])
theorem u24_121 : type_of% (@swc _ _ c24_121.eq_1) := @swc _ _ c24_121.eq_1
def c24_122 : SC := (.seq (.block 15 (.seq (.dreg false o24_118 []) (.keep [340, 17, 15, 14, 1] c24_120))) (.keep [17, 15, 14, 1] c24_121))
theorem u24_122 : type_of% (@swc _ _ c24_122.eq_1) := @swc _ _ c24_122.eq_1
def c24_123 : SC := (.seq (.seq (.reg [SO.mk (some 327) (.move (.tmp 17)) none, SO.mk (some 328) (.move (.tmp 14)) none, SO.mk (some 329) (.bin .lss 3 (.tmp 327) (.tmp 328)) none]) (.keep [329, 15, 17, 14, 1] c24_115)) (.keep [17, 15, 14, 1] c24_122))
theorem u24_123 : type_of% (@swc _ _ c24_123.eq_1) := @swc _ _ c24_123.eq_1
def c24_124 : SC := (.block 14 (.loop (.keep [15, 17, 14, 1] c24_123)))
theorem u24_124 : type_of% (@swc _ _ c24_124.eq_1) := @swc _ _ c24_124.eq_1
def c24_125 : SC := (.seq (.reg [SO.mk (some 17) (.move (.const (Value.int .i64 0))) none]) (.keep [15, 17, 14, 1] c24_124))
theorem u24_125 : type_of% (@swc _ _ c24_125.eq_1) := @swc _ _ c24_125.eq_1
def c24_126 : SC := (.seq (.seq (.reg ((SO.mk (some 304) (.move (.tmp 16)) none) :: (SO.mk (some 305) (.bin .lss 3 (.tmp 304) (.const (Value.int .i64 0))) none) :: (SO.mk (some 306) (.move (.tmp 305)) none) :: (SO.mk (some 307) (.faddr 30 (.tmp 1) 3) (some (306 , false))) :: o24_112)) (.keep [326, 15, 14, 1] c24_114)) (.keep [15, 14, 1] c24_125))
theorem u24_126 : type_of% (@swc _ _ c24_126.eq_1) := @swc _ _ c24_126.eq_1
def c24_127 : SC := (.seq (.reg [SO.mk (some 300) (.load 30 (.tmp 1)) none, SO.mk (some 301) (.faddr 41 (.tmp 15) 0) none, SO.mk (some 302) (.load 3 (.tmp 301)) none, SO.mk (some 303) (.call 49 [(.tmp 300), (.tmp 302)]) none, SO.mk (some 16) (.move (.tmp 303)) none]) (.keep [16, 15, 14, 1] c24_126))
theorem u24_127 : type_of% (@swc _ _ c24_127.eq_1) := @swc _ _ c24_127.eq_1
def c24_128 : SC := (.reg [SO.mk (some 293) (.move (.tmp 14)) none, SO.mk (some 294) (.bin .add 3 (.tmp 293) (.const (Value.int .i64 1))) none, SO.mk (some 14) (.move (.tmp 294)) none])
theorem u24_128 : type_of% (@swc _ _ c24_128.eq_1) := @swc _ _ c24_128.eq_1
def c24_129 : SC := (.seq (.block 13 (.seq (.reg ((SO.mk (some 295) (.faddr 30 (.tmp 1) 5) none) :: (SO.mk (some 296) (.load 27 (.tmp 295)) none) :: (SO.mk (some 297) (.move (.tmp 14)) none) :: (SO.mk (some 298) (.iaddr 27 (.tmp 296) (.tmp 297)) none) :: o24_107)) (.keep [15, 14, 1] c24_127))) (.keep [14, 1] c24_128))
theorem u24_129 : type_of% (@swc _ _ c24_129.eq_1) := @swc _ _ c24_129.eq_1
def c24_130 : SC := (.seq (.seq (.reg [SO.mk (some 288) (.move (.tmp 14)) none, SO.mk (some 289) (.faddr 30 (.tmp 1) 5) none, SO.mk (some 290) (.load 27 (.tmp 289)) none, SO.mk (some 291) (.len 27 (.tmp 290)) none, SO.mk (some 292) (.bin .lss 3 (.tmp 288) (.tmp 291)) none]) (.keep [292, 14, 1] c24_106)) (.keep [14, 1] c24_129))
theorem u24_130 : type_of% (@swc _ _ c24_130.eq_1) := @swc _ _ c24_130.eq_1
def c24_131 : SC := (.block 12 (.loop (.keep [14, 1] c24_130)))
theorem u24_131 : type_of% (@swc _ _ c24_131.eq_1) := @swc _ _ c24_131.eq_1
def c24_132 : SC := (.cond (.tmp 346) .skip (.exit 16))
theorem u24_132 : type_of% (@swc _ _ c24_132.eq_1) := @swc _ _ c24_132.eq_1
def o24_133 : List SO := ((SO.mk (some 353) (.call 26 [(.tmp 352), (.const (Value.int .i64 0)), (.const (Value.int .i64 199))]) none) :: (SO.mk (some 354) (.un .not (.tmp 353)) none) :: [])
theorem v24_133 : type_of% (@swl _ _ o24_133.eq_1) := @swl _ _ o24_133.eq_1
def c24_134 : SC := (.seq (.reg [SO.mk (some 2) (.move (.const (Value.bool false))) none]) (.keep [2] .ret))
theorem u24_134 : type_of% (@swc _ _ c24_134.eq_1) := @swc _ _ c24_134.eq_1
def c24_135 : SC := (.cond (.tmp 354) c24_134 .skip)
theorem u24_135 : type_of% (@swc _ _ c24_135.eq_1) := @swc _ _ c24_135.eq_1
def c24_136 : SC := (.cond (.tmp 357) .skip (.exit 18))
theorem u24_136 : type_of% (@swc _ _ c24_136.eq_1) := @swc _ _ c24_136.eq_1
def o24_137 : List SO := ((SO.mk (some 368) (.bin .eql 3 (.tmp 363) (.tmp 367)) none) :: [])
theorem v24_137 : type_of% (@swd _ _ o24_137.eq_1) := @swd _ _ o24_137.eq_1
def o24_138 : List SO := ((SO.mk (some 364) (.move (.tmp 18)) none) :: (SO.mk (some 365) (.move (.tmp 20)) none) :: (SO.mk (some 366) (.iaddr 28 (.tmp 364) (.tmp 365)) none) :: (SO.mk (some 367) (.load 3 (.tmp 366)) none) :: o24_137)
theorem v24_138 : type_of% (@swd _ _ o24_138.eq_1) := @swd _ _ o24_138.eq_1
def o24_139 : List SO := ((SO.mk (some 360) (.move (.tmp 18)) none) :: (SO.mk (some 361) (.move (.tmp 19)) none) :: (SO.mk (some 362) (.iaddr 28 (.tmp 360) (.tmp 361)) none) :: (SO.mk (some 363) (.load 3 (.tmp 362)) none) :: o24_138)
theorem v24_139 : type_of% (@swd _ _ o24_139.eq_1) := @swd _ _ o24_139.eq_1
theorem m24_139 (B : Nat) : mkNames B o24_139 = [] := (rfl)
def c24_140 : SC := (.seq (.reg [SO.mk (some 2) (.move (.const (Value.bool false))) none]) (.keep [2] .ret))
theorem u24_140 : type_of% (@swc _ _ c24_140.eq_1) := @swc _ _ c24_140.eq_1
def c24_141 : SC := (.cond (.tmp 368) c24_140 .skip)
theorem u24_141 : type_of% (@swc _ _ c24_141.eq_1) := @swc _ _ c24_141.eq_1
def c24_142 : SC := (.reg [SO.mk (some 358) (.move (.tmp 20)) none, SO.mk (some 359) (.bin .add 3 (.tmp 358) (.const (Value.int .i64 1))) none, SO.mk (some 20) (.move (.tmp 359)) none])
theorem u24_142 : type_of% (@swc _ _ c24_142.eq_1) := @swc _ _ c24_142.eq_1
def c24_143 : SC := (.seq (.block 19 (.seq (.dreg false o24_139 []) (.keep [368, 20, 19, 18] c24_141))) (.keep [20, 19, 18] c24_142))
theorem u24_143 : type_of% (@swc _ _ c24_143.eq_1) := @swc _ _ c24_143.eq_1
def c24_144 : SC := (.seq (.seq (.reg [SO.mk (some 355) (.move (.tmp 20)) none, SO.mk (some 356) (.move (.tmp 19)) none, SO.mk (some 357) (.bin .lss 3 (.tmp 355) (.tmp 356)) none]) (.keep [357, 20, 19, 18] c24_136)) (.keep [20, 19, 18] c24_143))
theorem u24_144 : type_of% (@swc _ _ c24_144.eq_1) := @swc _ _ c24_144.eq_1
def c24_145 : SC := (.block 18 (.loop (.keep [20, 19, 18] c24_144)))
theorem u24_145 : type_of% (@swc _ _ c24_145.eq_1) := @swc _ _ c24_145.eq_1
def c24_146 : SC := (.seq (.reg [SO.mk (some 20) (.move (.const (Value.int .i64 0))) none]) (.keep [20, 19, 18] c24_145))
theorem u24_146 : type_of% (@swc _ _ c24_146.eq_1) := @swc _ _ c24_146.eq_1
def c24_147 : SC := (.reg [SO.mk (some 347) (.move (.tmp 19)) none, SO.mk (some 348) (.bin .add 3 (.tmp 347) (.const (Value.int .i64 1))) none, SO.mk (some 19) (.move (.tmp 348)) none])
theorem u24_147 : type_of% (@swc _ _ c24_147.eq_1) := @swc _ _ c24_147.eq_1
def c24_148 : SC := (.seq (.block 17 (.seq (.seq (.reg ((SO.mk (some 349) (.move (.tmp 18)) none) :: (SO.mk (some 350) (.move (.tmp 19)) none) :: (SO.mk (some 351) (.iaddr 28 (.tmp 349) (.tmp 350)) none) :: (SO.mk (some 352) (.load 3 (.tmp 351)) none) :: o24_133)) (.keep [354, 19, 18] c24_135)) (.keep [19, 18] c24_146))) (.keep [19, 18] c24_147))
theorem u24_148 : type_of% (@swc _ _ c24_148.eq_1) := @swc _ _ c24_148.eq_1
def c24_149 : SC := (.seq (.seq (.reg [SO.mk (some 343) (.move (.tmp 19)) none, SO.mk (some 344) (.move (.tmp 18)) none, SO.mk (some 345) (.len 28 (.tmp 344)) none, SO.mk (some 346) (.bin .lss 3 (.tmp 343) (.tmp 345)) none]) (.keep [346, 18, 19] c24_132)) (.keep [19, 18] c24_148))
theorem u24_149 : type_of% (@swc _ _ c24_149.eq_1) := @swc _ _ c24_149.eq_1
def c24_150 : SC := (.block 16 (.loop (.keep [18, 19] c24_149)))
theorem u24_150 : type_of% (@swc _ _ c24_150.eq_1) := @swc _ _ c24_150.eq_1
def c24_151 : SC := (.seq (.reg [SO.mk (some 2) (.move (.const (Value.bool true))) none]) (.keep [2] .ret))
theorem u24_151 : type_of% (@swc _ _ c24_151.eq_1) := @swc _ _ c24_151.eq_1
def c24_152 : SC := (.seq (.seq (.reg [SO.mk (some 19) (.move (.const (Value.int .i64 0))) none]) (.keep [18, 19] c24_150)) (.keep [] c24_151))
theorem u24_152 : type_of% (@swc _ _ c24_152.eq_1) := @swc _ _ c24_152.eq_1
def c24_153 : SC := (.seq (.reg [SO.mk (some 341) (.load 30 (.tmp 1)) none, SO.mk (some 342) (.call 33 [(.tmp 341)]) none, SO.mk (some 18) (.move (.tmp 342)) none]) (.keep [18] c24_152))
theorem u24_153 : type_of% (@swc _ _ c24_153.eq_1) := @swc _ _ c24_153.eq_1
def c24_154 : SC := (.seq (.seq (.reg [SO.mk (some 14) (.move (.const (Value.int .i64 0))) none]) (.keep [14, 1] c24_131)) (.keep [1] c24_153))
theorem u24_154 : type_of% (@swc _ _ c24_154.eq_1) := @swc _ _ c24_154.eq_1
def c24_155 : SC := (.seq (.seq (.reg [SO.mk (some 10) (.move (.const (Value.int .i64 0))) none]) (.keep [10, 1] c24_105)) (.keep [1] c24_154))
theorem u24_155 : type_of% (@swc _ _ c24_155.eq_1) := @swc _ _ c24_155.eq_1
def c24_156 : SC := (.seq (.seq (.reg [SO.mk (some 6) (.move (.const (Value.int .i64 0))) none]) (.keep [6, 1] c24_68)) (.keep [1] c24_155))
theorem u24_156 : type_of% (@swc _ _ c24_156.eq_1) := @swc _ _ c24_156.eq_1
def c24_157 : SC := (.seq (.seq (.reg [SO.mk (some 4) (.move (.const (Value.int .i64 0))) none]) (.keep [4, 1] c24_40)) (.keep [1] c24_156))
theorem u24_157 : type_of% (@swc _ _ c24_157.eq_1) := @swc _ _ c24_157.eq_1
def c24_158 : SC := (.seq (.seq (.reg [SO.mk (some 3) (.move (.const (Value.int .i64 0))) none]) (.keep [3, 1] c24_23)) (.keep [1] c24_157))
theorem u24_158 : type_of% (@swc _ _ c24_158.eq_1) := @swc _ _ c24_158.eq_1
def c24_159 : SC := (.seq (.seq (.reg ((SO.mk (some 21) (.faddr 30 (.tmp 1) 0) none) :: (SO.mk (some 22) (.load 3 (.tmp 21)) none) :: (SO.mk (some 23) (.call 26 [(.tmp 22), (.const (Value.int .i64 1)), (.const (Value.int .i64 1048576))]) none) :: (SO.mk (some 24) (.un .not (.tmp 23)) none) :: o24_8)) (.keep [54, 1] c24_10)) (.keep [1] c24_158))
theorem u24_159 : type_of% (@swc _ _ c24_159.eq_1) := @swc _ _ c24_159.eq_1
def c24 : SC := (.seq (.reg [SO.mk (some 1) (.box 30 (.tmp 0)) none, SO.mk (some 2) (.move (.const (Value.bool false))) none]) (.keep [1] c24_159))
theorem c24_eq : annC Try.f24 = some c24 := by kernel_rfl
theorem r24 : Try.f24.results.toList = [.tmp 2] := by kernel_rfl
theorem e24 : enters Try.prog 24 = true := by kernel_rfl
end Go.Proofs.Yteaojhieghakfaa
namespace Go.Proofs.Yteaojhieghakfaa
open Go.RowKit
set_option maxHeartbeats 4000000
set_option maxRecDepth 20000
attribute [local irreducible] SW SWL SWLn SWD SEcall SEcallv SDv SE SO1 SOg ACalls ACallv Wk EndV
set_option linter.unusedSimpArgs false
set_option linter.unusedVariables false
theorem may_p (s : SttD) : Pure Try.prog 24 [s.av] (Bo (mayF s)) := by
  refine pure_of follows Try.func24 c24_eq r24 (Nat.le_of_ble_eq_true rfl) fun B σ hcl hsz => ?_
  have hpl := st_szd (hsz s.av (by simp))
  obtain ⟨z1, z2, z3, z4, z5⟩ := st_sz5 (hsz s.av (by simp))
  clear hsz
  have w1 : ∀ k : Nat, decide ((k : Int) < (s.gone.length : Int)) = true → decide ((k : Int) > 0) = true → IntKind.i64.wrap ((k : Int) - 1) = ((k - 1 : Nat) : Int) := fun k => prev_wD z5
  have w2 : ∀ k : Nat, decide ((k : Int) < (s.bkts.length : Int)) = true → decide ((k : Int) > 0) = true → IntKind.i64.wrap ((k : Int) - 1) = ((k - 1 : Nat) : Int) := fun k => prev_wD z3
  have w3 : ∀ k : Nat, decide ((k : Int) < (s.vers.length : Int)) = true → decide ((k : Int) > 0) = true → IntKind.i64.wrap ((k : Int) - 1) = ((k - 1 : Nat) : Int) := fun k => prev_wD z1
  have w4 : ∀ k : Nat, decide ((k : Int) < (s.ups.length : Int)) = true → decide ((k : Int) > 0) = true → IntKind.i64.wrap ((k : Int) - 1) = ((k - 1 : Nat) : Int) := fun k => prev_wD z2
  have r1 : ∀ k : Nat, decide ((k : Int) < (s.gone.length : Int)) = true → decide ((k : Int) > 0) = true → rowOf (s.gone.map int_) (k - 1) = [RV.v (.int .i64 s.gone[k - 1]!)] := fun k => prev_rowD (f := int_)
  have r2 : ∀ k : Nat, decide ((k : Int) < (s.bkts.length : Int)) = true → decide ((k : Int) > 0) = true → rowOf (s.bkts.map BktD.row) (k - 1) = BktD.row s.bkts[k - 1]! := fun k => prev_rowD
  have r3 : ∀ k : Nat, decide ((k : Int) < (s.vers.length : Int)) = true → decide ((k : Int) > 0) = true → rowOf (s.vers.map VerD.row) (k - 1) = VerD.row s.vers[k - 1]! := fun k => prev_rowD
  have r4 : ∀ k : Nat, decide ((k : Int) < (s.ups.length : Int)) = true → decide ((k : Int) > 0) = true → rowOf (s.ups.map UpD.row) (k - 1) = UpD.row s.ups[k - 1]! := fun k => prev_rowD
  have r6 : ∀ x : Int, decide (idxD s.vers.length (pV s.vers x) < 0) = false → rowOf (s.vers.map VerD.row) (idxD s.vers.length (pV s.vers x)).toNat = VerD.row s.vers[(idxD s.vers.length (pV s.vers x)).toNat]! := fun x h => by
    have h0 := of_decide_eq_false h
    have h1 := idxD_lt (n := s.vers.length) (p := pV s.vers x)
    exact rowOf_mapD _ _ _ (decide_eq_true (by omega))
  have r7 : ∀ x : Int, (idxD s.vers.length (pV s.vers x) < (s.vers.length : Int)) = True := fun x => eq_true idxD_lt
  repeat' (first | (simp -implicitDefEqProofs only [*, contN, contC, Nat.reduceBEq, Bool.or_false, Bool.or_true, Bool.false_or, Bool.true_or, Bool.not_true, Bool.not_false, w_skip, w_ret, w_exit, w_reg, w_dreg, w_seq, SK_n, SK_r, SK_x, w_keep, w_block, w_cond, w_nil, w_cons, w_consg, w_nnil, w_ncons, w_dnil, w_dcons, w_dconsg, HK_app, HD_app, HQ_n, HQ_r, HQ_x, HQ_bn, HQ_br, HQ_bx, HQ_en, HQ_er, HQ_ex, CondB_true, CondB_false, SO1, w_sdv, SDe_alloc, SDe_box, SDe_bslice, SDe_app, true_imp_iff, false_imp_iff, and_false, false_and, not_false_eq_true, not_true_eq_false, addN, mkNames, killT, killD, killO, List.foldl_nil, List.foldl_cons, List.append_nil, List.nil_append, List.cons_append, GuardS_true, GuardS_false, GuardD_true, GuardD_false, DK_true, DK_false, lt_self_add, le_self_add, decide_true, decide_false, Bool.false_eq_true, Bool.true_eq_false, Nat.add_left_cancel_iff, SE, SEalloc, SEbox, SEstore, w_bs, SEbl, SEfz, SEbs0, fzName, osOf, AV.fz1, w_app, w_mk, aev, opd, Fr.get, putO, Fr.norm, List.map_cons, List.map_nil, with1, with2, onInt, AV.lit, entry, ↓reduceIte, Nat.reduceEqDiff, Nat.reduceAdd, reduceCtorEq, true_and, and_true, Option.map_some, Option.map_none, Option.bind_some, Option.bind_none, cond_true, cond_false, binV, unV, fieldV, loadV, sto, cellsAV, newF, newL, Fr.map, Loc.kill, Loc.set, AO.kill, AV.kill, AV.mapN, AV.mapNL, List.filter_nil, List.filter_cons, allP, EndV, retV, resV, resL, frz, dropL, AV.pick, nilV, tupV, imp_self, ne_eq, Int.cast_ofNat_Int, Int.reduceLT, Int.reduceToNat, List.getD_cons_zero, List.getD_cons_succ, bsliceV, buildV, afill, repl, chunk, rvs, AV.rv, RV.nrm, List.getElem?_nil, List.append_assoc, Nat.reduceMul, Nat.reducePow, Nat.zero_lt_succ, Nat.zero_add, Nat.add_zero, List.length_cons, List.length_nil, Nat.reduceLeDiff, Nat.le_refl, List.take_succ_cons, List.take_zero, List.drop_succ_cons, List.drop_zero, indexV, lenV, rowOf_mapD, rowOf_mapI, rowOf_mapA, List.length_map, Int.toNat_natCast, List.getElem?_cons_zero, List.getElem?_cons_succ, and_self, implies_true, if_true, if_false, HQ_zn, HQ_zr, HQ_wn, HQ_wr, AV.nz, AV.nzL, RV.nrm, SEbin, SEnil, nilK, srcV, dstV, appName, List.length_append, Nat.mul_one, take_map_len, take_map_app, List.getElem?_cons_zero, List.map_append, SEmkmap, SEmset, mgetV, kvOf, getM, setM, c24, r24, v24_1, v24_2, v24_3, v24_4, v24_5, v24_6, v24_7, v24_8, u24_9, u24_10, u24_11, v24_12, v24_13, m24_13, v24_14, v24_15, v24_16, v24_17, u24_18, u24_19, u24_20, u24_21, u24_22, u24_23, u24_24, v24_25, v24_26, m24_26, v24_27, v24_28, v24_29, v24_30, v24_31, v24_32, v24_33, u24_34, u24_35, u24_36, u24_37, u24_38, u24_39, u24_40, u24_41, v24_42, v24_43, m24_43, v24_44, v24_45, v24_46, v24_47, u24_48, u24_49, u24_50, v24_51, v24_52, v24_53, v24_54, v24_55, u24_56, u24_57, u24_58, u24_59, u24_60, u24_61, u24_62, u24_63, u24_64, u24_65, u24_66, u24_67, u24_68, u24_69, v24_70, v24_71, v24_72, v24_73, v24_74, v24_75, v24_76, v24_77, v24_78, v24_79, m24_79, u24_80, u24_81, u24_82, v24_83, v24_84, v24_85, v24_86, v24_87, v24_88, v24_89, v24_90, v24_91, v24_92, m24_92, u24_93, u24_94, u24_95, u24_96, u24_97, u24_98, u24_99, u24_100, u24_101, u24_102, u24_103, u24_104, u24_105, u24_106, v24_107, v24_108, v24_109, v24_110, v24_111, v24_112, u24_113, u24_114, u24_115, v24_116, v24_117, v24_118, m24_118, u24_119, u24_120, u24_121, u24_122, u24_123, u24_124, u24_125, u24_126, u24_127, u24_128, u24_129, u24_130, u24_131, u24_132, v24_133, u24_134, u24_135, u24_136, v24_137, v24_138, v24_139, m24_139, u24_140, u24_141, u24_142, u24_143, u24_144, u24_145, u24_146, u24_147, u24_148, u24_149, u24_150, u24_151, u24_152, u24_153, u24_154, u24_155, u24_156, u24_157, u24_158, u24_159, ty30, ty3, ty24, ty25, ty26, ty27, ty28, ty78, ty9, ty31, ty76, ty57, ty4, ty65, ty63, ty67, ty41, SttD.av, SttD.cells, ints, int_, VerD.row, UpD.row, PartD.row, AskD.row, BktD.row]) | (with_reducible refine And.intro ?_ ?_) | (refine call_ro e26 ( In_p _ _ _) rfl ?_ ?_ ?_ ?_) | (refine gcall_ro e26 ( In_p _ _ _) rfl ?_ ?_ ?_ ?_) | (refine dcall_ro e26 ( In_p _ _ _) rfl ?_ ?_ ?_ ?_) | (refine gdcall_ro rfl e26 ( In_p _ _ _) rfl ?_ ?_ ?_ ?_) | (refine call_ro e43 ( nameR_p s.bkts[kb]!.name) rfl ?_ ?_ ?_ ?_) | (refine gcall_ro e43 ( nameR_p s.bkts[kb]!.name) rfl ?_ ?_ ?_ ?_) | (refine dcall_ro e43 ( nameR_p s.bkts[kb]!.name) rfl ?_ ?_ ?_ ?_) | (refine gdcall_ro rfl e43 ( nameR_p s.bkts[kb]!.name) rfl ?_ ?_ ?_ ?_) | (refine call_ro e44 ( ruleR_p s.bkts[kb]!.pre s.bkts[kb]!.frz s.bkts[kb]!.drop) rfl ?_ ?_ ?_ ?_) | (refine gcall_ro e44 ( ruleR_p s.bkts[kb]!.pre s.bkts[kb]!.frz s.bkts[kb]!.drop) rfl ?_ ?_ ?_ ?_) | (refine dcall_ro e44 ( ruleR_p s.bkts[kb]!.pre s.bkts[kb]!.frz s.bkts[kb]!.drop) rfl ?_ ?_ ?_ ?_) | (refine gdcall_ro rfl e44 ( ruleR_p s.bkts[kb]!.pre s.bkts[kb]!.frz s.bkts[kb]!.drop) rfl ?_ ?_ ?_ ?_) | (refine call_ro e45 ( vmay_p s s.vers[kv]!) rfl ?_ ?_ ?_ ?_) | (refine gcall_ro e45 ( vmay_p s s.vers[kv]!) rfl ?_ ?_ ?_ ?_) | (refine dcall_ro e45 ( vmay_p s s.vers[kv]!) rfl ?_ ?_ ?_ ?_) | (refine gdcall_ro rfl e45 ( vmay_p s s.vers[kv]!) rfl ?_ ?_ ?_ ?_) | (refine call_ro e46 ( bucketAt_p s s.ups[ku]!.bkt) rfl ?_ ?_ ?_ ?_) | (refine gcall_ro e46 ( bucketAt_p s s.ups[ku]!.bkt) rfl ?_ ?_ ?_ ?_) | (refine dcall_ro e46 ( bucketAt_p s s.ups[ku]!.bkt) rfl ?_ ?_ ?_ ?_) | (refine gdcall_ro rfl e46 ( bucketAt_p s s.ups[ku]!.bkt) rfl ?_ ?_ ?_ ?_) | (refine call_ro e47 ( keyR_p s.ups[ku]!.key) rfl ?_ ?_ ?_ ?_) | (refine gcall_ro e47 ( keyR_p s.ups[ku]!.key) rfl ?_ ?_ ?_ ?_) | (refine dcall_ro e47 ( keyR_p s.ups[ku]!.key) rfl ?_ ?_ ?_ ?_) | (refine gdcall_ro rfl e47 ( keyR_p s.ups[ku]!.key) rfl ?_ ?_ ?_ ?_) | (refine call_ro e48 ( chunks64_p _) rfl ?_ ?_ ?_ ?_) | (refine gcall_ro e48 ( chunks64_p _) rfl ?_ ?_ ?_ ?_) | (refine dcall_ro e48 ( chunks64_p _) rfl ?_ ?_ ?_ ?_) | (refine gdcall_ro rfl e48 ( chunks64_p _) rfl ?_ ?_ ?_ ?_) | (refine call_ro e49 ( versionAt_p s s.queue[kq]!.ver) rfl ?_ ?_ ?_ ?_) | (refine gcall_ro e49 ( versionAt_p s s.queue[kq]!.ver) rfl ?_ ?_ ?_ ?_) | (refine dcall_ro e49 ( versionAt_p s s.queue[kq]!.ver) rfl ?_ ?_ ?_ ?_) | (refine gdcall_ro rfl e49 ( versionAt_p s s.queue[kq]!.ver) rfl ?_ ?_ ?_ ?_) | (have hbs := bnds_of (s := s) hFkv hFku (by assumption) (by assumption) (by assumption) (by assumption); have hb6 := hbs.b6; refine call_ro e33 (allS_p s hbs.b1 hbs.b2 hbs.b3 hbs.b4 hbs.b5) rfl ?_ ?_ ?_ ?_) | (refine loop_nat (kx) (fun jx => ((kx ≤ (allSec s).length) ∧ (allSec s).length ≤ 2 ^ 47) ∧ (∀ j : Nat, decide ((j : Int) < (kx : Int)) = true → rowOf ((allSec s).map int_) j = [RV.v (.int .i64 (allSec s)[j]!)]) ∧ ∀ i, i < jx → ((allSec s)[kx]! == (allSec s)[i]!) = false) (fun jx => [(20, I jx), (19, I kx), (18, .d (ints (allSec s)))]) (fun jx => []) ?_ (Wk.keep hcl ?_ ?_ ?_) fun jx hjx hFjx => ?_; rotate_left 1; (focus (simp [Fr.get, newF, Fr.map, AV.kill, AV.mapN, SttD.av, SttD.cells, ints, int_, VerD.row, UpD.row, PartD.row, AskD.row, BktD.row] <;> fail)); (focus (simp [sto, newL, Loc.kill, Loc.set, AO.kill, AV.kill, AV.mapN, SttD.av, SttD.cells, ints, int_, VerD.row, UpD.row, PartD.row, AskD.row, BktD.row] <;> fail)); (focus (simp [newL, Loc.kill, Loc.set, SttD.av, SttD.cells, ints, int_, VerD.row, UpD.row, PartD.row, AskD.row, BktD.row] <;> fail)); (try have hwjx : IntKind.i64.wrap ((jx : Int) + 1) = (jx : Int) + 1 := IntWalk.i64_in _ (by omega))) | (refine loop_nat ((allSec s).length) (fun kx => (allSec s).length ≤ 2 ^ 47 ∧ ∀ i, i < kx → mSec (allSec s) i = false) (fun kx => [(19, I kx), (18, .d (ints (allSec s)))]) (fun kx => []) ?_ (Wk.keep hcl ?_ ?_ ?_) fun kx hkx hFkx => ?_; rotate_left 1; (focus (simp [Fr.get, newF, Fr.map, AV.kill, AV.mapN, SttD.av, SttD.cells, ints, int_, VerD.row, UpD.row, PartD.row, AskD.row, BktD.row] <;> fail)); (focus (simp [sto, newL, Loc.kill, Loc.set, AO.kill, AV.kill, AV.mapN, SttD.av, SttD.cells, ints, int_, VerD.row, UpD.row, PartD.row, AskD.row, BktD.row] <;> fail)); (focus (simp [newL, Loc.kill, Loc.set, SttD.av, SttD.cells, ints, int_, VerD.row, UpD.row, PartD.row, AskD.row, BktD.row] <;> fail)); (try have hwkx : IntKind.i64.wrap ((kx : Int) + 1) = (kx : Int) + 1 := IntWalk.i64_in _ (by omega))) | (refine loop_nat (kq) (fun jq => (kq ≤ s.queue.length) ∧ (∀ j : Nat, decide ((j : Int) < (kq : Int)) = true → rowOf (s.queue.map AskD.row) j = AskD.row s.queue[j]!) ∧ ∀ i, i < jq → (s.queue[i]!.ver == s.queue[kq]!.ver) = false) (fun jq => [(17, I jq), (15, .lp (B + 15) 0), (14, I kq), (1, .lp (B + 1) 0)]) (fun jq => [(B + 15, .box [I s.queue[kq]!.ver, I s.queue[kq]!.days, I s.queue[kq]!.cls]), (B + 1, .box s.cells)]) ?_ (Wk.keep hcl ?_ ?_ ?_) fun jq hjq hFjq => ?_; rotate_left 1; (focus (simp [Fr.get, newF, Fr.map, AV.kill, AV.mapN, SttD.av, SttD.cells, ints, int_, VerD.row, UpD.row, PartD.row, AskD.row, BktD.row] <;> fail)); (focus (simp [sto, newL, Loc.kill, Loc.set, AO.kill, AV.kill, AV.mapN, SttD.av, SttD.cells, ints, int_, VerD.row, UpD.row, PartD.row, AskD.row, BktD.row] <;> fail)); (focus (simp [newL, Loc.kill, Loc.set, SttD.av, SttD.cells, ints, int_, VerD.row, UpD.row, PartD.row, AskD.row, BktD.row] <;> fail)); (try have hwjq : IntKind.i64.wrap ((jq : Int) + 1) = (jq : Int) + 1 := IntWalk.i64_in _ (by omega))) | (refine loop_nat (s.queue.length) (fun kq => ∀ i, i < kq → mQu s i = false) (fun kq => [(14, I kq), (1, .lp (B + 1) 0)]) (fun kq => [(B + 1, .box s.cells)]) ?_ (Wk.keep hcl ?_ ?_ ?_) fun kq hkq hFkq => ?_; rotate_left 1; (focus (simp [Fr.get, newF, Fr.map, AV.kill, AV.mapN, SttD.av, SttD.cells, ints, int_, VerD.row, UpD.row, PartD.row, AskD.row, BktD.row] <;> fail)); (focus (simp [sto, newL, Loc.kill, Loc.set, AO.kill, AV.kill, AV.mapN, SttD.av, SttD.cells, ints, int_, VerD.row, UpD.row, PartD.row, AskD.row, BktD.row] <;> fail)); (focus (simp [newL, Loc.kill, Loc.set, SttD.av, SttD.cells, ints, int_, VerD.row, UpD.row, PartD.row, AskD.row, BktD.row] <;> fail)); (try have hwkq : IntKind.i64.wrap ((kq : Int) + 1) = (kq : Int) + 1 := IntWalk.i64_in _ (by omega))) | (refine loop_nat ((s.ups[ku]!).parts.length) (fun jp => (s.ups[ku]!).parts.length ≤ 2 ^ 47 ∧ (∀ j : Nat, decide ((j : Int) < ((s.ups[ku]!).parts.length : Int)) = true → decide ((j : Int) > 0) = true → IntKind.i64.wrap ((j : Int) - 1) = ((j - 1 : Nat) : Int)) ∧ (∀ j : Nat, decide ((j : Int) < ((s.ups[ku]!).parts.length : Int)) = true → decide ((j : Int) > 0) = true → rowOf ((s.ups[ku]!).parts.map PartD.row) (j - 1) = PartD.row (s.ups[ku]!).parts[j - 1]!) ∧ ∀ i, i < jp → mPt (s.ups[ku]!).parts i = false) (fun jp => [(12, I jp), (11, .lp (B + 11) 0), (10, I ku), (1, .lp (B + 1) 0)]) (fun jp => [(B + 11, .box [I s.ups[ku]!.id, .d (.v (.string s.ups[ku]!.bkt)), .d (.v (.string s.ups[ku]!.key)), .d (.ro ((s.ups[ku]!).parts.map PartD.row))]), (B + 1, .box s.cells)]) ?_ (Wk.keep hcl ?_ ?_ ?_) fun jp hjp hFjp => ?_; rotate_left 1; (focus (simp [Fr.get, newF, Fr.map, AV.kill, AV.mapN, SttD.av, SttD.cells, ints, int_, VerD.row, UpD.row, PartD.row, AskD.row, BktD.row] <;> fail)); (focus (simp [sto, newL, Loc.kill, Loc.set, AO.kill, AV.kill, AV.mapN, SttD.av, SttD.cells, ints, int_, VerD.row, UpD.row, PartD.row, AskD.row, BktD.row] <;> fail)); (focus (simp [newL, Loc.kill, Loc.set, SttD.av, SttD.cells, ints, int_, VerD.row, UpD.row, PartD.row, AskD.row, BktD.row] <;> fail)); (try have hwjp : IntKind.i64.wrap ((jp : Int) + 1) = (jp : Int) + 1 := IntWalk.i64_in _ (by omega))) | (refine loop_nat (s.ups.length) (fun ku => ∀ i, i < ku → mUp s i = false) (fun ku => [(10, I ku), (1, .lp (B + 1) 0)]) (fun ku => [(B + 1, .box s.cells)]) ?_ (Wk.keep hcl ?_ ?_ ?_) fun ku hku hFku => ?_; rotate_left 1; (focus (simp [Fr.get, newF, Fr.map, AV.kill, AV.mapN, SttD.av, SttD.cells, ints, int_, VerD.row, UpD.row, PartD.row, AskD.row, BktD.row] <;> fail)); (focus (simp [sto, newL, Loc.kill, Loc.set, AO.kill, AV.kill, AV.mapN, SttD.av, SttD.cells, ints, int_, VerD.row, UpD.row, PartD.row, AskD.row, BktD.row] <;> fail)); (focus (simp [newL, Loc.kill, Loc.set, SttD.av, SttD.cells, ints, int_, VerD.row, UpD.row, PartD.row, AskD.row, BktD.row] <;> fail)); (try have hwku : IntKind.i64.wrap ((ku : Int) + 1) = (ku : Int) + 1 := IntWalk.i64_in _ (by omega))) | (refine loop_nat (kv) (fun jv => (kv ≤ s.vers.length) ∧ (∀ j : Nat, decide ((j : Int) < (kv : Int)) = true → rowOf (s.vers.map VerD.row) j = VerD.row s.vers[j]!) ∧ ∀ i, i < jv → mTwo s.vers[kv]! s.vers[i]! = false) (fun jv => [(8, I jv), (7, .lp (B + 7) 0), (6, I kv), (1, .lp (B + 1) 0)]) (fun jv => [(B + 7, .box (s.vers[kv]!.row.map .d)), (B + 1, .box s.cells)]) ?_ (Wk.keep hcl ?_ ?_ ?_) fun jv hjv hFjv => ?_; rotate_left 1; (focus (simp [Fr.get, newF, Fr.map, AV.kill, AV.mapN, SttD.av, SttD.cells, ints, int_, VerD.row, UpD.row, PartD.row, AskD.row, BktD.row] <;> fail)); (focus (simp [sto, newL, Loc.kill, Loc.set, AO.kill, AV.kill, AV.mapN, SttD.av, SttD.cells, ints, int_, VerD.row, UpD.row, PartD.row, AskD.row, BktD.row] <;> fail)); (focus (simp [newL, Loc.kill, Loc.set, SttD.av, SttD.cells, ints, int_, VerD.row, UpD.row, PartD.row, AskD.row, BktD.row] <;> fail)); (try have hwjv : IntKind.i64.wrap ((jv : Int) + 1) = (jv : Int) + 1 := IntWalk.i64_in _ (by omega))) | (refine loop_nat (s.vers.length) (fun kv => ∀ i, i < kv → mVer s i = false) (fun kv => [(6, I kv), (1, .lp (B + 1) 0)]) (fun kv => [(B + 1, .box s.cells)]) ?_ (Wk.keep hcl ?_ ?_ ?_) fun kv hkv hFkv => ?_; rotate_left 1; (focus (simp [Fr.get, newF, Fr.map, AV.kill, AV.mapN, SttD.av, SttD.cells, ints, int_, VerD.row, UpD.row, PartD.row, AskD.row, BktD.row] <;> fail)); (focus (simp [sto, newL, Loc.kill, Loc.set, AO.kill, AV.kill, AV.mapN, SttD.av, SttD.cells, ints, int_, VerD.row, UpD.row, PartD.row, AskD.row, BktD.row] <;> fail)); (focus (simp [newL, Loc.kill, Loc.set, SttD.av, SttD.cells, ints, int_, VerD.row, UpD.row, PartD.row, AskD.row, BktD.row] <;> fail)); (try have hwkv : IntKind.i64.wrap ((kv : Int) + 1) = (kv : Int) + 1 := IntWalk.i64_in _ (by omega))) | (refine loop_nat (s.bkts.length) (fun kb => ∀ i, i < kb → mBkt s.bkts i = false) (fun kb => [(4, I kb), (1, .lp (B + 1) 0)]) (fun kb => [(B + 1, .box s.cells)]) ?_ (Wk.keep hcl ?_ ?_ ?_) fun kb hkb hFkb => ?_; rotate_left 1; (focus (simp [Fr.get, newF, Fr.map, AV.kill, AV.mapN, SttD.av, SttD.cells, ints, int_, VerD.row, UpD.row, PartD.row, AskD.row, BktD.row] <;> fail)); (focus (simp [sto, newL, Loc.kill, Loc.set, AO.kill, AV.kill, AV.mapN, SttD.av, SttD.cells, ints, int_, VerD.row, UpD.row, PartD.row, AskD.row, BktD.row] <;> fail)); (focus (simp [newL, Loc.kill, Loc.set, SttD.av, SttD.cells, ints, int_, VerD.row, UpD.row, PartD.row, AskD.row, BktD.row] <;> fail)); (try have hwkb : IntKind.i64.wrap ((kb : Int) + 1) = (kb : Int) + 1 := IntWalk.i64_in _ (by omega))) | (refine loop_nat (s.gone.length) (fun kg => ∀ i, i < kg → mGone s.gone i = false) (fun kg => [(3, I kg), (1, .lp (B + 1) 0)]) (fun kg => [(B + 1, .box s.cells)]) ?_ (Wk.keep hcl ?_ ?_ ?_) fun kg hkg hFkg => ?_; rotate_left 1; (focus (simp [Fr.get, newF, Fr.map, AV.kill, AV.mapN, SttD.av, SttD.cells, ints, int_, VerD.row, UpD.row, PartD.row, AskD.row, BktD.row] <;> fail)); (focus (simp [sto, newL, Loc.kill, Loc.set, AO.kill, AV.kill, AV.mapN, SttD.av, SttD.cells, ints, int_, VerD.row, UpD.row, PartD.row, AskD.row, BktD.row] <;> fail)); (focus (simp [newL, Loc.kill, Loc.set, SttD.av, SttD.cells, ints, int_, VerD.row, UpD.row, PartD.row, AskD.row, BktD.row] <;> fail)); (try have hwkg : IntKind.i64.wrap ((kg : Int) + 1) = (kg : Int) + 1 := IntWalk.i64_in _ (by omega))) | (refine EndX.plain ?_) | (refine nil_split (fun hn => ?_) (fun hn => ?_)) | (refine gcall_no not_false ?_) | (refine gdcall_no not_false ?_) | (refine GuardS_of _ _ _ _ _ _ (fun hg => ?_) (fun hg => ?_)) | (refine GuardD_of _ _ _ _ (fun hg => ?_) (fun hg => ?_)) | (refine CondB_of _ _ _ _ _ _ _ ?_ (fun hg => ?_) (fun hg => ?_)))
  all_goals (try (first | ((first | unfold noN | unfold Fr.below | unfold Loc.below); simp [Fr.allN, AV.allN, AV.allNL, AO.allN]; done) | rfl | trivial | assumption | (intro row hrow; simp only [List.mem_map] at hrow; obtain ⟨x, _, rfl⟩ := hrow; rfl) | (refine Wk.keep hcl ?_ ?_ ?_; (focus (simp [Fr.get, SttD.av, SttD.cells, ints, int_, VerD.row, UpD.row, PartD.row, AskD.row, BktD.row] <;> fail)); (focus (simp [sto, SttD.av, SttD.cells, ints, int_, VerD.row, UpD.row, PartD.row, AskD.row, BktD.row] <;> fail)); (focus (simp <;> fail))) | (simp [allP, opd, Fr.get, Fr.below, Fr.allN, AV.allN, AV.allNL, Loc.below, AO.allN, noN, killO, killT, killD, mkNames, AO.kill, AV.kill, AV.mapN, AV.mapNL]; done) | (with_reducible exact ltD (by assumption)) | omega | (simp only [decide_eq_true_eq, decide_eq_false_iff_not] at *; omega)))
  all_goals first
    | (refine Bo_no (may_num ?_); simp only [mNum, *, Bool.false_or, Bool.true_or, Bool.or_true, Bool.or_false, Bool.and_true, Bool.true_and, Bool.false_and, Bool.and_false, Bool.not_true, Bool.not_false, cond_true, cond_false]; done)
    | (refine Bo_no (may_gone (k := kg) ?_ ?_); assumption; (simp only [mGone, *, Bool.false_or, Bool.true_or, Bool.or_true, Bool.or_false, Bool.and_true, Bool.true_and, Bool.false_and, Bool.and_false, Bool.not_true, Bool.not_false, cond_true, cond_false]; done))
    | (refine Bo_no (may_bkt (k := kb) ?_ ?_); assumption; (simp only [mBkt, *, Bool.false_or, Bool.true_or, Bool.or_true, Bool.or_false, Bool.and_true, Bool.true_and, Bool.false_and, Bool.and_false, Bool.not_true, Bool.not_false, cond_true, cond_false]; done))
    | (refine Bo_no (may_ver (k := kv) ?_ (ver_two (j := jv) ?_ ?_)); assumption; assumption; (simp only [mTwo, *, Bool.false_or, Bool.true_or, Bool.or_true, Bool.or_false, Bool.and_true, Bool.true_and, Bool.false_and, Bool.and_false, Bool.not_true, Bool.not_false, cond_true, cond_false]; done))
    | (refine Bo_no (may_ver (k := kv) ?_ ?_); assumption; (simp only [mVer, *, Bool.false_or, Bool.true_or, Bool.or_true, Bool.or_false, Bool.and_true, Bool.true_and, Bool.false_and, Bool.and_false, Bool.not_true, Bool.not_false, cond_true, cond_false]; done))
    | (refine Bo_no (may_up (k := ku) ?_ (up_pt (j := jp) ?_ ?_)); assumption; assumption; (simp only [mPt, *, Bool.false_or, Bool.true_or, Bool.or_true, Bool.or_false, Bool.and_true, Bool.true_and, Bool.false_and, Bool.and_false, Bool.not_true, Bool.not_false, cond_true, cond_false]; done))
    | (refine Bo_no (may_up (k := ku) ?_ ?_); assumption; (simp only [mUp, *, Bool.false_or, Bool.true_or, Bool.or_true, Bool.or_false, Bool.and_true, Bool.true_and, Bool.false_and, Bool.and_false, Bool.not_true, Bool.not_false, cond_true, cond_false]; done))
    | (refine Bo_no (may_qu (k := kq) ?_ (qu_two (j := jq) ?_ ?_)); assumption; assumption; assumption)
    | (refine Bo_no (may_qu (k := kq) ?_ ?_); assumption; (simp only [mQu, *, Bool.false_or, Bool.true_or, Bool.or_true, Bool.or_false, Bool.and_true, Bool.true_and, Bool.false_and, Bool.and_false, Bool.not_true, Bool.not_false, cond_true, cond_false]; done))
    | (refine Bo_no (may_sec (k := kx) ?_ (sec_two (j := jx) ?_ ?_)); assumption; assumption; assumption)
    | (refine Bo_no (may_sec (k := kx) ?_ ?_); assumption; (simp only [mSec, *, Bool.false_or, Bool.true_or, Bool.or_true, Bool.or_false, Bool.and_true, Bool.true_and, Bool.false_and, Bool.and_false, Bool.not_true, Bool.not_false, cond_true, cond_false]; done))
    | (refine Bo_yes (may_yes (kg := kg) (kb := kb) (kv := kv) (ku := ku) (kq := kq) (kx := kx) ?_ ?_ hFkg ?_ hFkb ?_ hFkv ?_ hFku ?_ hFkq ?_ hFkx.2); all_goals first | assumption | (simp only [mNum, *, Bool.false_or, Bool.true_or, Bool.or_true, Bool.or_false, Bool.and_true, Bool.true_and, Bool.false_and, Bool.and_false, Bool.not_true, Bool.not_false, cond_true, cond_false]; done))
    | (refine fun j hj => low_row (f := VerD.row) (k := kv) ?_ hj; assumption; done)
    | (refine fun j hj => low_row (f := AskD.row) (k := kq) ?_ hj; assumption; done)
    | (refine fun j hj => low_row (f := int_) (k := kx) ?_ hj; assumption; done)
    | exact fun j h1 h2 => prev_wD (hpl ku) h1 h2
    | exact fun j h1 h2 => prev_rowD (f := PartD.row) h1 h2
    | (refine allN' hFkg ?_; simp only [mGone, *, Bool.false_or, Bool.true_or, Bool.or_true, Bool.or_false, Bool.and_true, Bool.true_and, Bool.false_and, Bool.and_false, Bool.not_true, Bool.not_false, cond_true, cond_false]; done)
    | (refine allN' hFkb ?_; simp only [mBkt, *, Bool.false_or, Bool.true_or, Bool.or_true, Bool.or_false, Bool.and_true, Bool.true_and, Bool.false_and, Bool.and_false, Bool.not_true, Bool.not_false, cond_true, cond_false]; done)
    | (refine allN' (p := fun i => mTwo s.vers[kv]! s.vers[i]!) hFjv.2.2 ?_; simp only [mTwo, *, Bool.false_or, Bool.true_or, Bool.or_true, Bool.or_false, Bool.and_true, Bool.true_and, Bool.false_and, Bool.and_false, Bool.not_true, Bool.not_false, cond_true, cond_false]; done)
    | (refine allN' hFkv (ver_ok hFjv.2.2 ?_ ?_); assumption; (simp only [*, Bool.false_or, Bool.true_or, Bool.or_true, Bool.or_false, Bool.and_true, Bool.true_and, Bool.false_and, Bool.and_false, Bool.not_true, Bool.not_false, cond_true, cond_false]; done))
    | (refine allN' hFjp.2.2.2 ?_; simp only [mPt, *, Bool.false_or, Bool.true_or, Bool.or_true, Bool.or_false, Bool.and_true, Bool.true_and, Bool.false_and, Bool.and_false, Bool.not_true, Bool.not_false, cond_true, cond_false]; done)
    | (refine allN' hFku (up_ok hFjp.2.2.2 ?_ ?_); assumption; (simp only [*, Bool.false_or, Bool.true_or, Bool.or_true, Bool.or_false, Bool.and_true, Bool.true_and, Bool.false_and, Bool.and_false, Bool.not_true, Bool.not_false, cond_true, cond_false]; done))
    | (refine allN' (p := fun i => s.queue[i]!.ver == s.queue[kq]!.ver) hFjq.2.2 ?_; assumption; done)
    | (refine allN' hFkq (qu_ok hFjq.2.2 ?_ ?_); assumption; (simp only [*, Bool.false_or, Bool.true_or, Bool.or_true, Bool.or_false, Bool.and_true, Bool.true_and, Bool.false_and, Bool.and_false, Bool.not_true, Bool.not_false, cond_true, cond_false]; done))
    | (refine allN' (p := fun i => (allSec s)[kx]! == (allSec s)[i]!) hFjx.2.2 ?_; assumption; done)
    | (refine allN' hFkx.2 (sec_ok hFjx.2.2 ?_ ?_); assumption; (simp only [*, Bool.false_or, Bool.true_or, Bool.or_true, Bool.or_false, Bool.and_true, Bool.true_and, Bool.false_and, Bool.and_false, Bool.not_true, Bool.not_false, cond_true, cond_false]; done))
end Go.Proofs.Yteaojhieghakfaa
