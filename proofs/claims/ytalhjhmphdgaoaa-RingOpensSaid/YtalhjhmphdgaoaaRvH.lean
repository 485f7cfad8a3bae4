/- ring.Open, walked. -/
import Derived.Test.YtalhjhmphdgaoaaRvG
import Derived.Test.YtalhjhmphdgaoaaTypes
namespace Go.Proofs.Ytalhjhmphdgaoaa
open Go.RowKit
set_option maxRecDepth 100000
def o17_1 : List SO := ((SO.mk (some 6) (.move (.const (Value.slice none 0 0))) none) :: (SO.mk (some 7) (.move (.const (Value.slice none 0 0))) none) :: (SO.mk (some 8) (.move (.const (Value.int .i64 0))) none) :: [])
theorem v17_1 : type_of% (@swl _ _ o17_1.eq_1) := @swl _ _ o17_1.eq_1
def o17_2 : List SO := ((SO.mk none (.store 45 (.tmp 5) (.tmp 32)) none) :: (SO.mk (some 6) (.move (.const (Value.slice none 0 0))) none) :: (SO.mk (some 7) (.move (.const (Value.slice none 0 0))) none) :: (SO.mk (some 8) (.move (.tmp 33)) none) :: [])
theorem v17_2 : type_of% (@swl _ _ o17_2.eq_1) := @swl _ _ o17_2.eq_1
def c17_3 : SC := (.seq (.reg ((SO.mk (some 31) (.build 28 []) none) :: (SO.mk (some 32) (.build 45 []) none) :: (SO.mk (some 33) (.move (.tmp 9)) none) :: (SO.mk none (.store 28 (.tmp 4) (.tmp 31)) none) :: o17_2)) (.keep [4, 5, 6, 7, 8] .ret))
theorem u17_3 : type_of% (@swc _ _ c17_3.eq_1) := @swc _ _ c17_3.eq_1
def c17_4 : SC := (.cond (.tmp 30) c17_3 .skip)
theorem u17_4 : type_of% (@swc _ _ c17_4.eq_1) := @swc _ _ c17_4.eq_1
def c17_5 : SC := (.seq (.reg [SO.mk (some 29) (.move (.tmp 9)) none, SO.mk (some 30) (.bin .neq 30 (.tmp 29) (.const (Value.int .i64 0))) none]) (.keep [30, 9, 2, 3, 4, 5] c17_4))
theorem u17_5 : type_of% (@swc _ _ c17_5.eq_1) := @swc _ _ c17_5.eq_1
def o17_6 : List SO := ((SO.mk (some 11) (.move (.tmp 39)) none) :: [])
theorem v17_6 : type_of% (@swl _ _ o17_6.eq_1) := @swl _ _ o17_6.eq_1
def o17_7 : List SO := ((SO.mk (some 38) (.extract (.tmp 34) 0) none) :: (SO.mk (some 39) (.extract (.tmp 34) 1) none) :: (SO.mk (some 10) (.alloc 45) none) :: (SO.mk none (.store 45 (.tmp 10) (.tmp 38)) none) :: o17_6)
theorem v17_7 : type_of% (@swl _ _ o17_7.eq_1) := @swl _ _ o17_7.eq_1
def o17_8 : List SO := ((SO.mk (some 6) (.move (.const (Value.slice none 0 0))) none) :: (SO.mk (some 7) (.move (.const (Value.slice none 0 0))) none) :: (SO.mk (some 8) (.move (.const (Value.int .i64 4))) none) :: [])
theorem v17_8 : type_of% (@swl _ _ o17_8.eq_1) := @swl _ _ o17_8.eq_1
def c17_9 : SC := (.seq (.reg ((SO.mk (some 42) (.build 28 []) none) :: (SO.mk (some 43) (.build 45 []) none) :: (SO.mk none (.store 28 (.tmp 4) (.tmp 42)) none) :: (SO.mk none (.store 45 (.tmp 5) (.tmp 43)) none) :: o17_8)) (.keep [4, 5, 6, 7, 8] .ret))
theorem u17_9 : type_of% (@swc _ _ c17_9.eq_1) := @swc _ _ c17_9.eq_1
def c17_10 : SC := (.cond (.tmp 41) c17_9 .skip)
theorem u17_10 : type_of% (@swc _ _ c17_10.eq_1) := @swc _ _ c17_10.eq_1
def o17_11 : List SO := ((SO.mk (some 48) (.faddr 45 (.tmp 10) 1) (some (47 , false))) :: (SO.mk (some 49) (.load 3 (.tmp 48)) (some (47 , false))) :: (SO.mk (some 50) (.bin .eql 3 (.tmp 49) (.const (Value.int .i64 1048576))) (some (47 , false))) :: (SO.mk (some 51) (.pick (.tmp 47) (.const (Value.bool true)) (.tmp 50)) none) :: [])
theorem v17_11 : type_of% (@swl _ _ o17_11.eq_1) := @swl _ _ o17_11.eq_1
def o17_12 : List SO := ((SO.mk (some 6) (.move (.const (Value.slice none 0 0))) none) :: (SO.mk (some 7) (.move (.const (Value.slice none 0 0))) none) :: (SO.mk (some 8) (.move (.const (Value.int .i64 8))) none) :: [])
theorem v17_12 : type_of% (@swl _ _ o17_12.eq_1) := @swl _ _ o17_12.eq_1
def c17_13 : SC := (.seq (.reg ((SO.mk (some 52) (.build 28 []) none) :: (SO.mk (some 53) (.build 45 []) none) :: (SO.mk none (.store 28 (.tmp 4) (.tmp 52)) none) :: (SO.mk none (.store 45 (.tmp 5) (.tmp 53)) none) :: o17_12)) (.keep [4, 5, 6, 7, 8] .ret))
theorem u17_13 : type_of% (@swc _ _ c17_13.eq_1) := @swc _ _ c17_13.eq_1
def c17_14 : SC := (.cond (.tmp 51) c17_13 .skip)
theorem u17_14 : type_of% (@swc _ _ c17_14.eq_1) := @swc _ _ c17_14.eq_1
def c17_15 : SC := (.cond (.tmp 57) .skip (.exit 0))
theorem u17_15 : type_of% (@swc _ _ c17_15.eq_1) := @swc _ _ c17_15.eq_1
def o17_16 : List SO := ((SO.mk (some 72) (.extract (.tmp 60) 1) none) :: (SO.mk (some 14) (.move (.tmp 71)) none) :: (SO.mk (some 15) (.move (.tmp 72)) none) :: [])
theorem v17_16 : type_of% (@swd _ _ o17_16.eq_1) := @swd _ _ o17_16.eq_1
def o17_17 : List SO := ((SO.mk (some 69) (.bin .add 3 (.tmp 66) (.tmp 68)) none) :: (SO.mk (some 70) (.call 7 [(.tmp 61), (.tmp 62), (.tmp 69)]) none) :: (SO.mk (some 60) (.move (.tmp 70)) none) :: (SO.mk (some 71) (.extract (.tmp 60) 0) none) :: o17_16)
theorem v17_17 : type_of% (@swd _ _ o17_17.eq_1) := @swd _ _ o17_17.eq_1
def o17_18 : List SO := ((SO.mk (some 65) (.load 3 (.tmp 64)) none) :: (SO.mk (some 66) (.call 34 [(.tmp 63), (.tmp 65)]) none) :: (SO.mk (some 67) (.move (.tmp 13)) none) :: (SO.mk (some 68) (.bin .quo 3 (.tmp 67) (.const (Value.int .i64 64))) none) :: o17_17)
theorem v17_18 : type_of% (@swd _ _ o17_18.eq_1) := @swd _ _ o17_18.eq_1
def o17_19 : List SO := ((SO.mk (some 61) (.load 23 (.tmp 2)) none) :: (SO.mk (some 62) (.load 28 (.tmp 3)) none) :: (SO.mk (some 63) (.load 23 (.tmp 2)) none) :: (SO.mk (some 64) (.faddr 45 (.tmp 10) 2) none) :: o17_18)
theorem v17_19 : type_of% (@swd _ _ o17_19.eq_1) := @swd _ _ o17_19.eq_1
theorem m17_19 (B : Nat) : mkNames B o17_19 = [] := (rfl)
def o17_20 : List SO := ((SO.mk (some 81) (.app 29 29 (.tmp 73) (.tmp 80)) none) :: (SO.mk (some 12) (.move (.tmp 81)) none) :: [])
theorem v17_20 : type_of% (@swl _ _ o17_20.eq_1) := @swl _ _ o17_20.eq_1
def o17_21 : List SO := ((SO.mk (some 77) (.move (.tmp 13)) none) :: (SO.mk (some 78) (.bin .sub 3 (.tmp 76) (.tmp 77)) none) :: (SO.mk (some 79) (.minmax true [(.const (Value.int .i64 64)), (.tmp 78)]) none) :: (SO.mk (some 80) (.slice 29 (.tmp 74) none (some (.tmp 79))) none) :: o17_20)
theorem v17_21 : type_of% (@swl _ _ o17_21.eq_1) := @swl _ _ o17_21.eq_1
def c17_22 : SC := (.reg ((SO.mk (some 73) (.move (.tmp 12)) none) :: (SO.mk (some 74) (.move (.tmp 14)) none) :: (SO.mk (some 75) (.faddr 45 (.tmp 10) 3) none) :: (SO.mk (some 76) (.load 3 (.tmp 75)) none) :: o17_21))
theorem u17_22 : type_of% (@swc _ _ c17_22.eq_1) := @swc _ _ c17_22.eq_1
def c17_23 : SC := (.reg [SO.mk (some 58) (.move (.tmp 13)) none, SO.mk (some 59) (.bin .add 3 (.tmp 58) (.const (Value.int .i64 64))) none, SO.mk (some 13) (.move (.tmp 59)) none])
theorem u17_23 : type_of% (@swc _ _ c17_23.eq_1) := @swc _ _ c17_23.eq_1
def c17_24 : SC := (.seq (.block 1 (.seq (.dreg false o17_19 []) (.keep [12, 14, 13, 2, 3, 10, 4, 5] c17_22))) (.keep [13, 2, 3, 10, 12, 4, 5] c17_23))
theorem u17_24 : type_of% (@swc _ _ c17_24.eq_1) := @swc _ _ c17_24.eq_1
def c17_25 : SC := (.seq (.seq (.reg [SO.mk (some 54) (.move (.tmp 13)) none, SO.mk (some 55) (.faddr 45 (.tmp 10) 3) none, SO.mk (some 56) (.load 3 (.tmp 55)) none, SO.mk (some 57) (.bin .lss 3 (.tmp 54) (.tmp 56)) none]) (.keep [57, 13, 2, 3, 10, 12, 4, 5] c17_15)) (.keep [12, 13, 2, 3, 10, 4, 5] c17_24))
theorem u17_25 : type_of% (@swc _ _ c17_25.eq_1) := @swc _ _ c17_25.eq_1
def c17_26 : SC := (.block 0 (.loop (.keep [13, 2, 3, 10, 12, 4, 5] c17_25)))
theorem u17_26 : type_of% (@swc _ _ c17_26.eq_1) := @swc _ _ c17_26.eq_1
def c17_27 : SC := (.cond (.tmp 84) .skip (.exit 2))
theorem u17_27 : type_of% (@swc _ _ c17_27.eq_1) := @swc _ _ c17_27.eq_1
def o17_28 : List SO := ((SO.mk (some 20) (.move (.tmp 101)) none) :: (SO.mk (some 21) (.move (.tmp 102)) none) :: [])
theorem v17_28 : type_of% (@swl _ _ o17_28.eq_1) := @swl _ _ o17_28.eq_1
def o17_29 : List SO := ((SO.mk (some 101) (.extract (.tmp 85) 2) none) :: (SO.mk (some 102) (.extract (.tmp 85) 3) none) :: (SO.mk (some 18) (.move (.tmp 99)) none) :: (SO.mk (some 19) (.move (.tmp 100)) none) :: o17_28)
theorem v17_29 : type_of% (@swl _ _ o17_29.eq_1) := @swl _ _ o17_29.eq_1
def o17_30 : List SO := ((SO.mk (some 98) (.call 35 [(.tmp 86), (.tmp 87), (.tmp 89), (.tmp 91), (.tmp 92), (.tmp 97)]) none) :: (SO.mk (some 85) (.move (.tmp 98)) none) :: (SO.mk (some 99) (.extract (.tmp 85) 0) none) :: (SO.mk (some 100) (.extract (.tmp 85) 1) none) :: o17_29)
theorem v17_30 : type_of% (@swl _ _ o17_30.eq_1) := @swl _ _ o17_30.eq_1
def o17_31 : List SO := ((SO.mk (some 94) (.load 3 (.tmp 93)) none) :: (SO.mk (some 95) (.faddr 45 (.tmp 10) 8) none) :: (SO.mk (some 96) (.load 3 (.tmp 95)) none) :: (SO.mk (some 97) (.bin .sub 3 (.tmp 94) (.tmp 96)) none) :: o17_30)
theorem v17_31 : type_of% (@swl _ _ o17_31.eq_1) := @swl _ _ o17_31.eq_1
def o17_32 : List SO := ((SO.mk (some 90) (.faddr 45 (.tmp 10) 7) none) :: (SO.mk (some 91) (.load 3 (.tmp 90)) none) :: (SO.mk (some 92) (.move (.tmp 17)) none) :: (SO.mk (some 93) (.faddr 23 (.tmp 2) 0) none) :: o17_31)
theorem v17_32 : type_of% (@swl _ _ o17_32.eq_1) := @swl _ _ o17_32.eq_1
def c17_33 : SC := (.cond (.tmp 104) (.exit 2) .skip)
theorem u17_33 : type_of% (@swc _ _ c17_33.eq_1) := @swc _ _ c17_33.eq_1
def o17_34 : List SO := ((SO.mk (some 121) (.load 3 (.tmp 120)) none) :: (SO.mk (some 122) (.bin .add 3 (.tmp 121) (.const (Value.int .i64 1))) none) :: (SO.mk (some 123) (.move (.tmp 20)) none) :: (SO.mk (some 124) (.faddr 45 (.tmp 10) 6) none) :: [])
theorem v17_34 : type_of% (@swd _ _ o17_34.eq_1) := @swd _ _ o17_34.eq_1
def o17_35 : List SO := ((SO.mk (some 117) (.load 3 (.tmp 116)) none) :: (SO.mk (some 118) (.move (.tmp 19)) none) :: (SO.mk (some 119) (.bin .add 3 (.tmp 117) (.tmp 118)) none) :: (SO.mk (some 120) (.faddr 45 (.tmp 10) 7) none) :: o17_34)
theorem v17_35 : type_of% (@swd _ _ o17_35.eq_1) := @swd _ _ o17_35.eq_1
def o17_36 : List SO := ((SO.mk (some 113) (.faddr 23 (.tmp 2) 0) none) :: (SO.mk (some 114) (.load 3 (.tmp 113)) none) :: (SO.mk (some 115) (.bin .rem 3 (.tmp 112) (.tmp 114)) none) :: (SO.mk (some 116) (.faddr 45 (.tmp 10) 8) none) :: o17_35)
theorem v17_36 : type_of% (@swd _ _ o17_36.eq_1) := @swd _ _ o17_36.eq_1
def o17_37 : List SO := ((SO.mk (some 109) (.faddr 45 (.tmp 10) 6) none) :: (SO.mk (some 110) (.load 3 (.tmp 109)) none) :: (SO.mk (some 111) (.move (.tmp 19)) none) :: (SO.mk (some 112) (.bin .add 3 (.tmp 110) (.tmp 111)) none) :: o17_36)
theorem v17_37 : type_of% (@swd _ _ o17_37.eq_1) := @swd _ _ o17_37.eq_1
theorem m17_37 (B : Nat) : mkNames B o17_37 = [] := (rfl)
def o17_38 : List SO := ((SO.mk none (.store 3 (.tmp 126) (.tmp 122)) none) :: (SO.mk (some 17) (.move (.tmp 123)) none) :: [])
theorem v17_38 : type_of% (@swl _ _ o17_38.eq_1) := @swl _ _ o17_38.eq_1
def c17_39 : SC := (.dreg false o17_37 ((SO.mk none (.store 3 (.tmp 124) (.tmp 115)) none) :: (SO.mk (some 125) (.faddr 45 (.tmp 10) 8) none) :: (SO.mk none (.store 3 (.tmp 125) (.tmp 119)) none) :: (SO.mk (some 126) (.faddr 45 (.tmp 10) 7) none) :: o17_38))
theorem u17_39 : type_of% (@swc _ _ c17_39.eq_1) := @swc _ _ c17_39.eq_1
def c17_40 : SC := (.seq (.reg [SO.mk (some 105) (.move (.tmp 16)) none, SO.mk (some 106) (.move (.tmp 18)) none, SO.mk (some 107) (.bslice 24 1 [(0 , (.tmp 106))]) none, SO.mk (some 108) (.app 24 24 (.tmp 105) (.tmp 107)) none, SO.mk (some 16) (.move (.tmp 108)) none]) (.keep [19, 20, 2, 3, 10, 12, 16, 4, 5] c17_39))
theorem u17_40 : type_of% (@swc _ _ c17_40.eq_1) := @swc _ _ c17_40.eq_1
def c17_41 : SC := (.seq (.seq (.reg [SO.mk (some 103) (.move (.tmp 21)) none, SO.mk (some 104) (.un .not (.tmp 103)) none]) (.keep [104, 16, 18, 19, 20, 2, 3, 10, 12, 4, 5] c17_33)) (.keep [16, 18, 19, 20, 2, 3, 10, 12, 4, 5] c17_40))
theorem u17_41 : type_of% (@swc _ _ c17_41.eq_1) := @swc _ _ c17_41.eq_1
def c17_42 : SC := (.block 3 (.seq (.reg ((SO.mk (some 86) (.load 23 (.tmp 2)) none) :: (SO.mk (some 87) (.load 28 (.tmp 3)) none) :: (SO.mk (some 88) (.faddr 45 (.tmp 10) 6) none) :: (SO.mk (some 89) (.load 3 (.tmp 88)) none) :: o17_32)) (.keep [21, 16, 18, 19, 20, 2, 3, 10, 12, 4, 5] c17_41)))
theorem u17_42 : type_of% (@swc _ _ c17_42.eq_1) := @swc _ _ c17_42.eq_1
def c17_43 : SC := (.seq (.seq (.reg [SO.mk (some 82) (.faddr 45 (.tmp 10) 7) none, SO.mk (some 83) (.load 3 (.tmp 82)) none, SO.mk (some 84) (.bin .lss 3 (.tmp 83) (.const (Value.int .i64 1048576))) none]) (.keep [84, 17, 2, 3, 10, 12, 16, 4, 5] c17_27)) (.keep [17, 16, 2, 3, 10, 12, 4, 5] c17_42))
theorem u17_43 : type_of% (@swc _ _ c17_43.eq_1) := @swc _ _ c17_43.eq_1
def c17_44 : SC := (.block 2 (.loop (.keep [17, 2, 3, 10, 12, 16, 4, 5] c17_43)))
theorem u17_44 : type_of% (@swc _ _ c17_44.eq_1) := @swc _ _ c17_44.eq_1
def o17_45 : List SO := ((SO.mk (some 143) (.load 45 (.tmp 10)) none) :: (SO.mk (some 144) (.call 37 [(.tmp 143)]) none) :: [])
theorem v17_45 : type_of% (@swd _ _ o17_45.eq_1) := @swd _ _ o17_45.eq_1
def o17_46 : List SO := ((SO.mk (some 139) (.move (.tmp 22)) none) :: (SO.mk (some 140) (.faddr 45 (.tmp 10) 0) none) :: (SO.mk (some 141) (.load 3 (.tmp 140)) none) :: (SO.mk (some 142) (.bin .rem 3 (.tmp 141) (.const (Value.int .i64 2))) none) :: o17_45)
theorem v17_46 : type_of% (@swd _ _ o17_46.eq_1) := @swd _ _ o17_46.eq_1
theorem m17_46 (B : Nat) : mkNames B o17_46 = [] := (rfl)
def o17_47 : List SO := ((SO.mk (some 24) (.alloc 45) none) :: (SO.mk none (.store 28 (.tmp 23) (.tmp 152)) none) :: (SO.mk none (.store 45 (.tmp 24) (.tmp 153)) none) :: (SO.mk (some 25) (.move (.tmp 154)) none) :: [])
theorem v17_47 : type_of% (@swl _ _ o17_47.eq_1) := @swl _ _ o17_47.eq_1
def o17_48 : List SO := ((SO.mk (some 152) (.extract (.tmp 148) 0) none) :: (SO.mk (some 153) (.extract (.tmp 148) 1) none) :: (SO.mk (some 154) (.extract (.tmp 148) 2) none) :: (SO.mk (some 23) (.alloc 28) none) :: o17_47)
theorem v17_48 : type_of% (@swl _ _ o17_48.eq_1) := @swl _ _ o17_48.eq_1
def c17_49 : SC := (.seq (.dreg true [SO.mk (some 157) (.load 28 (.tmp 23)) none, SO.mk (some 158) (.load 45 (.tmp 24)) none, SO.mk (some 159) (.move (.tmp 25)) none] [SO.mk none (.store 28 (.tmp 4) (.tmp 157)) none, SO.mk none (.store 45 (.tmp 5) (.tmp 158)) none, SO.mk (some 6) (.move (.const (Value.slice none 0 0))) none, SO.mk (some 7) (.move (.const (Value.slice none 0 0))) none, SO.mk (some 8) (.move (.tmp 159)) none]) (.keep [4, 5, 6, 7, 8] .ret))
theorem u17_49 : type_of% (@swc _ _ c17_49.eq_1) := @swc _ _ c17_49.eq_1
def c17_50 : SC := (.cond (.tmp 156) c17_49 .skip)
theorem u17_50 : type_of% (@swc _ _ c17_50.eq_1) := @swc _ _ c17_50.eq_1
def c17_51 : SC := (.seq (.dreg true [SO.mk (some 160) (.load 28 (.tmp 23)) none, SO.mk (some 161) (.load 45 (.tmp 24)) none, SO.mk (some 162) (.move (.tmp 12)) none, SO.mk (some 163) (.move (.tmp 16)) none] [SO.mk none (.store 28 (.tmp 4) (.tmp 160)) none, SO.mk none (.store 45 (.tmp 5) (.tmp 161)) none, SO.mk (some 6) (.move (.tmp 162)) none, SO.mk (some 7) (.move (.tmp 163)) none, SO.mk (some 8) (.move (.const (Value.int .i64 0))) none]) (.keep [4, 5, 6, 7, 8] .ret))
theorem u17_51 : type_of% (@swc _ _ c17_51.eq_1) := @swc _ _ c17_51.eq_1
def c17_52 : SC := (.seq (.seq (.reg [SO.mk (some 155) (.move (.tmp 25)) none, SO.mk (some 156) (.bin .neq 30 (.tmp 155) (.const (Value.int .i64 0))) none]) (.keep [156, 25, 23, 24, 12, 16, 4, 5] c17_50)) (.keep [23, 24, 12, 16, 4, 5] c17_51))
theorem u17_52 : type_of% (@swc _ _ c17_52.eq_1) := @swc _ _ c17_52.eq_1
def c17_53 : SC := (.seq (.reg ((SO.mk (some 149) (.move (.tmp 22)) none) :: (SO.mk (some 150) (.load 45 (.tmp 10)) none) :: (SO.mk (some 151) (.call 39 [(.tmp 149), (.tmp 150)]) none) :: (SO.mk (some 148) (.move (.tmp 151)) none) :: o17_48)) (.keep [25, 23, 24, 12, 16, 4, 5] c17_52))
theorem u17_53 : type_of% (@swc _ _ c17_53.eq_1) := @swc _ _ c17_53.eq_1
def c17_54 : SC := (.seq (.reg [SO.mk (some 146) (.move (.tmp 22)) none, SO.mk (some 147) (.call 38 [(.tmp 146)]) none]) (.keep [22, 10, 12, 16, 4, 5] c17_53))
theorem u17_54 : type_of% (@swc _ _ c17_54.eq_1) := @swc _ _ c17_54.eq_1
def c17_55 : SC := (.seq (.dreg false o17_46 [SO.mk (some 145) (.call 36 [(.tmp 139), (.tmp 142), (.tmp 144)]) none]) (.keep [22, 10, 12, 16, 4, 5] c17_54))
theorem u17_55 : type_of% (@swc _ _ c17_55.eq_1) := @swc _ _ c17_55.eq_1
def c17_56 : SC := (.seq (.reg [SO.mk (some 135) (.load 23 (.tmp 2)) none, SO.mk (some 136) (.load 28 (.tmp 3)) none, SO.mk (some 137) (.build 72 [(0 , (.tmp 135)), (1 , (.tmp 136))]) none, SO.mk (some 138) (.box 72 (.tmp 137)) none, SO.mk (some 22) (.move (.tmp 138)) none]) (.keep [22, 10, 12, 16, 4, 5] c17_55))
theorem u17_56 : type_of% (@swc _ _ c17_56.eq_1) := @swc _ _ c17_56.eq_1
def c17_57 : SC := (.seq (.reg [SO.mk (some 131) (.faddr 45 (.tmp 10) 1) none, SO.mk (some 132) (.load 3 (.tmp 131)) none, SO.mk (some 133) (.bin .add 3 (.tmp 132) (.const (Value.int .i64 1))) none, SO.mk (some 134) (.faddr 45 (.tmp 10) 1) none, SO.mk none (.store 3 (.tmp 134) (.tmp 133)) none]) (.keep [2, 3, 10, 12, 16, 4, 5] c17_56))
theorem u17_57 : type_of% (@swc _ _ c17_57.eq_1) := @swc _ _ c17_57.eq_1
def c17_58 : SC := (.seq (.reg [SO.mk (some 127) (.faddr 45 (.tmp 10) 0) none, SO.mk (some 128) (.load 3 (.tmp 127)) none, SO.mk (some 129) (.bin .add 3 (.tmp 128) (.const (Value.int .i64 1))) none, SO.mk (some 130) (.faddr 45 (.tmp 10) 0) none, SO.mk none (.store 3 (.tmp 130) (.tmp 129)) none]) (.keep [2, 3, 10, 12, 16, 4, 5] c17_57))
theorem u17_58 : type_of% (@swc _ _ c17_58.eq_1) := @swc _ _ c17_58.eq_1
def c17_59 : SC := (.seq (.seq (.reg [SO.mk (some 17) (.move (.const (Value.int .i64 0))) none]) (.keep [17, 2, 3, 10, 12, 16, 4, 5] c17_44)) (.keep [2, 3, 10, 12, 16, 4, 5] c17_58))
theorem u17_59 : type_of% (@swc _ _ c17_59.eq_1) := @swc _ _ c17_59.eq_1
def c17_60 : SC := (.seq (.reg [SO.mk (some 16) (.move (.const (Value.slice none 0 0))) none]) (.keep [2, 3, 10, 12, 16, 4, 5] c17_59))
theorem u17_60 : type_of% (@swc _ _ c17_60.eq_1) := @swc _ _ c17_60.eq_1
def c17_61 : SC := (.seq (.seq (.reg [SO.mk (some 13) (.move (.const (Value.int .i64 0))) none]) (.keep [13, 2, 3, 10, 12, 4, 5] c17_26)) (.keep [2, 3, 10, 12, 4, 5] c17_60))
theorem u17_61 : type_of% (@swc _ _ c17_61.eq_1) := @swc _ _ c17_61.eq_1
def c17_62 : SC := (.seq (.reg [SO.mk (some 12) (.move (.const (Value.slice none 0 0))) none]) (.keep [2, 3, 10, 12, 4, 5] c17_61))
theorem u17_62 : type_of% (@swc _ _ c17_62.eq_1) := @swc _ _ c17_62.eq_1
def c17_63 : SC := (.seq (.seq (.reg ((SO.mk (some 44) (.faddr 45 (.tmp 10) 0) none) :: (SO.mk (some 45) (.load 3 (.tmp 44)) none) :: (SO.mk (some 46) (.bin .eql 3 (.tmp 45) (.const (Value.int .i64 1048576))) none) :: (SO.mk (some 47) (.move (.tmp 46)) none) :: o17_11)) (.keep [51, 2, 3, 10, 4, 5] c17_14)) (.keep [2, 3, 10, 4, 5] c17_62))
theorem u17_63 : type_of% (@swc _ _ c17_63.eq_1) := @swc _ _ c17_63.eq_1
def c17_64 : SC := (.seq (.seq (.reg [SO.mk (some 40) (.move (.tmp 11)) none, SO.mk (some 41) (.un .not (.tmp 40)) none]) (.keep [41, 2, 3, 10, 4, 5] c17_10)) (.keep [2, 3, 10, 4, 5] c17_63))
theorem u17_64 : type_of% (@swc _ _ c17_64.eq_1) := @swc _ _ c17_64.eq_1
def c17_65 : SC := (.seq (.reg ((SO.mk (some 35) (.load 23 (.tmp 2)) none) :: (SO.mk (some 36) (.load 28 (.tmp 3)) none) :: (SO.mk (some 37) (.call 33 [(.tmp 35), (.tmp 36)]) none) :: (SO.mk (some 34) (.move (.tmp 37)) none) :: o17_7)) (.keep [11, 2, 3, 10, 4, 5] c17_64))
theorem u17_65 : type_of% (@swc _ _ c17_65.eq_1) := @swc _ _ c17_65.eq_1
def c17_66 : SC := (.seq (.seq (.reg [SO.mk (some 26) (.load 23 (.tmp 2)) none, SO.mk (some 27) (.load 28 (.tmp 3)) none, SO.mk (some 28) (.call 20 [(.tmp 26), (.tmp 27)]) none, SO.mk (some 9) (.move (.tmp 28)) none]) (.keep [9, 2, 3, 4, 5] c17_5)) (.keep [2, 3, 4, 5] c17_65))
theorem u17_66 : type_of% (@swc _ _ c17_66.eq_1) := @swc _ _ c17_66.eq_1
def c17 : SC := (.seq (.reg ((SO.mk (some 2) (.box 23 (.tmp 0)) none) :: (SO.mk (some 3) (.box 28 (.tmp 1)) none) :: (SO.mk (some 4) (.alloc 28) none) :: (SO.mk (some 5) (.alloc 45) none) :: o17_1)) (.keep [2, 3, 4, 5] c17_66))
theorem c17_eq : annC Try.f17 = some c17 := by kernel_rfl
theorem r17 : Try.f17.results.toList = [.cell 4 28, .cell 5 45, .tmp 6, .tmp 7, .tmp 8] := by kernel_rfl
theorem e17 : enters Try.prog 17 = true := by kernel_rfl
end Go.Proofs.Ytalhjhmphdgaoaa
namespace Go.Proofs.Ytalhjhmphdgaoaa
open Go.RowKit
set_option maxHeartbeats 4000000
set_option maxRecDepth 20000
attribute [local irreducible] SW SWL SWLn SWD SEcall SEcallv SDv SE SO1 SOg ACalls ACallv Wk EndV
set_option linter.unusedSimpArgs false
set_option linter.unusedVariables false
theorem transaction_q (g : GeoD) (d : DevD) (s : OpS) (k : Nat) (h1 : devF g d = 0) (h : OpInv g s k) : Pure Try.prog 35 [g.av, d.av, I s.place, I s.next, I s.low, I (g.ring - s.used)] (.tup [.d (bytes (tB g d s.place (opT g d s))), I (tK (opT g d s)), I (tE g d s.place (opT g d s)), Bo (opT g d s).isSome]) := by
  have hB := geoB (okR h1).geo
  have h2 := hB.r2
  obtain ⟨p1, p2, u1, u2, n1, n2, al⟩ := h
  have := transaction_p g d s.place s.next s.low (g.ring - s.used).toNat h1 p1 p2 (by omega)
  rw [show (((g.ring - s.used).toNat : Nat) : Int) = g.ring - s.used by omega] at this
  exact this
theorem superO_p (j : JrnD) (s : OpS) : Pure Try.prog 37 [.agg [I (j.gen + 1), I (j.epoch + 1), I j.area, I j.length, I j.start, I j.first, I s.place, I s.next, I s.used]] (.d (bytes (superB (jE j s)))) := super_p (jE j s)
theorem hendO (g : GeoD) (t : DevD × Int) (j : JrnD) (s : OpS) (n : Nat) : PureC (fun σ => σ n = handO g t) Try.prog 39 [.lp n 0, .agg [I (j.gen + 1), I (j.epoch + 1), I j.area, I j.length, I j.start, I j.first, I s.place, I s.next, I s.used]] (doneV t (jE j s)) := hend_p g t (jE j s) n
attribute [local irreducible] handO runF endR jEnd superB posO arV snB trR tB tK tE
theorem hputO (g : GeoD) (d : DevD) (j : JrnD) (s : OpS) (hw : d.fit) (B : Nat) (σ : Sto) (m : Nat) (hm : m < B) (hσ : σ m = handO g (d, 0)) : ACalls Try.prog 36 [.lp m 0, I ((j.gen + 1).tmod 2), .d (.ro ((superB (jE j s)).map by_))] σ B [] (fun v σ' => v = .tup [] ∧ σ' = sto [(m, handO g (oS1 g d (jE j s)))] σ) := by
  unfold oS1
  exact hput_p g (d, 0) _ _ hw B σ m hm hσ
theorem hflushO (g : GeoD) (d : DevD) (J : JrnD) (hw : d.fit) (B : Nat) (σ : Sto) (m : Nat) (hm : m < B) (hσ : σ m = handO g (oS1 g d J)) : ACalls Try.prog 38 [.lp m 0] σ B [] (fun v σ' => v = .tup [] ∧ σ' = sto [(m, handO g (oS2 g d J))] σ) := by
  unfold oS2
  exact hflush_p g (oS1 g d J) (by unfold oS1; exact stepF_fit (s := (d, 0)) hw _) B σ m hm hσ
attribute [local irreducible] oS1 oS2
theorem opGo_yes {g : GeoD} {d : DevD} {s : OpS} (h1 : decide (s.next < 1048576) = true) (h2 : (!(opT g d s).isSome) = false) : opGo g d s = true := by
  unfold opGo; rw [h1]; simpa using h2
theorem opGo_no1 {g : GeoD} {d : DevD} {s : OpS} (h1 : decide (s.next < 1048576) = false) : opGo g d s = false := by
  unfold opGo; rw [h1]; rfl
theorem opGo_no2 {g : GeoD} {d : DevD} {s : OpS} (h2 : (!(opT g d s).isSome) = true) : opGo g d s = false := by
  unfold opGo; have : (opT g d s).isSome = false := by simpa using h2
  rw [this, Bool.and_false]
theorem open_ok (g : GeoD) (d : DevD) (hwf : d.fit) (h1 : devF g d = 0) (hn : (newK g d 2).gen > 0) (h3 : ¬ ((newK g d 2).gen = 1048576)) (h4 : ¬ ((newK g d 2).epoch = 1048576)) : Pure Try.prog 17 [g.av, d.av] (openV g d (newK g d 2) (opF g d 61 (op0 (newK g d 2)))) := by
  refine pureY_of follows Try.func17 c17_eq r17 (Nat.le_of_ble_eq_true rfl) fun B σ hcl hsz => ?_
  clear hsz
  have hN := newest_p g d (fun k hk => getR_64 h1 (by omega) (by have := (okR h1).len; have hB := geoB (okR h1).geo; have := hB.r1; have := hB.a1; have := hB.h1; omega))
  have hg := (okR h1).geo
  have hB := geoB hg
  have hJ := newK_ok hg 2 hn
  generalize hj0 : newK g d 2 = j at *
  have hI0 := op0_ok hB hJ
  have hT := fun (s : OpS) (k : Nat) (h : OpInv g s k) => transaction_q g d s k h1 h
  obtain ⟨gr1, gr2, ga1, ga2, gh1, gh2⟩ := id hB
  obtain ⟨g1, g2, e1, e2, f1, n1, n2, a1, a2, l1, l2, s1, s2, u1, u2, pp⟩ := id hJ.ok
  have q0 : (g.ring = 0) = False := eq_false (by omega)
  have q1 : decide (j.gen > 0) = true := by simpa using hn
  have q3 : (j.gen == 1048576) = false := by simpa using h3
  have q3' : (j.epoch == 1048576) = false := by simpa using h4
  have q4 : IntKind.i64.wrap (j.gen + 1) = j.gen + 1 := IntWalk.i64_in _ (by omega)
  have q5 : IntKind.i64.wrap (j.epoch + 1) = j.epoch + 1 := IntWalk.i64_in _ (by omega)
  obtain ⟨m1, m2⟩ := mO_facts l1
  have hl : j.length ≤ 5120 := by omega
  have t1 : ∀ i : Nat, decide ((i : Int) * 64 < j.length) = true → IntKind.i64.wrap (((i : Int) * 64).tdiv 64) = (i : Int) := fun i hi => by
    have := of_decide_eq_true hi
    rw [Int.tdiv_eq_ediv_of_nonneg (by omega), show (i : Int) * 64 / 64 = (i : Int) by omega]
    exact IntWalk.i64_in _ (by omega)
  have t2 : ∀ i : Nat, IntKind.i64.wrap (arV g j.area + (i : Int)) = posO g j i := fun i => by unfold posO; rfl
  have t3 : ∀ i : Nat, decide ((i : Int) * 64 < j.length) = true → IntKind.i64.wrap ((i : Int) * 64 + 64) = (i : Int) * 64 + 64 := fun i hi => by
    have := of_decide_eq_true hi
    exact IntWalk.i64_in _ (by omega)
  have t4 : ∀ i : Nat, decide ((i : Int) * 64 < j.length) = true → IntKind.i64.wrap (j.length - (i : Int) * 64) = j.length - (i : Int) * 64 := fun i hi => by
    have := of_decide_eq_true hi
    exact IntWalk.i64_in _ (by omega)
  have t5 : ∀ i : Nat, (if decide (j.length - (i : Int) * 64 < 64) = true then j.length - (i : Int) * 64 else 64) = snM j i := fun i => by unfold snM; rfl
  have t6 : ∀ i : Nat, decide ((i : Int) * 64 < j.length) = true → (0 ≤ snM j i) = True := fun i hi => eq_true (snM_b (of_decide_eq_true hi)).1
  have t7 : ∀ i : Nat, decide ((i : Int) * 64 < j.length) = true → (snM j i ≤ 64) = True := fun i hi => eq_true (snM_b (of_decide_eq_true hi)).2
  have t8 : ∀ i : Nat, decide ((i : Int) * 64 < j.length) = true → (getR g d (posO g j i)).length = 64 := fun i hi => sn_64 h1 hJ.ok (of_decide_eq_true hi)
  obtain ⟨s0, hs0⟩ : ∃ s, op0 j = s := ⟨_, rfl⟩
  have z1 : j.place = s0.place := by rw [← hs0]; rfl
  have z2 : j.used = s0.used := by rw [← hs0]; rfl
  have z3 : j.next = s0.next := by rw [← hs0]; rfl
  have z4 : s0.low = 0 := by rw [← hs0]; rfl
  have z5 : s0.all = [] := by rw [← hs0]; rfl
  rw [hs0] at hI0 ⊢
  obtain ⟨R, hR⟩ : ∃ R, opF g d (61 - 0) (opK g d s0 0) = R := ⟨_, rfl⟩
  have hR' : opF g d 61 s0 = R := hR
  rw [hR']
  have w1 : ∀ v, OpInv g (opK g d s0 v) v → IntKind.i64.wrap (g.ring - (opK g d s0 v).used) = g.ring - (opK g d s0 v).used := fun v h => by
    have := h.u1; have := h.u2
    exact IntWalk.i64_in _ (by omega)
  have w2 : ∀ v, OpInv g (opK g d s0 v) v → IntKind.i64.wrap ((opK g d s0 v).place + tK (opT g d (opK g d s0 v))) = (opK g d s0 v).place + tK (opT g d (opK g d s0 v)) := fun v h => by
    have h2 := h.p1; have h3 := h.p2; have h4 := h.u1
    have h5 := tK_b (g := g) (d := d) (place := (opK g d s0 v).place) (n := (opK g d s0 v).next) (low := (opK g d s0 v).low) (room := (g.ring - (opK g d s0 v).used).toNat)
    have h6 : 0 ≤ tK (opT g d (opK g d s0 v)) ∧ tK (opT g d (opK g d s0 v)) ≤ (g.ring - (opK g d s0 v).used).toNat := h5
    exact IntWalk.i64_in _ (by omega)
  have w3 : ∀ v, OpInv g (opK g d s0 v) v → IntKind.i64.wrap ((opK g d s0 v).used + tK (opT g d (opK g d s0 v))) = (opK g d s0 v).used + tK (opT g d (opK g d s0 v)) := fun v h => by
    have h2 := h.u1; have h3 := h.u2
    have h5 := tK_b (g := g) (d := d) (place := (opK g d s0 v).place) (n := (opK g d s0 v).next) (low := (opK g d s0 v).low) (room := (g.ring - (opK g d s0 v).used).toNat)
    have h6 : 0 ≤ tK (opT g d (opK g d s0 v)) ∧ tK (opT g d (opK g d s0 v)) ≤ (g.ring - (opK g d s0 v).used).toNat := h5
    exact IntWalk.i64_in _ (by omega)
  have w4 : ∀ v, OpInv g (opK g d s0 v) v → IntKind.i64.wrap ((opK g d s0 v).next + 1) = (opK g d s0 v).next + 1 := fun v h => by
    have := h.n1; have := h.n2
    exact IntWalk.i64_in _ (by omega)
  have w5 : ∀ v, OpInv g (opK g d s0 v) v → (opK g d s0 v).all.length = v := fun v h => h.al
  have w6 : ∀ v, OpInv g (opK g d s0 v) v → List.take v (opK g d s0 v).all = (opK g d s0 v).all := fun v h => List.take_of_length_le (by rw [h.al]; omega)
  clear hg gr1 gr2 ga1 ga2 gh1 gh2 g1 g2 e1 e2 f1 n1 n2 a1 a2 l1 l2 s1 s2 u1 u2 pp h3 h4 hn hR'
  repeat' (first | (simp -implicitDefEqProofs only [*, contN, contC, Nat.reduceBEq, Bool.or_false, Bool.or_true, Bool.false_or, Bool.true_or, Bool.not_true, Bool.not_false, w_skip, w_ret, w_exit, w_reg, w_dreg, w_seq, SK_n, SK_r, SK_x, w_keep, w_block, w_cond, w_nil, w_cons, w_consg, w_nnil, w_ncons, w_dnil, w_dcons, w_dconsg, HK_app, HD_app, HQ_n, HQ_r, HQ_x, HQ_bn, HQ_br, HQ_bx, HQ_en, HQ_er, HQ_ex, CondB_true, CondB_false, SO1, w_sdv, SDe_alloc, SDe_box, SDe_bslice, SDe_app, true_imp_iff, false_imp_iff, and_false, false_and, not_false_eq_true, not_true_eq_false, addN, mkNames, killT, killD, killO, List.foldl_nil, List.foldl_cons, List.append_nil, List.nil_append, List.cons_append, GuardS_true, GuardS_false, GuardD_true, GuardD_false, DK_true, DK_false, lt_self_add, le_self_add, decide_true, decide_false, Bool.false_eq_true, Bool.true_eq_false, Nat.add_left_cancel_iff, SE, SEalloc, SEbox, SEstore, w_bs, SEbl, SEfz, SEbs0, fzName, osOf, AV.fz1, w_app, w_mk, aev, opd, Fr.get, putO, Fr.norm, List.map_cons, List.map_nil, with1, with2, onInt, AV.lit, entry, ↓reduceIte, Nat.reduceEqDiff, Nat.reduceAdd, reduceCtorEq, true_and, and_true, Option.map_some, Option.map_none, Option.bind_some, Option.bind_none, cond_true, cond_false, binV, unV, fieldV, loadV, sto, cellsAV, newF, newL, Fr.map, Loc.kill, Loc.set, AV.kill, AV.mapN, AV.mapNL, List.filter_nil, List.filter_cons, allP, EndV, retV, resV, resL, frz, dropL, AV.pick, nilV, tupV, imp_self, ne_eq, Int.cast_ofNat_Int, Int.reduceLT, Int.reduceToNat, List.getD_cons_zero, List.getD_cons_succ, bsliceV, buildV, afill, repl, chunk, rvs, AV.rv, RV.nrm, List.getElem?_nil, List.append_assoc, Nat.reduceMul, Nat.reducePow, Nat.zero_lt_succ, Nat.zero_add, Nat.add_zero, List.length_cons, List.length_nil, Nat.reduceLeDiff, Nat.le_refl, List.take_succ_cons, List.take_zero, List.drop_succ_cons, List.drop_zero, indexV, lenV, rowOf_mapD, rowOf_mapI, rowOf_mapA, List.length_map, Int.toNat_natCast, List.getElem?_cons_zero, List.getElem?_cons_succ, and_self, implies_true, if_true, if_false, HQ_zn, HQ_zr, HQ_wn, HQ_wr, AV.nz, AV.nzL, RV.nrm, SEbin, SEnil, nilK, srcV, dstV, appName, List.length_append, Nat.mul_one, take_map_len, take_map_app, List.getElem?_cons_zero, List.map_append, SEmkmap, SEmset, mgetV, kvOf, getM, setM, c17, r17, v17_1, v17_2, u17_3, u17_4, u17_5, v17_6, v17_7, v17_8, u17_9, u17_10, v17_11, v17_12, u17_13, u17_14, u17_15, v17_16, v17_17, v17_18, v17_19, m17_19, v17_20, v17_21, u17_22, u17_23, u17_24, u17_25, u17_26, u17_27, v17_28, v17_29, v17_30, v17_31, v17_32, u17_33, v17_34, v17_35, v17_36, v17_37, m17_37, v17_38, u17_39, u17_40, u17_41, u17_42, u17_43, u17_44, v17_45, v17_46, m17_46, v17_47, v17_48, u17_49, u17_50, u17_51, u17_52, u17_53, u17_54, u17_55, u17_56, u17_57, u17_58, u17_59, u17_60, u17_61, u17_62, u17_63, u17_64, u17_65, u17_66, ty23, ty28, ty45, ty30, ty3, ty29, ty24, ty72, ty5, aokB, aokD, aokA, GeoD.av, GeoD.cells, DevD.av, DevD.cells, JrnD.av, JrnD.cells, bytes, ↓handO_allN, ↓handO_kill, ↓handO_nz, hand0, snB_0, opK_0, HQ_yn, HQ_yr, Loc.nz, AO.nz, bne_self_eq_false, doneV, minW2, bnd, sliceV, Option.getD_some, Option.getD_none, Rows_byV, ← List.map_take, ← List.map_drop, Int.zero_mul, Int.natCast_zero, z4, z5, List.take_length, Nat.sub_zero]) | (with_reducible refine And.intro ?_ ?_) | (refine call_ro e20 ( check_p g d) rfl ?_ ?_ ?_ ?_) | (refine gcall_ro e20 ( check_p g d) rfl ?_ ?_ ?_ ?_) | (refine dcall_ro e20 ( check_p g d) rfl ?_ ?_ ?_ ?_) | (refine gdcall_ro rfl e20 ( check_p g d) rfl ?_ ?_ ?_ ?_) | (refine call_ro e33 ( hN) rfl ?_ ?_ ?_ ?_) | (refine gcall_ro e33 ( hN) rfl ?_ ?_ ?_ ?_) | (refine dcall_ro e33 ( hN) rfl ?_ ?_ ?_ ?_) | (refine gdcall_ro rfl e33 ( hN) rfl ?_ ?_ ?_ ?_) | (refine call_ro e34 ( area_p g j.area) rfl ?_ ?_ ?_ ?_) | (refine gcall_ro e34 ( area_p g j.area) rfl ?_ ?_ ?_ ?_) | (refine dcall_ro e34 ( area_p g j.area) rfl ?_ ?_ ?_ ?_) | (refine gdcall_ro rfl e34 ( area_p g j.area) rfl ?_ ?_ ?_ ?_) | (refine call_ro e7 ( get_p g d (posO g j k)) rfl ?_ ?_ ?_ ?_) | (refine gcall_ro e7 ( get_p g d (posO g j k)) rfl ?_ ?_ ?_ ?_) | (refine dcall_ro e7 ( get_p g d (posO g j k)) rfl ?_ ?_ ?_ ?_) | (refine gdcall_ro rfl e7 ( get_p g d (posO g j k)) rfl ?_ ?_ ?_ ?_) | (refine call_ro e35 ( hT (opK g d s0 v) v hFv.2) rfl ?_ ?_ ?_ ?_) | (refine gcall_ro e35 ( hT (opK g d s0 v) v hFv.2) rfl ?_ ?_ ?_ ?_) | (refine dcall_ro e35 ( hT (opK g d s0 v) v hFv.2) rfl ?_ ?_ ?_ ?_) | (refine gdcall_ro rfl e35 ( hT (opK g d s0 v) v hFv.2) rfl ?_ ?_ ?_ ?_) | (refine call_ro e37 ( superO_p j (opK g d s0 v)) rfl ?_ ?_ ?_ ?_) | (refine gcall_ro e37 ( superO_p j (opK g d s0 v)) rfl ?_ ?_ ?_ ?_) | (refine dcall_ro e37 ( superO_p j (opK g d s0 v)) rfl ?_ ?_ ?_ ?_) | (refine gdcall_ro rfl e37 ( superO_p j (opK g d s0 v)) rfl ?_ ?_ ?_ ?_) | (refine call_own [] [(B + 138, handO g (oS1 g d (jE j (opK g d s0 v))))] e36 (hputO g d j (opK g d s0 v) hwf _ _ (B + 138) (by omega) (by simp [sto])) rfl ?_ ?_ ?_ ?_ ?_) | (refine call_own [] [(B + 138, handO g (oS2 g d (jE j (opK g d s0 v))))] e38 (hflushO g d (jE j (opK g d s0 v)) hwf _ _ (B + 138) (by omega) (by simp [sto])) rfl ?_ ?_ ?_ ?_ ?_) | (refine call_roC e39 ( hendO g (oS2 g d (jE j (opK g d s0 v))) j (opK g d s0 v) (B + 138)) rfl ?_ ?_ ?_ ?_ ?_) | (refine loop_nat (mO j) (fun _ => True) (fun k => [(13, I ((k : Int) * 64)), (2, .lp (B + 2) 0), (3, .lp (B + 3) 0), (10, .lp (B + 10) 0), (12, .os (B + 81) (snB g d j k).length), (4, .lp (B + 4) 0), (5, .lp (B + 5) 0)]) (fun k => [(B + 81, .arr 1 5 ((snB g d j k).map by_)), (B + 2, .box g.cells), (B + 3, .box d.cells), (B + 10, .box [I j.gen, I j.epoch, I j.area, I j.length, I j.start, I j.first, I s0.place, I s0.next, I s0.used]), (B + 4, .box [.d (.v (.slice none 0 0)), .d (.v (.slice none 0 0)), .d (.v (.slice none 0 0)), I 0]), (B + 5, .box [I 0, I 0, I 0, I 0, I 0, I 0, I 0, I 0, I 0])]) ?_ (Wk.trans (Wk.nameF (s := 12) (n := B + 81) (k := 1) (E := 5) rfl (by omega) (.inl (by omega)) (fun m => AO.kill_below (q := fun m => decide (m < B)) (by simp) _ (hcl m).1)) (Wk.keep hcl ?_ ?_ ?_)) fun k hk hF => ?_; rotate_left 1; (focus (simp [Fr.get, newF, Fr.map, AV.kill, AV.mapN, aokB, aokD, aokA, GeoD.av, GeoD.cells, DevD.av, DevD.cells, JrnD.av, JrnD.cells, bytes, ↓handO_allN, ↓handO_kill, ↓handO_nz, hand0, snB_0, opK_0, HQ_yn, HQ_yr, Loc.nz, AO.nz, bne_self_eq_false, doneV, minW2, bnd, sliceV, Option.getD_some, Option.getD_none, Rows_byV, ← List.map_take, ← List.map_drop, Int.zero_mul, Int.natCast_zero, z4, z5, List.take_length, Nat.sub_zero] <;> fail)); (focus (simp [sto, newL, Loc.kill, Loc.set, AO.kill, AV.kill, AV.mapN, aokB, aokD, aokA, GeoD.av, GeoD.cells, DevD.av, DevD.cells, JrnD.av, JrnD.cells, bytes, ↓handO_allN, ↓handO_kill, ↓handO_nz, hand0, snB_0, opK_0, HQ_yn, HQ_yr, Loc.nz, AO.nz, bne_self_eq_false, doneV, minW2, bnd, sliceV, Option.getD_some, Option.getD_none, Rows_byV, ← List.map_take, ← List.map_drop, Int.zero_mul, Int.natCast_zero, z4, z5, List.take_length, Nat.sub_zero] <;> fail)); (focus (simp [newL, Loc.kill, Loc.set, aokB, aokD, aokA, GeoD.av, GeoD.cells, DevD.av, DevD.cells, JrnD.av, JrnD.cells, bytes, ↓handO_allN, ↓handO_kill, ↓handO_nz, hand0, snB_0, opK_0, HQ_yn, HQ_yr, Loc.nz, AO.nz, bne_self_eq_false, doneV, minW2, bnd, sliceV, Option.getD_some, Option.getD_none, Rows_byV, ← List.map_take, ← List.map_drop, Int.zero_mul, Int.natCast_zero, z4, z5, List.take_length, Nat.sub_zero] <;> fail)); (try have hw : IntKind.i64.wrap ((k : Int) + 1) = (k : Int) + 1 := IntWalk.i64_in _ (by omega))) | (refine loop_nat (61) (fun v => opF g d (61 - v) (opK g d s0 v) = R ∧ OpInv g (opK g d s0 v) v) (fun v => [(17, I (opK g d s0 v).low), (2, .lp (B + 2) 0), (3, .lp (B + 3) 0), (10, .lp (B + 10) 0), (12, .os (B + 81) (snB g d j k).length), (16, .os (B + 108) v), (4, .lp (B + 4) 0), (5, .lp (B + 5) 0)]) (fun v => [(B + 108, .arr 1 29 ((opK g d s0 v).all.map secRow)), (B + 81, .arr 1 5 ((snB g d j k).map by_)), (B + 2, .box g.cells), (B + 3, .box d.cells), (B + 10, .box [I j.gen, I j.epoch, I j.area, I j.length, I j.start, I j.first, I (opK g d s0 v).place, I (opK g d s0 v).next, I (opK g d s0 v).used]), (B + 4, .box [.d (.v (.slice none 0 0)), .d (.v (.slice none 0 0)), .d (.v (.slice none 0 0)), I 0]), (B + 5, .box [I 0, I 0, I 0, I 0, I 0, I 0, I 0, I 0, I 0])]) ?_ (Wk.trans (Wk.nameF (s := 16) (n := B + 108) (k := 1) (E := 29) rfl (by omega) (.inl (by omega)) (fun m => AO.kill_below (q := fun m => decide (m < B)) (by simp) _ (hcl m).1)) (Wk.keep hcl ?_ ?_ ?_)) fun v hv hFv => ?_; rotate_left 1; (focus (simp [Fr.get, newF, Fr.map, AV.kill, AV.mapN, aokB, aokD, aokA, GeoD.av, GeoD.cells, DevD.av, DevD.cells, JrnD.av, JrnD.cells, bytes, ↓handO_allN, ↓handO_kill, ↓handO_nz, hand0, snB_0, opK_0, HQ_yn, HQ_yr, Loc.nz, AO.nz, bne_self_eq_false, doneV, minW2, bnd, sliceV, Option.getD_some, Option.getD_none, Rows_byV, ← List.map_take, ← List.map_drop, Int.zero_mul, Int.natCast_zero, z4, z5, List.take_length, Nat.sub_zero] <;> fail)); (focus (simp [sto, newL, Loc.kill, Loc.set, AO.kill, AV.kill, AV.mapN, aokB, aokD, aokA, GeoD.av, GeoD.cells, DevD.av, DevD.cells, JrnD.av, JrnD.cells, bytes, ↓handO_allN, ↓handO_kill, ↓handO_nz, hand0, snB_0, opK_0, HQ_yn, HQ_yr, Loc.nz, AO.nz, bne_self_eq_false, doneV, minW2, bnd, sliceV, Option.getD_some, Option.getD_none, Rows_byV, ← List.map_take, ← List.map_drop, Int.zero_mul, Int.natCast_zero, z4, z5, List.take_length, Nat.sub_zero] <;> fail)); (focus (simp [newL, Loc.kill, Loc.set, aokB, aokD, aokA, GeoD.av, GeoD.cells, DevD.av, DevD.cells, JrnD.av, JrnD.cells, bytes, ↓handO_allN, ↓handO_kill, ↓handO_nz, hand0, snB_0, opK_0, HQ_yn, HQ_yr, Loc.nz, AO.nz, bne_self_eq_false, doneV, minW2, bnd, sliceV, Option.getD_some, Option.getD_none, Rows_byV, ← List.map_take, ← List.map_drop, Int.zero_mul, Int.natCast_zero, z4, z5, List.take_length, Nat.sub_zero] <;> fail)); (try have hwv : IntKind.i64.wrap ((v : Int) + 1) = (v : Int) + 1 := IntWalk.i64_in _ (by omega))) | (refine EndX.plain ?_) | (refine nil_split (fun hn => ?_) (fun hn => ?_)) | (refine gcall_no not_false ?_) | (refine gdcall_no not_false ?_) | (refine GuardS_of _ _ _ _ _ _ (fun hg => ?_) (fun hg => ?_)) | (refine GuardD_of _ _ _ _ (fun hg => ?_) (fun hg => ?_)) | (refine CondB_of _ _ _ _ _ _ _ ?_ (fun hg => ?_) (fun hg => ?_)))
  all_goals (try (first | ((first | unfold noN | unfold Fr.below | unfold Loc.below); simp [Fr.allN, AV.allN, AV.allNL, AO.allN]; done) | rfl | trivial | assumption | (intro row hrow; simp only [List.mem_map] at hrow; obtain ⟨x, _, rfl⟩ := hrow; rfl) | (refine Wk.keep hcl ?_ ?_ ?_; (focus (simp [Fr.get, aokB, aokD, aokA, GeoD.av, GeoD.cells, DevD.av, DevD.cells, JrnD.av, JrnD.cells, bytes, ↓handO_allN, ↓handO_kill, ↓handO_nz, hand0, snB_0, opK_0, HQ_yn, HQ_yr, Loc.nz, AO.nz, bne_self_eq_false, doneV, minW2, bnd, sliceV, Option.getD_some, Option.getD_none, Rows_byV, ← List.map_take, ← List.map_drop, Int.zero_mul, Int.natCast_zero, z4, z5, List.take_length, Nat.sub_zero] <;> fail)); (focus (simp [sto, aokB, aokD, aokA, GeoD.av, GeoD.cells, DevD.av, DevD.cells, JrnD.av, JrnD.cells, bytes, ↓handO_allN, ↓handO_kill, ↓handO_nz, hand0, snB_0, opK_0, HQ_yn, HQ_yr, Loc.nz, AO.nz, bne_self_eq_false, doneV, minW2, bnd, sliceV, Option.getD_some, Option.getD_none, Rows_byV, ← List.map_take, ← List.map_drop, Int.zero_mul, Int.natCast_zero, z4, z5, List.take_length, Nat.sub_zero] <;> fail)); (focus (simp <;> fail))) | (simp [allP, opd, Fr.get, Fr.below, Fr.allN, AV.allN, AV.allNL, Loc.below, AO.allN, noN, killO, killT, killD, mkNames, AO.kill, AV.kill, AV.mapN, AV.mapNL]; done) | (with_reducible exact ltD (by assumption)) | omega | (simp only [decide_eq_true_eq, decide_eq_false_iff_not] at *; omega)))
  all_goals (try (first
    | (unfold Loc.below; simp only [List.all_cons, List.all_nil, handO_allN]; simp [AO.allN, AV.allN, AV.allNL]; done)
    | (simp [avName, loadNames, opd, Fr.get]; done)
    | (simp [sto]; done)))
  all_goals first
    | (have hgo := opGo_yes (g := g) (d := d) (s := opK g d s0 v) (by assumption) (by assumption)
       have hlt : v < 61 := by have := hFv.2.u1; have := hFv.2.u2; have := hB.r2; have := tK_1 (r := opT g d (opK g d s0 v)) (by simp only [opGo, Bool.and_eq_true] at hgo; exact hgo.2); omega
       first
       | exact hlt
       | omega
       | exact opF_go hFv.1 hlt hgo
       | exact op_next hB hFv.2 hgo
       | (rw [show opK g d s0 (v + 1) = opN g d (opK g d s0 v) from rfl]
          unfold opN
          simp only [List.map_append, List.map_cons, List.map_nil]
          refine Wk.keep hcl ?_ ?_ ?_ <;> simp [Fr.get, sto, secRow, bytes]))
    | (have hgo : opGo g d (opK g d s0 v) = false := by first | exact opGo_no1 (by assumption) | exact opGo_no2 (by assumption)
       have e := opF_end hFv.1 hgo
       have hk3 : k = mO j := by
         have := of_decide_eq_false (by assumption : decide ((k : Int) * 64 < j.length) = false)
         omega
       rw [e]; unfold openV
       first
       | (have h0 : (oS2 g d (jE j (opK g d s0 v))).2 = 0 := by simpa using hg
          simp only [h0, bne_self_eq_false, cond_false, hk3]; rfl)
       | (simp only [hg, cond_true]; rfl))
    | (have hk4 := of_decide_eq_true (by assumption : decide ((k : Int) * 64 < j.length) = true)
       have h5 := snB_len (g := g) (d := d) (j := j) k (by omega)
       have h6 := snM_le j k
       simp only [List.length_take]; omega)
    | (rw [show (((k + 1 : Nat) : Int)) * 64 = (k : Int) * 64 + 64 by omega, ← snB_next]
       refine Wk.keep hcl ?_ ?_ ?_ <;> simp [Fr.get, sto])
end Go.Proofs.Ytalhjhmphdgaoaa
