/- Devices are the same as themselves; a copy that is only read. -/
import Derived.Test.YtelciiooegiikaaDevSpend
import Derived.Test.YtelciiooegiikaaTypes
namespace Go.Proofs.Ytelciiooegiikaa
open Go.RowKit
set_option maxRecDepth 100000
def c16_1 : SC := (.seq (.reg [SO.mk (some 4) (.move (.const (Value.bool false))) none]) (.keep [4] .ret))
theorem u16_1 : type_of% (@swc _ _ c16_1.eq_1) := @swc _ _ c16_1.eq_1
def c16_2 : SC := (.cond (.tmp 10) c16_1 .skip)
theorem u16_2 : type_of% (@swc _ _ c16_2.eq_1) := @swc _ _ c16_2.eq_1
def c16_3 : SC := (.cond (.tmp 14) .skip (.exit 0))
theorem u16_3 : type_of% (@swc _ _ c16_3.eq_1) := @swc _ _ c16_3.eq_1
def o16_4 : List SO := ((SO.mk (some 25) (.load 29 (.tmp 24)) none) :: (SO.mk (some 26) (.conv 29 9 (.tmp 25)) none) :: (SO.mk (some 27) (.bin .neq 9 (.tmp 21) (.tmp 26)) none) :: [])
theorem v16_4 : type_of% (@swd _ _ o16_4.eq_1) := @swd _ _ o16_4.eq_1
def o16_5 : List SO := ((SO.mk (some 21) (.conv 29 9 (.tmp 20)) none) :: (SO.mk (some 22) (.move (.tmp 1)) none) :: (SO.mk (some 23) (.move (.tmp 5)) none) :: (SO.mk (some 24) (.iaddr 24 (.tmp 22) (.tmp 23)) none) :: o16_4)
theorem v16_5 : type_of% (@swd _ _ o16_5.eq_1) := @swd _ _ o16_5.eq_1
def o16_6 : List SO := ((SO.mk (some 17) (.move (.tmp 0)) none) :: (SO.mk (some 18) (.move (.tmp 5)) none) :: (SO.mk (some 19) (.iaddr 24 (.tmp 17) (.tmp 18)) none) :: (SO.mk (some 20) (.load 29 (.tmp 19)) none) :: o16_5)
theorem v16_6 : type_of% (@swd _ _ o16_6.eq_1) := @swd _ _ o16_6.eq_1
theorem m16_6 (B : Nat) : mkNames B o16_6 = [] := (rfl)
def c16_7 : SC := (.seq (.reg [SO.mk (some 4) (.move (.const (Value.bool false))) none]) (.keep [4] .ret))
theorem u16_7 : type_of% (@swc _ _ c16_7.eq_1) := @swc _ _ c16_7.eq_1
def c16_8 : SC := (.cond (.tmp 27) c16_7 .skip)
theorem u16_8 : type_of% (@swc _ _ c16_8.eq_1) := @swc _ _ c16_8.eq_1
def c16_9 : SC := (.reg [SO.mk (some 15) (.move (.tmp 5)) none, SO.mk (some 16) (.bin .add 3 (.tmp 15) (.const (Value.int .i64 1))) none, SO.mk (some 5) (.move (.tmp 16)) none])
theorem u16_9 : type_of% (@swc _ _ c16_9.eq_1) := @swc _ _ c16_9.eq_1
def c16_10 : SC := (.seq (.block 1 (.seq (.dreg false o16_6 []) (.keep [27, 5, 1, 0] c16_8))) (.keep [5, 1, 0] c16_9))
theorem u16_10 : type_of% (@swc _ _ c16_10.eq_1) := @swc _ _ c16_10.eq_1
def c16_11 : SC := (.seq (.seq (.reg [SO.mk (some 11) (.move (.tmp 5)) none, SO.mk (some 12) (.move (.tmp 0)) none, SO.mk (some 13) (.len 24 (.tmp 12)) none, SO.mk (some 14) (.bin .lss 3 (.tmp 11) (.tmp 13)) none]) (.keep [14, 0, 1, 5] c16_3)) (.keep [5, 1, 0] c16_10))
theorem u16_11 : type_of% (@swc _ _ c16_11.eq_1) := @swc _ _ c16_11.eq_1
def c16_12 : SC := (.block 0 (.loop (.keep [0, 1, 5] c16_11)))
theorem u16_12 : type_of% (@swc _ _ c16_12.eq_1) := @swc _ _ c16_12.eq_1
def c16_13 : SC := (.seq (.reg [SO.mk (some 4) (.move (.const (Value.bool true))) none]) (.keep [4] .ret))
theorem u16_13 : type_of% (@swc _ _ c16_13.eq_1) := @swc _ _ c16_13.eq_1
def c16_14 : SC := (.seq (.seq (.reg [SO.mk (some 5) (.move (.const (Value.int .i64 0))) none]) (.keep [0, 1, 5] c16_12)) (.keep [] c16_13))
theorem u16_14 : type_of% (@swc _ _ c16_14.eq_1) := @swc _ _ c16_14.eq_1
def c16_15 : SC := (.seq (.seq (.reg [SO.mk (some 6) (.move (.tmp 0)) none, SO.mk (some 7) (.len 24 (.tmp 6)) none, SO.mk (some 8) (.move (.tmp 1)) none, SO.mk (some 9) (.len 24 (.tmp 8)) none, SO.mk (some 10) (.bin .neq 3 (.tmp 7) (.tmp 9)) none]) (.keep [10, 0, 1] c16_2)) (.keep [0, 1] c16_14))
theorem u16_15 : type_of% (@swc _ _ c16_15.eq_1) := @swc _ _ c16_15.eq_1
def c16 : SC := (.seq (.reg [SO.mk (some 4) (.move (.const (Value.bool false))) none]) (.keep [0, 1] c16_15))
theorem c16_eq : annC Try.f16 = some c16 := by kernel_rfl
theorem r16 : Try.f16.results.toList = [.tmp 4] := by kernel_rfl
theorem e16 : enters Try.prog 16 = true := by kernel_rfl
def o8_1 : List SO := ((SO.mk (some 35) (.len 26 (.tmp 34)) (some (29 , false))) :: (SO.mk (some 36) (.bin .neq 3 (.tmp 32) (.tmp 35)) (some (29 , false))) :: (SO.mk (some 37) (.pick (.tmp 29) (.const (Value.bool true)) (.tmp 36)) none) :: [])
theorem v8_1 : type_of% (@swl _ _ o8_1.eq_1) := @swl _ _ o8_1.eq_1
def o8_2 : List SO := ((SO.mk (some 31) (.load 26 (.tmp 30)) (some (29 , false))) :: (SO.mk (some 32) (.len 26 (.tmp 31)) (some (29 , false))) :: (SO.mk (some 33) (.faddr 28 (.tmp 3) 2) (some (29 , false))) :: (SO.mk (some 34) (.load 26 (.tmp 33)) (some (29 , false))) :: o8_1)
theorem v8_2 : type_of% (@swl _ _ o8_2.eq_1) := @swl _ _ o8_2.eq_1
def o8_3 : List SO := ((SO.mk (some 27) (.bin .neq 3 (.tmp 23) (.tmp 26)) (some (20 , false))) :: (SO.mk (some 28) (.pick (.tmp 20) (.const (Value.bool true)) (.tmp 27)) none) :: (SO.mk (some 29) (.move (.tmp 28)) none) :: (SO.mk (some 30) (.faddr 28 (.tmp 2) 2) (some (29 , false))) :: o8_2)
theorem v8_3 : type_of% (@swl _ _ o8_3.eq_1) := @swl _ _ o8_3.eq_1
def o8_4 : List SO := ((SO.mk (some 23) (.len 25 (.tmp 22)) (some (20 , false))) :: (SO.mk (some 24) (.faddr 28 (.tmp 3) 1) (some (20 , false))) :: (SO.mk (some 25) (.load 25 (.tmp 24)) (some (20 , false))) :: (SO.mk (some 26) (.len 25 (.tmp 25)) (some (20 , false))) :: o8_3)
theorem v8_4 : type_of% (@swl _ _ o8_4.eq_1) := @swl _ _ o8_4.eq_1
def o8_5 : List SO := ((SO.mk (some 19) (.pick (.tmp 12) (.const (Value.bool true)) (.tmp 18)) none) :: (SO.mk (some 20) (.move (.tmp 19)) none) :: (SO.mk (some 21) (.faddr 28 (.tmp 2) 1) (some (20 , false))) :: (SO.mk (some 22) (.load 25 (.tmp 21)) (some (20 , false))) :: o8_4)
theorem v8_5 : type_of% (@swl _ _ o8_5.eq_1) := @swl _ _ o8_5.eq_1
def o8_6 : List SO := ((SO.mk (some 15) (.faddr 28 (.tmp 3) 0) (some (12 , false))) :: (SO.mk (some 16) (.load 24 (.tmp 15)) (some (12 , false))) :: (SO.mk (some 17) (.call 16 [(.tmp 14), (.tmp 16)]) (some (12 , false))) :: (SO.mk (some 18) (.un .not (.tmp 17)) (some (12 , false))) :: o8_5)
theorem v8_6 : type_of% (@swl _ _ o8_6.eq_1) := @swl _ _ o8_6.eq_1
def o8_7 : List SO := ((SO.mk (some 11) (.bin .neq 3 (.tmp 8) (.tmp 10)) none) :: (SO.mk (some 12) (.move (.tmp 11)) none) :: (SO.mk (some 13) (.faddr 28 (.tmp 2) 0) (some (12 , false))) :: (SO.mk (some 14) (.load 24 (.tmp 13)) (some (12 , false))) :: o8_6)
theorem v8_7 : type_of% (@swl _ _ o8_7.eq_1) := @swl _ _ o8_7.eq_1
def c8_8 : SC := (.seq (.reg [SO.mk (some 4) (.move (.const (Value.bool false))) none]) (.keep [4] .ret))
theorem u8_8 : type_of% (@swc _ _ c8_8.eq_1) := @swc _ _ c8_8.eq_1
def c8_9 : SC := (.cond (.tmp 37) c8_8 .skip)
theorem u8_9 : type_of% (@swc _ _ c8_9.eq_1) := @swc _ _ c8_9.eq_1
def c8_10 : SC := (.cond (.tmp 42) .skip (.exit 0))
theorem u8_10 : type_of% (@swc _ _ c8_10.eq_1) := @swc _ _ c8_10.eq_1
def o8_11 : List SO := ((SO.mk (some 73) (.bin .neq 9 (.tmp 65) (.tmp 72)) (some (58 , false))) :: (SO.mk (some 74) (.pick (.tmp 58) (.const (Value.bool true)) (.tmp 73)) none) :: [])
theorem v8_11 : type_of% (@swd _ _ o8_11.eq_1) := @swd _ _ o8_11.eq_1
def o8_12 : List SO := ((SO.mk (some 69) (.iaddr 25 (.tmp 67) (.tmp 68)) (some (58 , false))) :: (SO.mk (some 70) (.faddr 39 (.tmp 69) 1) (some (58 , false))) :: (SO.mk (some 71) (.load 29 (.tmp 70)) (some (58 , false))) :: (SO.mk (some 72) (.conv 29 9 (.tmp 71)) (some (58 , false))) :: o8_11)
theorem v8_12 : type_of% (@swd _ _ o8_12.eq_1) := @swd _ _ o8_12.eq_1
def o8_13 : List SO := ((SO.mk (some 65) (.conv 29 9 (.tmp 64)) (some (58 , false))) :: (SO.mk (some 66) (.faddr 28 (.tmp 3) 1) (some (58 , false))) :: (SO.mk (some 67) (.load 25 (.tmp 66)) (some (58 , false))) :: (SO.mk (some 68) (.move (.tmp 5)) (some (58 , false))) :: o8_12)
theorem v8_13 : type_of% (@swd _ _ o8_13.eq_1) := @swd _ _ o8_13.eq_1
def o8_14 : List SO := ((SO.mk (some 61) (.move (.tmp 5)) (some (58 , false))) :: (SO.mk (some 62) (.iaddr 25 (.tmp 60) (.tmp 61)) (some (58 , false))) :: (SO.mk (some 63) (.faddr 39 (.tmp 62) 1) (some (58 , false))) :: (SO.mk (some 64) (.load 29 (.tmp 63)) (some (58 , false))) :: o8_13)
theorem v8_14 : type_of% (@swd _ _ o8_14.eq_1) := @swd _ _ o8_14.eq_1
def o8_15 : List SO := ((SO.mk (some 57) (.bin .neq 3 (.tmp 50) (.tmp 56)) none) :: (SO.mk (some 58) (.move (.tmp 57)) none) :: (SO.mk (some 59) (.faddr 28 (.tmp 2) 1) (some (58 , false))) :: (SO.mk (some 60) (.load 25 (.tmp 59)) (some (58 , false))) :: o8_14)
theorem v8_15 : type_of% (@swd _ _ o8_15.eq_1) := @swd _ _ o8_15.eq_1
def o8_16 : List SO := ((SO.mk (some 53) (.move (.tmp 5)) none) :: (SO.mk (some 54) (.iaddr 25 (.tmp 52) (.tmp 53)) none) :: (SO.mk (some 55) (.faddr 39 (.tmp 54) 0) none) :: (SO.mk (some 56) (.load 3 (.tmp 55)) none) :: o8_15)
theorem v8_16 : type_of% (@swd _ _ o8_16.eq_1) := @swd _ _ o8_16.eq_1
def o8_17 : List SO := ((SO.mk (some 49) (.faddr 39 (.tmp 48) 0) none) :: (SO.mk (some 50) (.load 3 (.tmp 49)) none) :: (SO.mk (some 51) (.faddr 28 (.tmp 3) 1) none) :: (SO.mk (some 52) (.load 25 (.tmp 51)) none) :: o8_16)
theorem v8_17 : type_of% (@swd _ _ o8_17.eq_1) := @swd _ _ o8_17.eq_1
def o8_18 : List SO := ((SO.mk (some 45) (.faddr 28 (.tmp 2) 1) none) :: (SO.mk (some 46) (.load 25 (.tmp 45)) none) :: (SO.mk (some 47) (.move (.tmp 5)) none) :: (SO.mk (some 48) (.iaddr 25 (.tmp 46) (.tmp 47)) none) :: o8_17)
theorem v8_18 : type_of% (@swd _ _ o8_18.eq_1) := @swd _ _ o8_18.eq_1
theorem m8_18 (B : Nat) : mkNames B o8_18 = [] := (rfl)
def c8_19 : SC := (.seq (.reg [SO.mk (some 4) (.move (.const (Value.bool false))) none]) (.keep [4] .ret))
theorem u8_19 : type_of% (@swc _ _ c8_19.eq_1) := @swc _ _ c8_19.eq_1
def c8_20 : SC := (.cond (.tmp 74) c8_19 .skip)
theorem u8_20 : type_of% (@swc _ _ c8_20.eq_1) := @swc _ _ c8_20.eq_1
def c8_21 : SC := (.reg [SO.mk (some 43) (.move (.tmp 5)) none, SO.mk (some 44) (.bin .add 3 (.tmp 43) (.const (Value.int .i64 1))) none, SO.mk (some 5) (.move (.tmp 44)) none])
theorem u8_21 : type_of% (@swc _ _ c8_21.eq_1) := @swc _ _ c8_21.eq_1
def c8_22 : SC := (.seq (.block 1 (.seq (.dreg false o8_18 []) (.keep [74, 5, 2, 3] c8_20))) (.keep [5, 2, 3] c8_21))
theorem u8_22 : type_of% (@swc _ _ c8_22.eq_1) := @swc _ _ c8_22.eq_1
def c8_23 : SC := (.seq (.seq (.reg [SO.mk (some 38) (.move (.tmp 5)) none, SO.mk (some 39) (.faddr 28 (.tmp 2) 1) none, SO.mk (some 40) (.load 25 (.tmp 39)) none, SO.mk (some 41) (.len 25 (.tmp 40)) none, SO.mk (some 42) (.bin .lss 3 (.tmp 38) (.tmp 41)) none]) (.keep [42, 5, 2, 3] c8_10)) (.keep [5, 2, 3] c8_22))
theorem u8_23 : type_of% (@swc _ _ c8_23.eq_1) := @swc _ _ c8_23.eq_1
def c8_24 : SC := (.block 0 (.loop (.keep [5, 2, 3] c8_23)))
theorem u8_24 : type_of% (@swc _ _ c8_24.eq_1) := @swc _ _ c8_24.eq_1
def c8_25 : SC := (.cond (.tmp 79) .skip (.exit 2))
theorem u8_25 : type_of% (@swc _ _ c8_25.eq_1) := @swc _ _ c8_25.eq_1
def o8_26 : List SO := ((SO.mk (some 126) (.pick (.tmp 110) (.const (Value.bool true)) (.tmp 125)) none) :: [])
theorem v8_26 : type_of% (@swd _ _ o8_26.eq_1) := @swd _ _ o8_26.eq_1
def o8_27 : List SO := ((SO.mk (some 122) (.faddr 41 (.tmp 121) 0) (some (110 , false))) :: (SO.mk (some 123) (.load 29 (.tmp 122)) (some (110 , false))) :: (SO.mk (some 124) (.conv 29 9 (.tmp 123)) (some (110 , false))) :: (SO.mk (some 125) (.bin .neq 9 (.tmp 117) (.tmp 124)) (some (110 , false))) :: o8_26)
theorem v8_27 : type_of% (@swd _ _ o8_27.eq_1) := @swd _ _ o8_27.eq_1
def o8_28 : List SO := ((SO.mk (some 118) (.faddr 28 (.tmp 3) 2) (some (110 , false))) :: (SO.mk (some 119) (.load 26 (.tmp 118)) (some (110 , false))) :: (SO.mk (some 120) (.move (.tmp 6)) (some (110 , false))) :: (SO.mk (some 121) (.iaddr 26 (.tmp 119) (.tmp 120)) (some (110 , false))) :: o8_27)
theorem v8_28 : type_of% (@swd _ _ o8_28.eq_1) := @swd _ _ o8_28.eq_1
def o8_29 : List SO := ((SO.mk (some 114) (.iaddr 26 (.tmp 112) (.tmp 113)) (some (110 , false))) :: (SO.mk (some 115) (.faddr 41 (.tmp 114) 0) (some (110 , false))) :: (SO.mk (some 116) (.load 29 (.tmp 115)) (some (110 , false))) :: (SO.mk (some 117) (.conv 29 9 (.tmp 116)) (some (110 , false))) :: o8_28)
theorem v8_29 : type_of% (@swd _ _ o8_29.eq_1) := @swd _ _ o8_29.eq_1
def o8_30 : List SO := ((SO.mk (some 110) (.move (.tmp 109)) none) :: (SO.mk (some 111) (.faddr 28 (.tmp 2) 2) (some (110 , false))) :: (SO.mk (some 112) (.load 26 (.tmp 111)) (some (110 , false))) :: (SO.mk (some 113) (.move (.tmp 6)) (some (110 , false))) :: o8_29)
theorem v8_30 : type_of% (@swd _ _ o8_30.eq_1) := @swd _ _ o8_30.eq_1
def o8_31 : List SO := ((SO.mk (some 106) (.faddr 41 (.tmp 105) 1) (some (95 , false))) :: (SO.mk (some 107) (.load 3 (.tmp 106)) (some (95 , false))) :: (SO.mk (some 108) (.bin .neq 3 (.tmp 101) (.tmp 107)) (some (95 , false))) :: (SO.mk (some 109) (.pick (.tmp 95) (.const (Value.bool true)) (.tmp 108)) none) :: o8_30)
theorem v8_31 : type_of% (@swd _ _ o8_31.eq_1) := @swd _ _ o8_31.eq_1
def o8_32 : List SO := ((SO.mk (some 102) (.faddr 28 (.tmp 3) 2) (some (95 , false))) :: (SO.mk (some 103) (.load 26 (.tmp 102)) (some (95 , false))) :: (SO.mk (some 104) (.move (.tmp 6)) (some (95 , false))) :: (SO.mk (some 105) (.iaddr 26 (.tmp 103) (.tmp 104)) (some (95 , false))) :: o8_31)
theorem v8_32 : type_of% (@swd _ _ o8_32.eq_1) := @swd _ _ o8_32.eq_1
def o8_33 : List SO := ((SO.mk (some 98) (.move (.tmp 6)) (some (95 , false))) :: (SO.mk (some 99) (.iaddr 26 (.tmp 97) (.tmp 98)) (some (95 , false))) :: (SO.mk (some 100) (.faddr 41 (.tmp 99) 1) (some (95 , false))) :: (SO.mk (some 101) (.load 3 (.tmp 100)) (some (95 , false))) :: o8_32)
theorem v8_33 : type_of% (@swd _ _ o8_33.eq_1) := @swd _ _ o8_33.eq_1
def o8_34 : List SO := ((SO.mk (some 94) (.bin .neq 4 (.tmp 87) (.tmp 93)) none) :: (SO.mk (some 95) (.move (.tmp 94)) none) :: (SO.mk (some 96) (.faddr 28 (.tmp 2) 2) (some (95 , false))) :: (SO.mk (some 97) (.load 26 (.tmp 96)) (some (95 , false))) :: o8_33)
theorem v8_34 : type_of% (@swd _ _ o8_34.eq_1) := @swd _ _ o8_34.eq_1
def o8_35 : List SO := ((SO.mk (some 90) (.move (.tmp 6)) none) :: (SO.mk (some 91) (.iaddr 26 (.tmp 89) (.tmp 90)) none) :: (SO.mk (some 92) (.faddr 41 (.tmp 91) 2) none) :: (SO.mk (some 93) (.load 4 (.tmp 92)) none) :: o8_34)
theorem v8_35 : type_of% (@swd _ _ o8_35.eq_1) := @swd _ _ o8_35.eq_1
def o8_36 : List SO := ((SO.mk (some 86) (.faddr 41 (.tmp 85) 2) none) :: (SO.mk (some 87) (.load 4 (.tmp 86)) none) :: (SO.mk (some 88) (.faddr 28 (.tmp 3) 2) none) :: (SO.mk (some 89) (.load 26 (.tmp 88)) none) :: o8_35)
theorem v8_36 : type_of% (@swd _ _ o8_36.eq_1) := @swd _ _ o8_36.eq_1
def o8_37 : List SO := ((SO.mk (some 82) (.faddr 28 (.tmp 2) 2) none) :: (SO.mk (some 83) (.load 26 (.tmp 82)) none) :: (SO.mk (some 84) (.move (.tmp 6)) none) :: (SO.mk (some 85) (.iaddr 26 (.tmp 83) (.tmp 84)) none) :: o8_36)
theorem v8_37 : type_of% (@swd _ _ o8_37.eq_1) := @swd _ _ o8_37.eq_1
theorem m8_37 (B : Nat) : mkNames B o8_37 = [] := (rfl)
def c8_38 : SC := (.seq (.reg [SO.mk (some 4) (.move (.const (Value.bool false))) none]) (.keep [4] .ret))
theorem u8_38 : type_of% (@swc _ _ c8_38.eq_1) := @swc _ _ c8_38.eq_1
def c8_39 : SC := (.cond (.tmp 126) c8_38 .skip)
theorem u8_39 : type_of% (@swc _ _ c8_39.eq_1) := @swc _ _ c8_39.eq_1
def c8_40 : SC := (.reg [SO.mk (some 80) (.move (.tmp 6)) none, SO.mk (some 81) (.bin .add 3 (.tmp 80) (.const (Value.int .i64 1))) none, SO.mk (some 6) (.move (.tmp 81)) none])
theorem u8_40 : type_of% (@swc _ _ c8_40.eq_1) := @swc _ _ c8_40.eq_1
def c8_41 : SC := (.seq (.block 3 (.seq (.dreg false o8_37 []) (.keep [126, 6, 3, 2] c8_39))) (.keep [6, 3, 2] c8_40))
theorem u8_41 : type_of% (@swc _ _ c8_41.eq_1) := @swc _ _ c8_41.eq_1
def c8_42 : SC := (.seq (.seq (.reg [SO.mk (some 75) (.move (.tmp 6)) none, SO.mk (some 76) (.faddr 28 (.tmp 2) 2) none, SO.mk (some 77) (.load 26 (.tmp 76)) none, SO.mk (some 78) (.len 26 (.tmp 77)) none, SO.mk (some 79) (.bin .lss 3 (.tmp 75) (.tmp 78)) none]) (.keep [79, 2, 3, 6] c8_25)) (.keep [6, 3, 2] c8_41))
theorem u8_42 : type_of% (@swc _ _ c8_42.eq_1) := @swc _ _ c8_42.eq_1
def c8_43 : SC := (.block 2 (.loop (.keep [2, 3, 6] c8_42)))
theorem u8_43 : type_of% (@swc _ _ c8_43.eq_1) := @swc _ _ c8_43.eq_1
def c8_44 : SC := (.seq (.reg [SO.mk (some 4) (.move (.const (Value.bool true))) none]) (.keep [4] .ret))
theorem u8_44 : type_of% (@swc _ _ c8_44.eq_1) := @swc _ _ c8_44.eq_1
def c8_45 : SC := (.seq (.seq (.reg [SO.mk (some 6) (.move (.const (Value.int .i64 0))) none]) (.keep [2, 3, 6] c8_43)) (.keep [] c8_44))
theorem u8_45 : type_of% (@swc _ _ c8_45.eq_1) := @swc _ _ c8_45.eq_1
def c8_46 : SC := (.seq (.seq (.reg [SO.mk (some 5) (.move (.const (Value.int .i64 0))) none]) (.keep [5, 2, 3] c8_24)) (.keep [2, 3] c8_45))
theorem u8_46 : type_of% (@swc _ _ c8_46.eq_1) := @swc _ _ c8_46.eq_1
def c8_47 : SC := (.seq (.seq (.reg ((SO.mk (some 7) (.faddr 28 (.tmp 2) 3) none) :: (SO.mk (some 8) (.load 3 (.tmp 7)) none) :: (SO.mk (some 9) (.faddr 28 (.tmp 3) 3) none) :: (SO.mk (some 10) (.load 3 (.tmp 9)) none) :: o8_7)) (.keep [37, 2, 3] c8_9)) (.keep [2, 3] c8_46))
theorem u8_47 : type_of% (@swc _ _ c8_47.eq_1) := @swc _ _ c8_47.eq_1
def c8 : SC := (.seq (.reg [SO.mk (some 2) (.box 28 (.tmp 0)) none, SO.mk (some 3) (.box 28 (.tmp 1)) none, SO.mk (some 4) (.move (.const (Value.bool false))) none]) (.keep [2, 3] c8_47))
theorem c8_eq : annC Try.f8 = some c8 := by kernel_rfl
theorem r8 : Try.f8.results.toList = [.tmp 4] := by kernel_rfl
theorem e8 : enters Try.prog 8 = true := by kernel_rfl
end Go.Proofs.Ytelciiooegiikaa
namespace Go.Proofs.Ytelciiooegiikaa
open Go.RowKit
set_option maxHeartbeats 4000000
set_option maxRecDepth 20000
attribute [local irreducible] SW OSW SWL SWLn SWD SEcall SEcallv SDv SE SO1 SOg ACalls ACallv Wk EndV
set_option linter.unusedSimpArgs false
set_option linter.unusedVariables false
theorem isB_by (l : List UInt8) : isBytes (l.map by_) = True := by
  refine eq_true ?_
  intro r hr
  simp only [List.mem_map] at hr; obtain ⟨x, _, rfl⟩ := hr
  rfl
theorem sameLists_self (l : List (List UInt8)) : Pure Try.prog 16 [.d (.ro (l.map secRow)), .d (.ro (l.map secRow))] (Bo true) := by
  refine pure_of follows Try.func16 c16_eq r16 (Nat.le_of_ble_eq_true rfl) fun B σ hcl hsz => ?_
  have hlen : l.length ≤ 2 ^ 47 := by simpa using (show Sized (.ro (l.map secRow)) from hsz (.d (.ro (l.map secRow))) (by simp)).len
  clear hsz
  repeat' (first | (simp -implicitDefEqProofs only [*, contN, contC, Nat.reduceBEq, Bool.or_false, Bool.or_true, Bool.false_or, Bool.true_or, Bool.not_true, Bool.not_false, SEconv, w_skip, w_ret, w_exit, w_reg, w_dreg, w_oreg, HO_app, w_odone, w_onil, w_ofst, w_obr, w_seq, SK_n, SK_r, SK_x, w_keep, w_block, w_cond, w_nil, w_cons, w_consg, w_nnil, w_ncons, w_dnil, w_dcons, w_dconsg, HK_app, HD_app, HQ_n, HQ_r, HQ_x, HQ_bn, HQ_br, HQ_bx, HQ_en, HQ_er, HQ_ex, CondB_true, CondB_false, SO1, w_sdv, SDe_alloc, SDe_box, SDe_bslice, SDe_app, true_imp_iff, false_imp_iff, and_false, false_and, not_false_eq_true, not_true_eq_false, addN, mkNames, killT, killD, killO, List.foldl_nil, List.foldl_cons, List.append_nil, List.nil_append, List.cons_append, GuardS_true, GuardS_false, GuardD_true, GuardD_false, DK_true, DK_false, lt_self_add, le_self_add, decide_true, decide_false, Bool.false_eq_true, Bool.true_eq_false, Nat.add_left_cancel_iff, SE, SEalloc, SEbox, SEstore, w_bs, SEbl, SEfz, SEbs0, fzName, osOf, AV.fz1, w_app, w_mk, aev, opd, Fr.get, putO, Fr.norm, List.map_cons, List.map_nil, with1, with2, onInt, AV.lit, entry, ↓reduceIte, Nat.reduceEqDiff, Nat.reduceAdd, reduceCtorEq, true_and, and_true, Option.map_some, Option.map_none, Option.bind_some, Option.bind_none, cond_true, cond_false, binV, unV, fieldV, loadV, sto, cellsAV, newF, newL, Fr.map, Loc.kill, Loc.set, AO.kill, AV.kill, AV.mapN, AV.mapNL, List.filter_nil, List.filter_cons, allP, EndV, retV, resV, resL, frz, dropL, AV.pick, nilV, tupV, imp_self, ne_eq, Int.cast_ofNat_Int, Int.reduceLT, Int.reduceToNat, List.getD_cons_zero, List.getD_cons_succ, bsliceV, buildV, afill, repl, chunk, rvs, AV.rv, RV.nrm, List.getElem?_nil, List.append_assoc, Nat.reduceMul, Nat.reducePow, Nat.zero_lt_succ, Nat.zero_add, Nat.add_zero, List.length_cons, List.length_nil, Nat.reduceLeDiff, Nat.le_refl, List.take_succ_cons, List.take_zero, List.drop_succ_cons, List.drop_zero, indexV, lenV, rowOf_mapD, rowOf_mapI, rowOf_mapA, List.length_map, Int.toNat_natCast, List.getElem?_cons_zero, List.getElem?_cons_succ, and_self, implies_true, if_true, if_false, HQ_zn, HQ_zr, HQ_wn, HQ_wr, AV.nz, AV.nzL, RV.nrm, SEbin, SEnil, nilK, srcV, dstV, appName, List.length_append, Nat.mul_one, take_map_len, take_map_app, List.getElem?_cons_zero, List.map_append, SEmkmap, SEmset, mgetV, kvOf, getM, setM, w_bsH, SEapA, SEapB, bsliceA, c16, r16, u16_1, u16_2, u16_3, v16_4, v16_5, v16_6, m16_6, u16_7, u16_8, u16_9, u16_10, u16_11, u16_12, u16_13, u16_14, u16_15, ty24, ty3, ty29, ty9, ty5, secRow, bytes, convV, isB_by, bne_self_eq_false, beq_self_eq_true]) | (with_reducible refine And.intro ?_ ?_) | (refine loop_nat (l.length) (fun _ => True) (fun k => [(0, .d (.ro (l.map secRow))), (1, .d (.ro (l.map secRow))), (5, I k)]) (fun k => []) ?_ (Wk.keep hcl ?_ ?_ ?_) fun k hk hF => ?_; rotate_left 1; (focus (simp [Fr.get, newF, Fr.map, AV.kill, AV.mapN, secRow, bytes, convV, isB_by, bne_self_eq_false, beq_self_eq_true] <;> fail)); (focus (simp [sto, newL, Loc.kill, Loc.set, AO.kill, AV.kill, AV.mapN, secRow, bytes, convV, isB_by, bne_self_eq_false, beq_self_eq_true] <;> fail)); (focus (simp [newL, Loc.kill, Loc.set, secRow, bytes, convV, isB_by, bne_self_eq_false, beq_self_eq_true] <;> fail)); (try have hw : IntKind.i64.wrap ((k : Int) + 1) = (k : Int) + 1 := IntWalk.i64_in _ (by omega))) | (refine EndX.plain ?_) | (refine nil_split (fun hn => ?_) (fun hn => ?_)) | (refine gcall_no not_false ?_) | (refine gdcall_no not_false ?_) | (refine GuardS_of _ _ _ _ _ _ (fun hg => ?_) (fun hg => ?_)) | (refine GuardD_of _ _ _ _ (fun hg => ?_) (fun hg => ?_)) | (refine CondB_of _ _ _ _ _ _ _ ?_ (fun hg => ?_) (fun hg => ?_)))
  all_goals (try (first | ((first | unfold noN | unfold Fr.below | unfold Loc.below); simp [Fr.allN, AV.allN, AV.allNL, AO.allN]; done) | rfl | trivial | assumption | (intro row hrow; simp only [List.mem_map] at hrow; obtain ⟨x, _, rfl⟩ := hrow; rfl) | (refine Wk.keep hcl ?_ ?_ ?_; (focus (simp [Fr.get, secRow, bytes, convV, isB_by, bne_self_eq_false, beq_self_eq_true] <;> fail)); (focus (simp [sto, secRow, bytes, convV, isB_by, bne_self_eq_false, beq_self_eq_true] <;> fail)); (focus (simp <;> fail))) | (simp [allP, opd, Fr.get, Fr.below, Fr.allN, AV.allN, AV.allNL, Loc.below, AO.allN, noN, killO, killT, killD, mkNames, AO.kill, AV.kill, AV.mapN, AV.mapNL]; done) | (with_reducible exact ltD (by assumption)) | omega | (simp only [decide_eq_true_eq, decide_eq_false_iff_not] at *; omega)))
theorem sameDev_self (d : DevD) : Pure Try.prog 8 [d.av, d.av] (Bo true) := by
  refine pure_of follows Try.func8 c8_eq r8 (Nat.le_of_ble_eq_true rfl) fun B σ hcl hsz => ?_
  obtain ⟨z1, z2, z3⟩ := dev_sz (hsz d.av (by simp))
  clear hsz
  repeat' (first | (simp -implicitDefEqProofs only [*, contN, contC, Nat.reduceBEq, Bool.or_false, Bool.or_true, Bool.false_or, Bool.true_or, Bool.not_true, Bool.not_false, SEconv, w_skip, w_ret, w_exit, w_reg, w_dreg, w_oreg, HO_app, w_odone, w_onil, w_ofst, w_obr, w_seq, SK_n, SK_r, SK_x, w_keep, w_block, w_cond, w_nil, w_cons, w_consg, w_nnil, w_ncons, w_dnil, w_dcons, w_dconsg, HK_app, HD_app, HQ_n, HQ_r, HQ_x, HQ_bn, HQ_br, HQ_bx, HQ_en, HQ_er, HQ_ex, CondB_true, CondB_false, SO1, w_sdv, SDe_alloc, SDe_box, SDe_bslice, SDe_app, true_imp_iff, false_imp_iff, and_false, false_and, not_false_eq_true, not_true_eq_false, addN, mkNames, killT, killD, killO, List.foldl_nil, List.foldl_cons, List.append_nil, List.nil_append, List.cons_append, GuardS_true, GuardS_false, GuardD_true, GuardD_false, DK_true, DK_false, lt_self_add, le_self_add, decide_true, decide_false, Bool.false_eq_true, Bool.true_eq_false, Nat.add_left_cancel_iff, SE, SEalloc, SEbox, SEstore, w_bs, SEbl, SEfz, SEbs0, fzName, osOf, AV.fz1, w_app, w_mk, aev, opd, Fr.get, putO, Fr.norm, List.map_cons, List.map_nil, with1, with2, onInt, AV.lit, entry, ↓reduceIte, Nat.reduceEqDiff, Nat.reduceAdd, reduceCtorEq, true_and, and_true, Option.map_some, Option.map_none, Option.bind_some, Option.bind_none, cond_true, cond_false, binV, unV, fieldV, loadV, sto, cellsAV, newF, newL, Fr.map, Loc.kill, Loc.set, AO.kill, AV.kill, AV.mapN, AV.mapNL, List.filter_nil, List.filter_cons, allP, EndV, retV, resV, resL, frz, dropL, AV.pick, nilV, tupV, imp_self, ne_eq, Int.cast_ofNat_Int, Int.reduceLT, Int.reduceToNat, List.getD_cons_zero, List.getD_cons_succ, bsliceV, buildV, afill, repl, chunk, rvs, AV.rv, RV.nrm, List.getElem?_nil, List.append_assoc, Nat.reduceMul, Nat.reducePow, Nat.zero_lt_succ, Nat.zero_add, Nat.add_zero, List.length_cons, List.length_nil, Nat.reduceLeDiff, Nat.le_refl, List.take_succ_cons, List.take_zero, List.drop_succ_cons, List.drop_zero, indexV, lenV, rowOf_mapD, rowOf_mapI, rowOf_mapA, List.length_map, Int.toNat_natCast, List.getElem?_cons_zero, List.getElem?_cons_succ, and_self, implies_true, if_true, if_false, HQ_zn, HQ_zr, HQ_wn, HQ_wr, AV.nz, AV.nzL, RV.nrm, SEbin, SEnil, nilK, srcV, dstV, appName, List.length_append, Nat.mul_one, take_map_len, take_map_app, List.getElem?_cons_zero, List.map_append, SEmkmap, SEmset, mgetV, kvOf, getM, setM, w_bsH, SEapA, SEapB, bsliceA, c8, r8, v8_1, v8_2, v8_3, v8_4, v8_5, v8_6, v8_7, u8_8, u8_9, u8_10, v8_11, v8_12, v8_13, v8_14, v8_15, v8_16, v8_17, v8_18, m8_18, u8_19, u8_20, u8_21, u8_22, u8_23, u8_24, u8_25, v8_26, v8_27, v8_28, v8_29, v8_30, v8_31, v8_32, v8_33, v8_34, v8_35, v8_36, v8_37, m8_37, u8_38, u8_39, u8_40, u8_41, u8_42, u8_43, u8_44, u8_45, u8_46, u8_47, ty28, ty3, ty24, ty25, ty26, ty39, ty29, ty9, ty41, ty4, ty5, DevD.av, DevD.cells, WrD.row, VolD.row, bytes, convV, isB_by, bne_self_eq_false, beq_self_eq_true]) | (with_reducible refine And.intro ?_ ?_) | (refine call_ro e16 ( sameLists_self d.safe) rfl ?_ ?_ ?_ ?_) | (refine gcall_ro e16 ( sameLists_self d.safe) rfl ?_ ?_ ?_ ?_) | (refine dcall_ro e16 ( sameLists_self d.safe) rfl ?_ ?_ ?_ ?_) | (refine gdcall_ro rfl e16 ( sameLists_self d.safe) rfl ?_ ?_ ?_ ?_) | (refine loop_nat (d.cache.length) (fun _ => True) (fun k => [(5, I k), (2, .lp (B + 2) 0), (3, .lp (B + 3) 0)]) (fun k => [(B + 2, .box d.cells), (B + 3, .box d.cells)]) ?_ (Wk.keep hcl ?_ ?_ ?_) fun k hk hF => ?_; rotate_left 1; (focus (simp [Fr.get, newF, Fr.map, AV.kill, AV.mapN, DevD.av, DevD.cells, WrD.row, VolD.row, bytes, convV, isB_by, bne_self_eq_false, beq_self_eq_true] <;> fail)); (focus (simp [sto, newL, Loc.kill, Loc.set, AO.kill, AV.kill, AV.mapN, DevD.av, DevD.cells, WrD.row, VolD.row, bytes, convV, isB_by, bne_self_eq_false, beq_self_eq_true] <;> fail)); (focus (simp [newL, Loc.kill, Loc.set, DevD.av, DevD.cells, WrD.row, VolD.row, bytes, convV, isB_by, bne_self_eq_false, beq_self_eq_true] <;> fail)); (try have hw : IntKind.i64.wrap ((k : Int) + 1) = (k : Int) + 1 := IntWalk.i64_in _ (by omega))) | (refine loop_nat (d.vols.length) (fun _ => True) (fun k => [(2, .lp (B + 2) 0), (3, .lp (B + 3) 0), (6, I k)]) (fun k => [(B + 2, .box d.cells), (B + 3, .box d.cells)]) ?_ (Wk.keep hcl ?_ ?_ ?_) fun k hk hF => ?_; rotate_left 1; (focus (simp [Fr.get, newF, Fr.map, AV.kill, AV.mapN, DevD.av, DevD.cells, WrD.row, VolD.row, bytes, convV, isB_by, bne_self_eq_false, beq_self_eq_true] <;> fail)); (focus (simp [sto, newL, Loc.kill, Loc.set, AO.kill, AV.kill, AV.mapN, DevD.av, DevD.cells, WrD.row, VolD.row, bytes, convV, isB_by, bne_self_eq_false, beq_self_eq_true] <;> fail)); (focus (simp [newL, Loc.kill, Loc.set, DevD.av, DevD.cells, WrD.row, VolD.row, bytes, convV, isB_by, bne_self_eq_false, beq_self_eq_true] <;> fail)); (try have hw : IntKind.i64.wrap ((k : Int) + 1) = (k : Int) + 1 := IntWalk.i64_in _ (by omega))) | (refine EndX.plain ?_) | (refine nil_split (fun hn => ?_) (fun hn => ?_)) | (refine gcall_no not_false ?_) | (refine gdcall_no not_false ?_) | (refine GuardS_of _ _ _ _ _ _ (fun hg => ?_) (fun hg => ?_)) | (refine GuardD_of _ _ _ _ (fun hg => ?_) (fun hg => ?_)) | (refine CondB_of _ _ _ _ _ _ _ ?_ (fun hg => ?_) (fun hg => ?_)))
  all_goals (try (first | ((first | unfold noN | unfold Fr.below | unfold Loc.below); simp [Fr.allN, AV.allN, AV.allNL, AO.allN]; done) | rfl | trivial | assumption | (intro row hrow; simp only [List.mem_map] at hrow; obtain ⟨x, _, rfl⟩ := hrow; rfl) | (refine Wk.keep hcl ?_ ?_ ?_; (focus (simp [Fr.get, DevD.av, DevD.cells, WrD.row, VolD.row, bytes, convV, isB_by, bne_self_eq_false, beq_self_eq_true] <;> fail)); (focus (simp [sto, DevD.av, DevD.cells, WrD.row, VolD.row, bytes, convV, isB_by, bne_self_eq_false, beq_self_eq_true] <;> fail)); (focus (simp <;> fail))) | (simp [allP, opd, Fr.get, Fr.below, Fr.allN, AV.allN, AV.allNL, Loc.below, AO.allN, noN, killO, killT, killD, mkNames, AO.kill, AV.kill, AV.mapN, AV.mapNL]; done) | (with_reducible exact ltD (by assumption)) | omega | (simp only [decide_eq_true_eq, decide_eq_false_iff_not] at *; omega)))
theorem devCopy_p (d : DevD) (hw : d.fit) : Pure Try.prog 4 [d.av] d.av := by
  unfold Pure
  intro B σ
  have h := ACalls.frozen (n := 100000) (B := B) (T := [B + 90001, B + 90002, B + 90003]) (V := devA (B + 90001) (B + 90002) (B + 90003) d.safe.length d.cache.length d.vols.length d.fuel) (l := devL (B + 90001) (B + 90002) (B + 90003) d.safe d.cache d.vols)
    (fun hcl => devCopy_own d hw (B + 100000) σ (B + 90001) (B + 90002) (B + 90003) (Free3.new (l := []) hcl (by simp))) (by simp) (by simp [devL])
  have e : frz B (sto (devL (B + 90001) (B + 90002) (B + 90003) d.safe d.cache d.vols) σ) (devA (B + 90001) (B + 90002) (B + 90003) d.safe.length d.cache.length d.vols.length d.fuel) = d.av := by
    simp [frz, devA, devL, AV.mapN, AV.mapNL, sto, DevD.av, take_map_len]
  rw [e] at h
  exact h
end Go.Proofs.Ytelciiooegiikaa
