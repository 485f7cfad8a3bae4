/- A journal that may be: the program's check and the reference's. -/
import Derived.Test.YtalhjhmphdgaoaaDevE
import Derived.Test.YtalhjhmphdgaoaaTypes
namespace Go.Proofs.Ytalhjhmphdgaoaa
open Go.RowKit
set_option maxRecDepth 100000
def c74_1 : SC := (.seq (.reg [SO.mk (some 11) (.move (.tmp 5)) none, SO.mk (some 4) (.move (.tmp 11)) none]) (.keep [4] .ret))
theorem u74_1 : type_of% (@swc _ _ c74_1.eq_1) := @swc _ _ c74_1.eq_1
def c74_2 : SC := (.cond (.tmp 10) c74_1 .skip)
theorem u74_2 : type_of% (@swc _ _ c74_2.eq_1) := @swc _ _ c74_2.eq_1
def c74_3 : SC := (.seq (.reg [SO.mk (some 9) (.move (.tmp 5)) none, SO.mk (some 10) (.bin .neq 30 (.tmp 9) (.const (Value.int .i64 0))) none]) (.keep [10, 5, 3, 2] c74_2))
theorem u74_3 : type_of% (@swc _ _ c74_3.eq_1) := @swc _ _ c74_3.eq_1
def o74_4 : List SO := ((SO.mk (some 32) (.bin .gtr 3 (.tmp 31) (.const (Value.int .i64 1048576))) (some (22 , false))) :: (SO.mk (some 33) (.pick (.tmp 22) (.const (Value.bool true)) (.tmp 32)) none) :: (SO.mk (some 6) (.move (.tmp 33)) none) :: [])
theorem v74_4 : type_of% (@swl _ _ o74_4.eq_1) := @swl _ _ o74_4.eq_1
def o74_5 : List SO := ((SO.mk (some 28) (.load 3 (.tmp 27)) (some (22 , false))) :: (SO.mk (some 29) (.faddr 45 (.tmp 3) 7) (some (22 , false))) :: (SO.mk (some 30) (.load 3 (.tmp 29)) (some (22 , false))) :: (SO.mk (some 31) (.minmax false [(.tmp 24), (.tmp 26), (.tmp 28), (.tmp 30)]) (some (22 , false))) :: o74_4)
theorem v74_5 : type_of% (@swl _ _ o74_5.eq_1) := @swl _ _ o74_5.eq_1
def o74_6 : List SO := ((SO.mk (some 24) (.load 3 (.tmp 23)) (some (22 , false))) :: (SO.mk (some 25) (.faddr 45 (.tmp 3) 1) (some (22 , false))) :: (SO.mk (some 26) (.load 3 (.tmp 25)) (some (22 , false))) :: (SO.mk (some 27) (.faddr 45 (.tmp 3) 5) (some (22 , false))) :: o74_5)
theorem v74_6 : type_of% (@swl _ _ o74_6.eq_1) := @swl _ _ o74_6.eq_1
def o74_7 : List SO := ((SO.mk (some 20) (.minmax true [(.tmp 13), (.tmp 15), (.tmp 17), (.tmp 19)]) none) :: (SO.mk (some 21) (.bin .lss 3 (.tmp 20) (.const (Value.int .i64 1))) none) :: (SO.mk (some 22) (.move (.tmp 21)) none) :: (SO.mk (some 23) (.faddr 45 (.tmp 3) 0) (some (22 , false))) :: o74_6)
theorem v74_7 : type_of% (@swl _ _ o74_7.eq_1) := @swl _ _ o74_7.eq_1
def o74_8 : List SO := ((SO.mk (some 16) (.faddr 45 (.tmp 3) 5) none) :: (SO.mk (some 17) (.load 3 (.tmp 16)) none) :: (SO.mk (some 18) (.faddr 45 (.tmp 3) 7) none) :: (SO.mk (some 19) (.load 3 (.tmp 18)) none) :: o74_7)
theorem v74_8 : type_of% (@swl _ _ o74_8.eq_1) := @swl _ _ o74_8.eq_1
def o74_9 : List SO := ((SO.mk (some 98) (.load 3 (.tmp 97)) (some (89 , false))) :: (SO.mk (some 99) (.bin .rem 3 (.tmp 96) (.tmp 98)) (some (89 , false))) :: (SO.mk (some 100) (.bin .neq 3 (.tmp 91) (.tmp 99)) (some (89 , false))) :: (SO.mk (some 101) (.pick (.tmp 89) (.const (Value.bool true)) (.tmp 100)) none) :: [])
theorem v74_9 : type_of% (@swd _ _ o74_9.eq_1) := @swd _ _ o74_9.eq_1
def o74_10 : List SO := ((SO.mk (some 94) (.faddr 45 (.tmp 3) 8) (some (89 , false))) :: (SO.mk (some 95) (.load 3 (.tmp 94)) (some (89 , false))) :: (SO.mk (some 96) (.bin .add 3 (.tmp 93) (.tmp 95)) (some (89 , false))) :: (SO.mk (some 97) (.faddr 23 (.tmp 2) 0) (some (89 , false))) :: o74_9)
theorem v74_10 : type_of% (@swd _ _ o74_10.eq_1) := @swd _ _ o74_10.eq_1
def o74_11 : List SO := ((SO.mk (some 90) (.faddr 45 (.tmp 3) 6) (some (89 , false))) :: (SO.mk (some 91) (.load 3 (.tmp 90)) (some (89 , false))) :: (SO.mk (some 92) (.faddr 45 (.tmp 3) 4) (some (89 , false))) :: (SO.mk (some 93) (.load 3 (.tmp 92)) (some (89 , false))) :: o74_10)
theorem v74_11 : type_of% (@swd _ _ o74_11.eq_1) := @swd _ _ o74_11.eq_1
def o74_12 : List SO := ((SO.mk (some 86) (.load 3 (.tmp 85)) (some (82 , false))) :: (SO.mk (some 87) (.bin .gtr 3 (.tmp 84) (.tmp 86)) (some (82 , false))) :: (SO.mk (some 88) (.pick (.tmp 82) (.const (Value.bool true)) (.tmp 87)) none) :: (SO.mk (some 89) (.move (.tmp 88)) none) :: o74_11)
theorem v74_12 : type_of% (@swd _ _ o74_12.eq_1) := @swd _ _ o74_12.eq_1
def o74_13 : List SO := ((SO.mk (some 82) (.move (.tmp 81)) none) :: (SO.mk (some 83) (.faddr 45 (.tmp 3) 8) (some (82 , false))) :: (SO.mk (some 84) (.load 3 (.tmp 83)) (some (82 , false))) :: (SO.mk (some 85) (.faddr 23 (.tmp 2) 0) (some (82 , false))) :: o74_12)
theorem v74_13 : type_of% (@swd _ _ o74_13.eq_1) := @swd _ _ o74_13.eq_1
def o74_14 : List SO := ((SO.mk (some 78) (.faddr 45 (.tmp 3) 8) (some (77 , false))) :: (SO.mk (some 79) (.load 3 (.tmp 78)) (some (77 , false))) :: (SO.mk (some 80) (.bin .lss 3 (.tmp 79) (.const (Value.int .i64 0))) (some (77 , false))) :: (SO.mk (some 81) (.pick (.tmp 77) (.const (Value.bool true)) (.tmp 80)) none) :: o74_13)
theorem v74_14 : type_of% (@swd _ _ o74_14.eq_1) := @swd _ _ o74_14.eq_1
def o74_15 : List SO := ((SO.mk (some 74) (.load 3 (.tmp 73)) (some (70 , false))) :: (SO.mk (some 75) (.bin .geq 3 (.tmp 72) (.tmp 74)) (some (70 , false))) :: (SO.mk (some 76) (.pick (.tmp 70) (.const (Value.bool true)) (.tmp 75)) none) :: (SO.mk (some 77) (.move (.tmp 76)) none) :: o74_14)
theorem v74_15 : type_of% (@swd _ _ o74_15.eq_1) := @swd _ _ o74_15.eq_1
def o74_16 : List SO := ((SO.mk (some 70) (.move (.tmp 69)) none) :: (SO.mk (some 71) (.faddr 45 (.tmp 3) 4) (some (70 , false))) :: (SO.mk (some 72) (.load 3 (.tmp 71)) (some (70 , false))) :: (SO.mk (some 73) (.faddr 23 (.tmp 2) 0) (some (70 , false))) :: o74_15)
theorem v74_16 : type_of% (@swd _ _ o74_16.eq_1) := @swd _ _ o74_16.eq_1
def o74_17 : List SO := ((SO.mk (some 66) (.faddr 45 (.tmp 3) 4) (some (65 , false))) :: (SO.mk (some 67) (.load 3 (.tmp 66)) (some (65 , false))) :: (SO.mk (some 68) (.bin .lss 3 (.tmp 67) (.const (Value.int .i64 0))) (some (65 , false))) :: (SO.mk (some 69) (.pick (.tmp 65) (.const (Value.bool true)) (.tmp 68)) none) :: o74_16)
theorem v74_17 : type_of% (@swd _ _ o74_17.eq_1) := @swd _ _ o74_17.eq_1
def o74_18 : List SO := ((SO.mk (some 62) (.bin .mul 3 (.tmp 61) (.const (Value.int .i64 64))) (some (57 , false))) :: (SO.mk (some 63) (.bin .gtr 3 (.tmp 59) (.tmp 62)) (some (57 , false))) :: (SO.mk (some 64) (.pick (.tmp 57) (.const (Value.bool true)) (.tmp 63)) none) :: (SO.mk (some 65) (.move (.tmp 64)) none) :: o74_17)
theorem v74_18 : type_of% (@swd _ _ o74_18.eq_1) := @swd _ _ o74_18.eq_1
def o74_19 : List SO := ((SO.mk (some 58) (.faddr 45 (.tmp 3) 3) (some (57 , false))) :: (SO.mk (some 59) (.load 3 (.tmp 58)) (some (57 , false))) :: (SO.mk (some 60) (.faddr 23 (.tmp 2) 1) (some (57 , false))) :: (SO.mk (some 61) (.load 3 (.tmp 60)) (some (57 , false))) :: o74_18)
theorem v74_19 : type_of% (@swd _ _ o74_19.eq_1) := @swd _ _ o74_19.eq_1
def o74_20 : List SO := ((SO.mk (some 54) (.load 3 (.tmp 53)) (some (52 , false))) :: (SO.mk (some 55) (.bin .lss 3 (.tmp 54) (.const (Value.int .i64 0))) (some (52 , false))) :: (SO.mk (some 56) (.pick (.tmp 52) (.const (Value.bool true)) (.tmp 55)) none) :: (SO.mk (some 57) (.move (.tmp 56)) none) :: o74_19)
theorem v74_20 : type_of% (@swd _ _ o74_20.eq_1) := @swd _ _ o74_20.eq_1
def o74_21 : List SO := ((SO.mk (some 50) (.bin .gtr 3 (.tmp 49) (.const (Value.int .i64 1))) (some (47 , false))) :: (SO.mk (some 51) (.pick (.tmp 47) (.const (Value.bool true)) (.tmp 50)) none) :: (SO.mk (some 52) (.move (.tmp 51)) none) :: (SO.mk (some 53) (.faddr 45 (.tmp 3) 3) (some (52 , false))) :: o74_20)
theorem v74_21 : type_of% (@swd _ _ o74_21.eq_1) := @swd _ _ o74_21.eq_1
def o74_22 : List SO := ((SO.mk (some 46) (.pick (.tmp 42) (.const (Value.bool true)) (.tmp 45)) none) :: (SO.mk (some 47) (.move (.tmp 46)) none) :: (SO.mk (some 48) (.faddr 45 (.tmp 3) 2) (some (47 , false))) :: (SO.mk (some 49) (.load 3 (.tmp 48)) (some (47 , false))) :: o74_21)
theorem v74_22 : type_of% (@swd _ _ o74_22.eq_1) := @swd _ _ o74_22.eq_1
def o74_23 : List SO := ((SO.mk (some 42) (.move (.tmp 41)) none) :: (SO.mk (some 43) (.faddr 45 (.tmp 3) 2) (some (42 , false))) :: (SO.mk (some 44) (.load 3 (.tmp 43)) (some (42 , false))) :: (SO.mk (some 45) (.bin .lss 3 (.tmp 44) (.const (Value.int .i64 0))) (some (42 , false))) :: o74_22)
theorem v74_23 : type_of% (@swd _ _ o74_23.eq_1) := @swd _ _ o74_23.eq_1
def o74_24 : List SO := ((SO.mk (some 38) (.faddr 45 (.tmp 3) 5) (some (35 , false))) :: (SO.mk (some 39) (.load 3 (.tmp 38)) (some (35 , false))) :: (SO.mk (some 40) (.bin .lss 3 (.tmp 37) (.tmp 39)) (some (35 , false))) :: (SO.mk (some 41) (.pick (.tmp 35) (.const (Value.bool true)) (.tmp 40)) none) :: o74_23)
theorem v74_24 : type_of% (@swd _ _ o74_24.eq_1) := @swd _ _ o74_24.eq_1
def o74_25 : List SO := ((SO.mk (some 34) (.move (.tmp 6)) none) :: (SO.mk (some 35) (.move (.tmp 34)) none) :: (SO.mk (some 36) (.faddr 45 (.tmp 3) 7) (some (35 , false))) :: (SO.mk (some 37) (.load 3 (.tmp 36)) (some (35 , false))) :: o74_24)
theorem v74_25 : type_of% (@swd _ _ o74_25.eq_1) := @swd _ _ o74_25.eq_1
theorem m74_25 (B : Nat) : mkNames B o74_25 = [] := (rfl)
def c74_26 : SC := (.seq (.reg [SO.mk (some 4) (.move (.const (Value.int .i64 9))) none]) (.keep [4] .ret))
theorem u74_26 : type_of% (@swc _ _ c74_26.eq_1) := @swc _ _ c74_26.eq_1
def c74_27 : SC := (.cond (.tmp 101) c74_26 .skip)
theorem u74_27 : type_of% (@swc _ _ c74_27.eq_1) := @swc _ _ c74_27.eq_1
def c74_28 : SC := (.seq (.reg [SO.mk (some 4) (.move (.const (Value.int .i64 0))) none]) (.keep [4] .ret))
theorem u74_28 : type_of% (@swc _ _ c74_28.eq_1) := @swc _ _ c74_28.eq_1
def c74_29 : SC := (.seq (.seq (.dreg false o74_25 []) (.keep [101] c74_27)) (.keep [] c74_28))
theorem u74_29 : type_of% (@swc _ _ c74_29.eq_1) := @swc _ _ c74_29.eq_1
def c74_30 : SC := (.seq (.reg ((SO.mk (some 12) (.faddr 45 (.tmp 3) 0) none) :: (SO.mk (some 13) (.load 3 (.tmp 12)) none) :: (SO.mk (some 14) (.faddr 45 (.tmp 3) 1) none) :: (SO.mk (some 15) (.load 3 (.tmp 14)) none) :: o74_8)) (.keep [6, 3, 2] c74_29))
theorem u74_30 : type_of% (@swc _ _ c74_30.eq_1) := @swc _ _ c74_30.eq_1
def c74_31 : SC := (.seq (.seq (.reg [SO.mk (some 7) (.load 23 (.tmp 2)) none, SO.mk (some 8) (.call 45 [(.tmp 7)]) none, SO.mk (some 5) (.move (.tmp 8)) none]) (.keep [5, 3, 2] c74_3)) (.keep [3, 2] c74_30))
theorem u74_31 : type_of% (@swc _ _ c74_31.eq_1) := @swc _ _ c74_31.eq_1
def c74 : SC := (.seq (.reg [SO.mk (some 2) (.box 23 (.tmp 0)) none, SO.mk (some 3) (.box 45 (.tmp 1)) none, SO.mk (some 4) (.move (.const (Value.int .i64 0))) none]) (.keep [3, 2] c74_31))
theorem c74_eq : annC Try.f74 = some c74 := by kernel_rfl
theorem r74 : Try.f74.results.toList = [.tmp 4] := by kernel_rfl
theorem e74 : enters Try.prog 74 = true := by kernel_rfl
def c65_1 : SC := (.seq (.reg [SO.mk (some 10) (.move (.tmp 5)) none, SO.mk (some 4) (.move (.tmp 10)) none]) (.keep [4] .ret))
theorem u65_1 : type_of% (@swc _ _ c65_1.eq_1) := @swc _ _ c65_1.eq_1
def c65_2 : SC := (.cond (.tmp 9) c65_1 .skip)
theorem u65_2 : type_of% (@swc _ _ c65_2.eq_1) := @swc _ _ c65_2.eq_1
def o65_3 : List SO := ((SO.mk (some 31) (.load 3 (.tmp 30)) (some (27 , false))) :: (SO.mk (some 32) (.call 24 [(.tmp 29), (.tmp 31), (.const (Value.int .i64 1048576))]) (some (27 , false))) :: (SO.mk (some 33) (.un .not (.tmp 32)) (some (27 , false))) :: (SO.mk (some 34) (.pick (.tmp 27) (.const (Value.bool true)) (.tmp 33)) none) :: [])
theorem v65_3 : type_of% (@swl _ _ o65_3.eq_1) := @swl _ _ o65_3.eq_1
def o65_4 : List SO := ((SO.mk (some 27) (.move (.tmp 26)) none) :: (SO.mk (some 28) (.faddr 45 (.tmp 3) 7) (some (27 , false))) :: (SO.mk (some 29) (.load 3 (.tmp 28)) (some (27 , false))) :: (SO.mk (some 30) (.faddr 45 (.tmp 3) 5) (some (27 , false))) :: o65_3)
theorem v65_4 : type_of% (@swl _ _ o65_4.eq_1) := @swl _ _ o65_4.eq_1
def o65_5 : List SO := ((SO.mk (some 23) (.load 3 (.tmp 22)) (some (21 , false))) :: (SO.mk (some 24) (.call 24 [(.tmp 23), (.const (Value.int .i64 1)), (.const (Value.int .i64 1048576))]) (some (21 , false))) :: (SO.mk (some 25) (.un .not (.tmp 24)) (some (21 , false))) :: (SO.mk (some 26) (.pick (.tmp 21) (.const (Value.bool true)) (.tmp 25)) none) :: o65_4)
theorem v65_5 : type_of% (@swl _ _ o65_5.eq_1) := @swl _ _ o65_5.eq_1
def o65_6 : List SO := ((SO.mk (some 19) (.un .not (.tmp 18)) (some (15 , false))) :: (SO.mk (some 20) (.pick (.tmp 15) (.const (Value.bool true)) (.tmp 19)) none) :: (SO.mk (some 21) (.move (.tmp 20)) none) :: (SO.mk (some 22) (.faddr 45 (.tmp 3) 5) (some (21 , false))) :: o65_5)
theorem v65_6 : type_of% (@swl _ _ o65_6.eq_1) := @swl _ _ o65_6.eq_1
def o65_7 : List SO := ((SO.mk (some 15) (.move (.tmp 14)) none) :: (SO.mk (some 16) (.faddr 45 (.tmp 3) 1) (some (15 , false))) :: (SO.mk (some 17) (.load 3 (.tmp 16)) (some (15 , false))) :: (SO.mk (some 18) (.call 24 [(.tmp 17), (.const (Value.int .i64 1)), (.const (Value.int .i64 1048576))]) (some (15 , false))) :: o65_6)
theorem v65_7 : type_of% (@swl _ _ o65_7.eq_1) := @swl _ _ o65_7.eq_1
def c65_8 : SC := (.seq (.reg [SO.mk (some 4) (.move (.const (Value.int .i64 9))) none]) (.keep [4] .ret))
theorem u65_8 : type_of% (@swc _ _ c65_8.eq_1) := @swc _ _ c65_8.eq_1
def c65_9 : SC := (.cond (.tmp 34) c65_8 .skip)
theorem u65_9 : type_of% (@swc _ _ c65_9.eq_1) := @swc _ _ c65_9.eq_1
def o65_10 : List SO := ((SO.mk (some 75) (.bin .rem 3 (.tmp 72) (.tmp 74)) (some (65 , false))) :: (SO.mk (some 76) (.bin .neq 3 (.tmp 67) (.tmp 75)) (some (65 , false))) :: (SO.mk (some 77) (.pick (.tmp 65) (.const (Value.bool true)) (.tmp 76)) none) :: [])
theorem v65_10 : type_of% (@swd _ _ o65_10.eq_1) := @swd _ _ o65_10.eq_1
def o65_11 : List SO := ((SO.mk (some 71) (.load 3 (.tmp 70)) (some (65 , false))) :: (SO.mk (some 72) (.bin .add 3 (.tmp 69) (.tmp 71)) (some (65 , false))) :: (SO.mk (some 73) (.faddr 23 (.tmp 2) 0) (some (65 , false))) :: (SO.mk (some 74) (.load 3 (.tmp 73)) (some (65 , false))) :: o65_10)
theorem v65_11 : type_of% (@swd _ _ o65_11.eq_1) := @swd _ _ o65_11.eq_1
def o65_12 : List SO := ((SO.mk (some 67) (.load 3 (.tmp 66)) (some (65 , false))) :: (SO.mk (some 68) (.faddr 45 (.tmp 3) 4) (some (65 , false))) :: (SO.mk (some 69) (.load 3 (.tmp 68)) (some (65 , false))) :: (SO.mk (some 70) (.faddr 45 (.tmp 3) 8) (some (65 , false))) :: o65_11)
theorem v65_12 : type_of% (@swd _ _ o65_12.eq_1) := @swd _ _ o65_12.eq_1
def o65_13 : List SO := ((SO.mk (some 63) (.un .not (.tmp 62)) (some (57 , false))) :: (SO.mk (some 64) (.pick (.tmp 57) (.const (Value.bool true)) (.tmp 63)) none) :: (SO.mk (some 65) (.move (.tmp 64)) none) :: (SO.mk (some 66) (.faddr 45 (.tmp 3) 6) (some (65 , false))) :: o65_12)
theorem v65_13 : type_of% (@swd _ _ o65_13.eq_1) := @swd _ _ o65_13.eq_1
def o65_14 : List SO := ((SO.mk (some 59) (.load 3 (.tmp 58)) (some (57 , false))) :: (SO.mk (some 60) (.faddr 23 (.tmp 2) 0) (some (57 , false))) :: (SO.mk (some 61) (.load 3 (.tmp 60)) (some (57 , false))) :: (SO.mk (some 62) (.call 24 [(.tmp 59), (.const (Value.int .i64 0)), (.tmp 61)]) (some (57 , false))) :: o65_13)
theorem v65_14 : type_of% (@swd _ _ o65_14.eq_1) := @swd _ _ o65_14.eq_1
def o65_15 : List SO := ((SO.mk (some 55) (.un .not (.tmp 54)) (some (48 , false))) :: (SO.mk (some 56) (.pick (.tmp 48) (.const (Value.bool true)) (.tmp 55)) none) :: (SO.mk (some 57) (.move (.tmp 56)) none) :: (SO.mk (some 58) (.faddr 45 (.tmp 3) 8) (some (57 , false))) :: o65_14)
theorem v65_15 : type_of% (@swd _ _ o65_15.eq_1) := @swd _ _ o65_15.eq_1
def o65_16 : List SO := ((SO.mk (some 51) (.faddr 23 (.tmp 2) 0) (some (48 , false))) :: (SO.mk (some 52) (.load 3 (.tmp 51)) (some (48 , false))) :: (SO.mk (some 53) (.bin .sub 3 (.tmp 52) (.const (Value.int .i64 1))) (some (48 , false))) :: (SO.mk (some 54) (.call 24 [(.tmp 50), (.const (Value.int .i64 0)), (.tmp 53)]) (some (48 , false))) :: o65_15)
theorem v65_16 : type_of% (@swd _ _ o65_16.eq_1) := @swd _ _ o65_16.eq_1
def o65_17 : List SO := ((SO.mk (some 47) (.pick (.tmp 39) (.const (Value.bool true)) (.tmp 46)) none) :: (SO.mk (some 48) (.move (.tmp 47)) none) :: (SO.mk (some 49) (.faddr 45 (.tmp 3) 4) (some (48 , false))) :: (SO.mk (some 50) (.load 3 (.tmp 49)) (some (48 , false))) :: o65_16)
theorem v65_17 : type_of% (@swd _ _ o65_17.eq_1) := @swd _ _ o65_17.eq_1
def o65_18 : List SO := ((SO.mk (some 43) (.load 3 (.tmp 42)) (some (39 , false))) :: (SO.mk (some 44) (.bin .mul 3 (.const (Value.int .i64 64)) (.tmp 43)) (some (39 , false))) :: (SO.mk (some 45) (.call 24 [(.tmp 41), (.const (Value.int .i64 0)), (.tmp 44)]) (some (39 , false))) :: (SO.mk (some 46) (.un .not (.tmp 45)) (some (39 , false))) :: o65_17)
theorem v65_18 : type_of% (@swd _ _ o65_18.eq_1) := @swd _ _ o65_18.eq_1
def o65_19 : List SO := ((SO.mk (some 39) (.move (.tmp 38)) none) :: (SO.mk (some 40) (.faddr 45 (.tmp 3) 3) (some (39 , false))) :: (SO.mk (some 41) (.load 3 (.tmp 40)) (some (39 , false))) :: (SO.mk (some 42) (.faddr 23 (.tmp 2) 1) (some (39 , false))) :: o65_18)
theorem v65_19 : type_of% (@swd _ _ o65_19.eq_1) := @swd _ _ o65_19.eq_1
def o65_20 : List SO := ((SO.mk (some 35) (.faddr 45 (.tmp 3) 2) none) :: (SO.mk (some 36) (.load 3 (.tmp 35)) none) :: (SO.mk (some 37) (.call 24 [(.tmp 36), (.const (Value.int .i64 0)), (.const (Value.int .i64 1))]) none) :: (SO.mk (some 38) (.un .not (.tmp 37)) none) :: o65_19)
theorem v65_20 : type_of% (@swd _ _ o65_20.eq_1) := @swd _ _ o65_20.eq_1
theorem m65_20 (B : Nat) : mkNames B o65_20 = [] := (rfl)
def c65_21 : SC := (.seq (.reg [SO.mk (some 4) (.move (.const (Value.int .i64 9))) none]) (.keep [4] .ret))
theorem u65_21 : type_of% (@swc _ _ c65_21.eq_1) := @swc _ _ c65_21.eq_1
def c65_22 : SC := (.cond (.tmp 77) c65_21 .skip)
theorem u65_22 : type_of% (@swc _ _ c65_22.eq_1) := @swc _ _ c65_22.eq_1
def c65_23 : SC := (.seq (.reg [SO.mk (some 4) (.move (.const (Value.int .i64 0))) none]) (.keep [4] .ret))
theorem u65_23 : type_of% (@swc _ _ c65_23.eq_1) := @swc _ _ c65_23.eq_1
def c65_24 : SC := (.seq (.seq (.dreg false o65_20 []) (.keep [77] c65_22)) (.keep [] c65_23))
theorem u65_24 : type_of% (@swc _ _ c65_24.eq_1) := @swc _ _ c65_24.eq_1
def c65_25 : SC := (.seq (.seq (.reg ((SO.mk (some 11) (.faddr 45 (.tmp 3) 0) none) :: (SO.mk (some 12) (.load 3 (.tmp 11)) none) :: (SO.mk (some 13) (.call 24 [(.tmp 12), (.const (Value.int .i64 1)), (.const (Value.int .i64 1048576))]) none) :: (SO.mk (some 14) (.un .not (.tmp 13)) none) :: o65_7)) (.keep [34, 3, 2] c65_9)) (.keep [3, 2] c65_24))
theorem u65_25 : type_of% (@swc _ _ c65_25.eq_1) := @swc _ _ c65_25.eq_1
def c65_26 : SC := (.seq (.seq (.reg [SO.mk (some 8) (.move (.tmp 5)) none, SO.mk (some 9) (.bin .neq 30 (.tmp 8) (.const (Value.int .i64 0))) none]) (.keep [9, 5, 3, 2] c65_2)) (.keep [3, 2] c65_25))
theorem u65_26 : type_of% (@swc _ _ c65_26.eq_1) := @swc _ _ c65_26.eq_1
def c65_27 : SC := (.seq (.reg [SO.mk (some 6) (.load 23 (.tmp 2)) none, SO.mk (some 7) (.call 54 [(.tmp 6)]) none, SO.mk (some 5) (.move (.tmp 7)) none]) (.keep [5, 3, 2] c65_26))
theorem u65_27 : type_of% (@swc _ _ c65_27.eq_1) := @swc _ _ c65_27.eq_1
def c65 : SC := (.seq (.reg [SO.mk (some 2) (.box 23 (.tmp 0)) none, SO.mk (some 3) (.box 45 (.tmp 1)) none, SO.mk (some 4) (.move (.const (Value.int .i64 0))) none]) (.keep [3, 2] c65_27))
theorem c65_eq : annC Try.f65 = some c65 := by kernel_rfl
theorem r65 : Try.f65.results.toList = [.tmp 4] := by kernel_rfl
theorem e65 : enters Try.prog 65 = true := by kernel_rfl
end Go.Proofs.Ytalhjhmphdgaoaa
namespace Go.Proofs.Ytalhjhmphdgaoaa
open Go.RowKit
set_option maxHeartbeats 4000000
set_option maxRecDepth 20000
attribute [local irreducible] SW SWL SWLn SWD SEcall SEcallv SDv SE SO1 SOg ACalls ACallv Wk EndV
set_option linter.unusedSimpArgs false
set_option linter.unusedVariables false
structure JOk (g : GeoD) (j : JrnD) : Prop where
  g1 : 1 ≤ j.gen
  g2 : j.gen ≤ 1048576
  e1 : 1 ≤ j.epoch
  e2 : j.epoch ≤ 1048576
  f1 : 1 ≤ j.first
  n1 : j.first ≤ j.next
  n2 : j.next ≤ 1048576
  a1 : 0 ≤ j.area
  a2 : j.area ≤ 1
  l1 : 0 ≤ j.length
  l2 : j.length ≤ 64 * g.area
  s1 : 0 ≤ j.start
  s2 : j.start < g.ring
  u1 : 0 ≤ j.used
  u2 : j.used ≤ g.ring
  p : j.place = (j.start + j.used).tmod g.ring
open Classical in
noncomputable def jrnF (g : GeoD) (j : JrnD) : Int := if geoOk g = true then (if JOk g j then 0 else 9) else 2
theorem jrn_geo {g : GeoD} {j : JrnD} (h : geoF g ≠ 0) : geoF g = jrnF g j := by
  unfold geoF at h ⊢; unfold jrnF
  cases hg : geoOk g
  · rfl
  · rw [hg] at h; exact absurd rfl h
theorem geo_of_F {g : GeoD} (h : geoF g = 0) : geoOk g = true := by
  unfold geoF at h
  cases hg : geoOk g
  · rw [hg] at h; simp at h
  · rfl
structure GeoB (g : GeoD) : Prop where
  r1 : 4 ≤ g.ring
  r2 : g.ring ≤ 60
  a1 : 2 ≤ g.area
  a2 : g.area ≤ 80
  h1 : 2 ≤ g.hot
  h2 : g.hot ≤ 200
theorem geoB {g : GeoD} (h : geoOk g = true) : GeoB g := by
  simp only [geoOk, inR, Bool.and_eq_true, decide_eq_true_eq] at h
  exact ⟨by omega, by omega, by omega, by omega, by omega, by omega⟩
theorem geoF_or (g : GeoD) : geoF g = 0 ∨ ((geoF g == 0) = false ∧ (geoF g != 0) = true) := by
  by_cases h : geoF g = 0
  · exact .inl h
  · exact .inr ⟨by simpa using h, by simpa using h⟩
theorem jrn_bad {g : GeoD} {j : JrnD} (h : geoOk g = true) (hn : ¬ JOk g j) : (9 : Int) = jrnF g j := by
  unfold jrnF; rw [if_pos h, if_neg hn]
theorem jrn_ok {g : GeoD} {j : JrnD} (h : geoOk g = true) (hn : JOk g j) : (0 : Int) = jrnF g j := by
  unfold jrnF; rw [if_pos h, if_pos hn]
def mn4 (a b c d : Int) : Int := if decide (d < (if decide (c < (if decide (b < a) = true then b else a)) = true then c else (if decide (b < a) = true then b else a))) = true then d else (if decide (c < (if decide (b < a) = true then b else a)) = true then c else (if decide (b < a) = true then b else a))
def mx4 (a b c d : Int) : Int := if decide ((if decide ((if decide (a < b) = true then b else a) < c) = true then c else (if decide (a < b) = true then b else a)) < d) = true then d else (if decide ((if decide (a < b) = true then b else a) < c) = true then c else (if decide (a < b) = true then b else a))
theorem minV4 (a b c d : Int) : minV true [I a, I b, I c, I d] = some (I (mn4 a b c d)) := rfl
theorem maxV4 (a b c d : Int) : minV false [I a, I b, I c, I d] = some (I (mx4 a b c d)) := rfl
theorem mn4_lt {a b c d x : Int} : mn4 a b c d < x ↔ (a < x ∨ b < x ∨ c < x ∨ d < x) := by
  unfold mn4; simp only [decide_eq_true_eq]; (repeat' split) <;> omega
theorem mx4_gt {a b c d x : Int} : mx4 a b c d > x ↔ (a > x ∨ b > x ∨ c > x ∨ d > x) := by
  unfold mx4; simp only [decide_eq_true_eq]; (repeat' split) <;> omega
theorem ringCheck_p (g : GeoD) (j : JrnD) : Pure Try.prog 74 [g.av, j.av] (I (jrnF g j)) := by
  refine pure_of follows Try.func74 c74_eq r74 (Nat.le_of_ble_eq_true rfl) fun B σ hcl _ => ?_
  rcases geoF_or g with h1 | ⟨h1, h1'⟩
  all_goals (try (
    have hB := geoB (geo_of_F h1)
    obtain ⟨gr1, gr2, ga1, ga2, gh1, gh2⟩ := hB
    have q0 : (g.ring = 0) = False := eq_false (by omega)
    have q1 : IntKind.i64.wrap (g.area * 64) = g.area * 64 := IntWalk.i64_in _ (by omega)))
  repeat' (first | (simp -implicitDefEqProofs only [*, contN, contC, Nat.reduceBEq, Bool.or_false, Bool.or_true, Bool.false_or, Bool.true_or, Bool.not_true, Bool.not_false, w_skip, w_ret, w_exit, w_reg, w_dreg, w_seq, SK_n, SK_r, SK_x, w_keep, w_block, w_cond, w_nil, w_cons, w_consg, w_nnil, w_ncons, w_dnil, w_dcons, w_dconsg, HK_app, HD_app, HQ_n, HQ_r, HQ_x, HQ_bn, HQ_br, HQ_bx, HQ_en, HQ_er, HQ_ex, CondB_true, CondB_false, SO1, w_sdv, SDe_alloc, SDe_box, SDe_bslice, SDe_app, true_imp_iff, false_imp_iff, and_false, false_and, not_false_eq_true, not_true_eq_false, addN, mkNames, killT, killD, killO, List.foldl_nil, List.foldl_cons, List.append_nil, List.nil_append, List.cons_append, GuardS_true, GuardS_false, GuardD_true, GuardD_false, DK_true, DK_false, lt_self_add, le_self_add, decide_true, decide_false, Bool.false_eq_true, Bool.true_eq_false, Nat.add_left_cancel_iff, SE, SEalloc, SEbox, SEstore, w_bs, SEbl, SEfz, SEbs0, fzName, osOf, AV.fz1, w_app, w_mk, aev, opd, Fr.get, putO, Fr.norm, List.map_cons, List.map_nil, with1, with2, onInt, AV.lit, entry, ↓reduceIte, Nat.reduceEqDiff, Nat.reduceAdd, reduceCtorEq, true_and, and_true, Option.map_some, Option.map_none, Option.bind_some, Option.bind_none, cond_true, cond_false, binV, unV, fieldV, loadV, sto, cellsAV, newF, newL, Fr.map, Loc.kill, Loc.set, AO.kill, AV.kill, AV.mapN, AV.mapNL, List.filter_nil, List.filter_cons, allP, EndV, retV, resV, resL, frz, dropL, AV.pick, nilV, tupV, imp_self, ne_eq, Int.cast_ofNat_Int, Int.reduceLT, Int.reduceToNat, List.getD_cons_zero, List.getD_cons_succ, bsliceV, buildV, afill, repl, chunk, rvs, AV.rv, RV.nrm, List.getElem?_nil, List.append_assoc, Nat.reduceMul, Nat.reducePow, Nat.zero_lt_succ, Nat.zero_add, Nat.add_zero, List.length_cons, List.length_nil, Nat.reduceLeDiff, Nat.le_refl, List.take_succ_cons, List.take_zero, List.drop_succ_cons, List.drop_zero, indexV, lenV, rowOf_mapD, rowOf_mapI, rowOf_mapA, List.length_map, Int.toNat_natCast, List.getElem?_cons_zero, List.getElem?_cons_succ, and_self, implies_true, if_true, if_false, HQ_zn, HQ_zr, HQ_wn, HQ_wr, AV.nz, AV.nzL, RV.nrm, SEbin, SEnil, nilK, srcV, dstV, appName, List.length_append, Nat.mul_one, take_map_len, take_map_app, List.getElem?_cons_zero, List.map_append, SEmkmap, SEmset, mgetV, kvOf, getM, setM, c74, r74, u74_1, u74_2, u74_3, v74_4, v74_5, v74_6, v74_7, v74_8, v74_9, v74_10, v74_11, v74_12, v74_13, v74_14, v74_15, v74_16, v74_17, v74_18, v74_19, v74_20, v74_21, v74_22, v74_23, v74_24, v74_25, m74_25, u74_26, u74_27, u74_28, u74_29, u74_30, u74_31, ty23, ty45, ty30, ty3, GeoD.av, JrnD.av, JrnD.cells, minV4, maxV4, bne_self_eq_false]) | (with_reducible refine And.intro ?_ ?_) | (refine call_ro e45 ( checkGeo_p g) rfl ?_ ?_ ?_ ?_) | (refine gcall_ro e45 ( checkGeo_p g) rfl ?_ ?_ ?_ ?_) | (refine dcall_ro e45 ( checkGeo_p g) rfl ?_ ?_ ?_ ?_) | (refine gdcall_ro rfl e45 ( checkGeo_p g) rfl ?_ ?_ ?_ ?_) | (refine EndX.plain ?_) | (refine nil_split (fun hn => ?_) (fun hn => ?_)) | (refine gcall_no not_false ?_) | (refine gdcall_no not_false ?_) | (refine GuardS_of _ _ _ _ _ _ (fun hg => ?_) (fun hg => ?_)) | (refine GuardD_of _ _ _ _ (fun hg => ?_) (fun hg => ?_)) | (refine CondB_of _ _ _ _ _ _ _ ?_ (fun hg => ?_) (fun hg => ?_)))
  all_goals (try (first | ((first | unfold noN | unfold Fr.below | unfold Loc.below); simp [Fr.allN, AV.allN, AV.allNL, AO.allN]; done) | rfl | trivial | assumption | (intro row hrow; simp only [List.mem_map] at hrow; obtain ⟨x, _, rfl⟩ := hrow; rfl) | (refine Wk.keep hcl ?_ ?_ ?_; (focus (simp [Fr.get, GeoD.av, JrnD.av, JrnD.cells, minV4, maxV4, bne_self_eq_false] <;> fail)); (focus (simp [sto, GeoD.av, JrnD.av, JrnD.cells, minV4, maxV4, bne_self_eq_false] <;> fail)); (focus (simp <;> fail))) | (simp [allP, opd, Fr.get, Fr.below, Fr.allN, AV.allN, AV.allNL, Loc.below, AO.allN, noN, killO, killT, killD, mkNames, AO.kill, AV.kill, AV.mapN, AV.mapNL]; done) | (with_reducible exact ltD (by assumption)) | omega | (simp only [decide_eq_true_eq, decide_eq_false_iff_not] at *; omega)))
  all_goals first
    | (refine congrArg (fun n => AV.d (RV.v (Value.int IntKind.i64 n))) (jrn_geo ?_); simpa using h1)
    | (refine congrArg (fun n => AV.d (RV.v (Value.int IntKind.i64 n))) (jrn_bad (geo_of_F h1) fun hJ => ?_)
       obtain ⟨z1, z2, z3, z4, z5, z6, z7, z8, z9, z10, z11, z12, z13, z14, z15, z16⟩ := hJ
       have hw : IntKind.i64.wrap (j.start + j.used) = j.start + j.used := IntWalk.i64_in _ (by omega)
       simp only [decide_eq_true_eq, decide_eq_false_iff_not, mn4_lt, mx4_gt, inR, hw, bne_iff_ne, ne_eq, Bool.not_eq_true', Bool.and_eq_false_iff] at *
       first | omega | contradiction)
    | (refine congrArg (fun n => AV.d (RV.v (Value.int IntKind.i64 n))) (jrn_ok (geo_of_F h1) ?_)
       simp only [decide_eq_true_eq, decide_eq_false_iff_not, mn4_lt, mx4_gt, inR, bne_eq_false_iff_eq, Bool.not_eq_false', Bool.and_eq_true] at *
       have hw : IntKind.i64.wrap (j.start + j.used) = j.start + j.used := IntWalk.i64_in _ (by omega)
       refine ⟨?_, ?_, ?_, ?_, ?_, ?_, ?_, ?_, ?_, ?_, ?_, ?_, ?_, ?_, ?_, by rw [← hw]; assumption⟩ <;> omega)
theorem journalFault_p (g : GeoD) (j : JrnD) : Pure Try.prog 65 [g.av, j.av] (I (jrnF g j)) := by
  refine pure_of follows Try.func65 c65_eq r65 (Nat.le_of_ble_eq_true rfl) fun B σ hcl _ => ?_
  rcases geoF_or g with h1 | ⟨h1, h1'⟩
  all_goals (try (
    have hB := geoB (geo_of_F h1)
    obtain ⟨gr1, gr2, ga1, ga2, gh1, gh2⟩ := hB
    have q0 : (g.ring = 0) = False := eq_false (by omega)
    have q1 : IntKind.i64.wrap (64 * g.area) = 64 * g.area := IntWalk.i64_in _ (by omega)
    have q2 : IntKind.i64.wrap (g.ring - 1) = g.ring - 1 := IntWalk.i64_in _ (by omega)))
  repeat' (first | (simp -implicitDefEqProofs only [*, contN, contC, Nat.reduceBEq, Bool.or_false, Bool.or_true, Bool.false_or, Bool.true_or, Bool.not_true, Bool.not_false, w_skip, w_ret, w_exit, w_reg, w_dreg, w_seq, SK_n, SK_r, SK_x, w_keep, w_block, w_cond, w_nil, w_cons, w_consg, w_nnil, w_ncons, w_dnil, w_dcons, w_dconsg, HK_app, HD_app, HQ_n, HQ_r, HQ_x, HQ_bn, HQ_br, HQ_bx, HQ_en, HQ_er, HQ_ex, CondB_true, CondB_false, SO1, w_sdv, SDe_alloc, SDe_box, SDe_bslice, SDe_app, true_imp_iff, false_imp_iff, and_false, false_and, not_false_eq_true, not_true_eq_false, addN, mkNames, killT, killD, killO, List.foldl_nil, List.foldl_cons, List.append_nil, List.nil_append, List.cons_append, GuardS_true, GuardS_false, GuardD_true, GuardD_false, DK_true, DK_false, lt_self_add, le_self_add, decide_true, decide_false, Bool.false_eq_true, Bool.true_eq_false, Nat.add_left_cancel_iff, SE, SEalloc, SEbox, SEstore, w_bs, SEbl, SEfz, SEbs0, fzName, osOf, AV.fz1, w_app, w_mk, aev, opd, Fr.get, putO, Fr.norm, List.map_cons, List.map_nil, with1, with2, onInt, AV.lit, entry, ↓reduceIte, Nat.reduceEqDiff, Nat.reduceAdd, reduceCtorEq, true_and, and_true, Option.map_some, Option.map_none, Option.bind_some, Option.bind_none, cond_true, cond_false, binV, unV, fieldV, loadV, sto, cellsAV, newF, newL, Fr.map, Loc.kill, Loc.set, AO.kill, AV.kill, AV.mapN, AV.mapNL, List.filter_nil, List.filter_cons, allP, EndV, retV, resV, resL, frz, dropL, AV.pick, nilV, tupV, imp_self, ne_eq, Int.cast_ofNat_Int, Int.reduceLT, Int.reduceToNat, List.getD_cons_zero, List.getD_cons_succ, bsliceV, buildV, afill, repl, chunk, rvs, AV.rv, RV.nrm, List.getElem?_nil, List.append_assoc, Nat.reduceMul, Nat.reducePow, Nat.zero_lt_succ, Nat.zero_add, Nat.add_zero, List.length_cons, List.length_nil, Nat.reduceLeDiff, Nat.le_refl, List.take_succ_cons, List.take_zero, List.drop_succ_cons, List.drop_zero, indexV, lenV, rowOf_mapD, rowOf_mapI, rowOf_mapA, List.length_map, Int.toNat_natCast, List.getElem?_cons_zero, List.getElem?_cons_succ, and_self, implies_true, if_true, if_false, HQ_zn, HQ_zr, HQ_wn, HQ_wr, AV.nz, AV.nzL, RV.nrm, SEbin, SEnil, nilK, srcV, dstV, appName, List.length_append, Nat.mul_one, take_map_len, take_map_app, List.getElem?_cons_zero, List.map_append, SEmkmap, SEmset, mgetV, kvOf, getM, setM, c65, r65, u65_1, u65_2, v65_3, v65_4, v65_5, v65_6, v65_7, u65_8, u65_9, v65_10, v65_11, v65_12, v65_13, v65_14, v65_15, v65_16, v65_17, v65_18, v65_19, v65_20, m65_20, u65_21, u65_22, u65_23, u65_24, u65_25, u65_26, u65_27, ty23, ty45, ty30, ty3, GeoD.av, JrnD.av, JrnD.cells, bne_self_eq_false]) | (with_reducible refine And.intro ?_ ?_) | (refine call_ro e54 ( geoFault_p g) rfl ?_ ?_ ?_ ?_) | (refine gcall_ro e54 ( geoFault_p g) rfl ?_ ?_ ?_ ?_) | (refine dcall_ro e54 ( geoFault_p g) rfl ?_ ?_ ?_ ?_) | (refine gdcall_ro rfl e54 ( geoFault_p g) rfl ?_ ?_ ?_ ?_) | (refine call_ro e24 ( In_p _ _ _) rfl ?_ ?_ ?_ ?_) | (refine gcall_ro e24 ( In_p _ _ _) rfl ?_ ?_ ?_ ?_) | (refine dcall_ro e24 ( In_p _ _ _) rfl ?_ ?_ ?_ ?_) | (refine gdcall_ro rfl e24 ( In_p _ _ _) rfl ?_ ?_ ?_ ?_) | (refine EndX.plain ?_) | (refine nil_split (fun hn => ?_) (fun hn => ?_)) | (refine gcall_no not_false ?_) | (refine gdcall_no not_false ?_) | (refine GuardS_of _ _ _ _ _ _ (fun hg => ?_) (fun hg => ?_)) | (refine GuardD_of _ _ _ _ (fun hg => ?_) (fun hg => ?_)) | (refine CondB_of _ _ _ _ _ _ _ ?_ (fun hg => ?_) (fun hg => ?_)))
  all_goals (try (first | ((first | unfold noN | unfold Fr.below | unfold Loc.below); simp [Fr.allN, AV.allN, AV.allNL, AO.allN]; done) | rfl | trivial | assumption | (intro row hrow; simp only [List.mem_map] at hrow; obtain ⟨x, _, rfl⟩ := hrow; rfl) | (refine Wk.keep hcl ?_ ?_ ?_; (focus (simp [Fr.get, GeoD.av, JrnD.av, JrnD.cells, bne_self_eq_false] <;> fail)); (focus (simp [sto, GeoD.av, JrnD.av, JrnD.cells, bne_self_eq_false] <;> fail)); (focus (simp <;> fail))) | (simp [allP, opd, Fr.get, Fr.below, Fr.allN, AV.allN, AV.allNL, Loc.below, AO.allN, noN, killO, killT, killD, mkNames, AO.kill, AV.kill, AV.mapN, AV.mapNL]; done) | (with_reducible exact ltD (by assumption)) | omega | (simp only [decide_eq_true_eq, decide_eq_false_iff_not] at *; omega)))
  all_goals first
    | (refine congrArg (fun n => AV.d (RV.v (Value.int IntKind.i64 n))) (jrn_geo ?_); simpa using h1)
    | (refine congrArg (fun n => AV.d (RV.v (Value.int IntKind.i64 n))) (jrn_bad (geo_of_F h1) fun hJ => ?_)
       obtain ⟨z1, z2, z3, z4, z5, z6, z7, z8, z9, z10, z11, z12, z13, z14, z15, z16⟩ := hJ
       have hw : IntKind.i64.wrap (j.start + j.used) = j.start + j.used := IntWalk.i64_in _ (by omega)
       simp only [decide_eq_true_eq, decide_eq_false_iff_not, mn4_lt, mx4_gt, inR, hw, bne_iff_ne, ne_eq, Bool.not_eq_true', Bool.and_eq_false_iff] at *
       first | omega | contradiction)
    | (refine congrArg (fun n => AV.d (RV.v (Value.int IntKind.i64 n))) (jrn_ok (geo_of_F h1) ?_)
       simp only [decide_eq_true_eq, decide_eq_false_iff_not, mn4_lt, mx4_gt, inR, bne_eq_false_iff_eq, Bool.not_eq_false', Bool.and_eq_true] at *
       have hw : IntKind.i64.wrap (j.start + j.used) = j.start + j.used := IntWalk.i64_in _ (by omega)
       refine ⟨?_, ?_, ?_, ?_, ?_, ?_, ?_, ?_, ?_, ?_, ?_, ?_, ?_, ?_, ?_, by rw [← hw]; assumption⟩ <;> omega)
end Go.Proofs.Ytalhjhmphdgaoaa
