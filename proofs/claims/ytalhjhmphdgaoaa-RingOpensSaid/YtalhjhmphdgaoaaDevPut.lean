/- dev.Put and the reference's. CODED ELSEWHERE: slices.Clone[[]byte,byte] -/
import Derived.Test.YtalhjhmphdgaoaaDevFlush
import Derived.Test.YtalhjhmphdgaoaaTypes
namespace Go.Proofs.Ytalhjhmphdgaoaa
open Go.RowKit
set_option maxRecDepth 100000
def o75_1 : List SO := ((SO.mk (some 7) (.bin .sub 3 (.const (Value.int .i64 64)) (.tmp 6)) none) :: (SO.mk (some 8) (.app 29 3 (.tmp 4) (.tmp 7)) none) :: (SO.mk (some 2) (.move (.tmp 8)) none) :: [])
theorem v75_1 : type_of% (@swl _ _ o75_1.eq_1) := @swl _ _ o75_1.eq_1
def c75_2 : SC := (.seq (.reg ((SO.mk (some 3) (.move (.tmp 0)) none) :: (SO.mk (some 4) (.call 22 [(.tmp 3)]) none) :: (SO.mk (some 5) (.move (.tmp 0)) none) :: (SO.mk (some 6) (.len 29 (.tmp 5)) none) :: o75_1)) (.keep [2] .ret))
theorem u75_2 : type_of% (@swc _ _ c75_2.eq_1) := @swc _ _ c75_2.eq_1
def c75 : SC := (.seq (.reg [SO.mk (some 2) (.move (.const (Value.slice none 0 0))) none]) (.keep [0] c75_2))
theorem c75_eq : annC Try.f75 = some c75 := by kernel_rfl
theorem r75 : Try.f75.results.toList = [.tmp 2] := by kernel_rfl
theorem e75 : enters Try.prog 75 = true := by kernel_rfl
def c11_1 : SC := (.seq (.reg [SO.mk (some 3) (.move (.tmp 0)) none, SO.mk (some 4) (.app 29 29 (.const (Value.slice none 0 0)) (.tmp 3)) none, SO.mk (some 2) (.move (.tmp 4)) none]) (.keep [2] .ret))
def c11 : SC := (.seq (.reg [SO.mk (some 2) (.move (.const (Value.slice none 0 0))) none]) (.keep [0] c11_1))
theorem e11 : enters Try.prog 11 = true := by kernel_rfl
def c61_1 : SC := (.seq (.reg [SO.mk (some 18) (.build 28 []) none, SO.mk (some 19) (.move (.tmp 10)) none, SO.mk none (.store 28 (.tmp 8) (.tmp 18)) none, SO.mk (some 9) (.move (.tmp 19)) none]) (.keep [8, 9] .ret))
theorem u61_1 : type_of% (@swc _ _ c61_1.eq_1) := @swc _ _ c61_1.eq_1
def c61_2 : SC := (.cond (.tmp 17) c61_1 .skip)
theorem u61_2 : type_of% (@swc _ _ c61_2.eq_1) := @swc _ _ c61_2.eq_1
def c61_3 : SC := (.seq (.reg [SO.mk (some 16) (.move (.tmp 10)) none, SO.mk (some 17) (.bin .neq 30 (.tmp 16) (.const (Value.int .i64 0))) none]) (.keep [17, 10, 4, 5, 2, 3, 8] c61_2))
theorem u61_3 : type_of% (@swc _ _ c61_3.eq_1) := @swc _ _ c61_3.eq_1
def o61_4 : List SO := ((SO.mk (some 29) (.pick (.tmp 23) (.const (Value.bool true)) (.tmp 28)) none) :: (SO.mk (some 20) (.move (.tmp 29)) none) :: [])
theorem v61_4 : type_of% (@swl _ _ o61_4.eq_1) := @swl _ _ o61_4.eq_1
def o61_5 : List SO := ((SO.mk (some 25) (.faddr 28 (.tmp 5) 0) (some (23 , false))) :: (SO.mk (some 26) (.load 24 (.tmp 25)) (some (23 , false))) :: (SO.mk (some 27) (.len 24 (.tmp 26)) (some (23 , false))) :: (SO.mk (some 28) (.bin .geq 3 (.tmp 24) (.tmp 27)) (some (23 , false))) :: o61_4)
theorem v61_5 : type_of% (@swl _ _ o61_5.eq_1) := @swl _ _ o61_5.eq_1
def c61_6 : SC := (.seq (.reg [SO.mk (some 30) (.build 28 []) none, SO.mk none (.store 28 (.tmp 8) (.tmp 30)) none, SO.mk (some 9) (.move (.const (Value.int .i64 2))) none]) (.keep [8, 9] .ret))
theorem u61_6 : type_of% (@swc _ _ c61_6.eq_1) := @swc _ _ c61_6.eq_1
def c61_7 : SC := (.seq (.reg [SO.mk (some 35) (.build 28 []) none, SO.mk none (.store 28 (.tmp 8) (.tmp 35)) none, SO.mk (some 9) (.move (.const (Value.int .i64 1))) none]) (.keep [8, 9] .ret))
theorem u61_7 : type_of% (@swc _ _ c61_7.eq_1) := @swc _ _ c61_7.eq_1
def c61_8 : SC := (.seq (.reg [SO.mk (some 41) (.build 28 []) none, SO.mk none (.store 28 (.tmp 8) (.tmp 41)) none, SO.mk (some 9) (.move (.const (Value.int .i64 8))) none]) (.keep [8, 9] .ret))
theorem u61_8 : type_of% (@swc _ _ c61_8.eq_1) := @swc _ _ c61_8.eq_1
def c61_9 : SC := (.cond (.tmp 36) c61_8 .skip)
theorem u61_9 : type_of% (@swc _ _ c61_9.eq_1) := @swc _ _ c61_9.eq_1
def c61_10 : SC := (.seq (.reg [SO.mk (some 37) (.faddr 28 (.tmp 5) 1) none, SO.mk (some 38) (.load 25 (.tmp 37)) none, SO.mk (some 39) (.len 25 (.tmp 38)) none, SO.mk (some 40) (.bin .eql 3 (.tmp 39) (.const (Value.int .i64 2000))) none, SO.mk (some 36) (.move (.tmp 40)) none]) (.keep [36, 4, 5, 2, 3, 8] c61_9))
theorem u61_10 : type_of% (@swc _ _ c61_10.eq_1) := @swc _ _ c61_10.eq_1
def c61_11 : SC := (.cond (.tmp 31) c61_7 c61_10)
theorem u61_11 : type_of% (@swc _ _ c61_11.eq_1) := @swc _ _ c61_11.eq_1
def c61_12 : SC := (.seq (.reg [SO.mk (some 32) (.move (.tmp 3)) none, SO.mk (some 33) (.len 29 (.tmp 32)) none, SO.mk (some 34) (.bin .gtr 3 (.tmp 33) (.const (Value.int .i64 64))) none, SO.mk (some 31) (.move (.tmp 34)) none]) (.keep [31, 4, 5, 2, 3, 8] c61_11))
theorem u61_12 : type_of% (@swc _ _ c61_12.eq_1) := @swc _ _ c61_12.eq_1
def c61_13 : SC := (.cond (.tmp 20) c61_6 c61_12)
theorem u61_13 : type_of% (@swc _ _ c61_13.eq_1) := @swc _ _ c61_13.eq_1
def o61_14 : List SO := ((SO.mk (some 12) (.move (.tmp 47)) none) :: [])
theorem v61_14 : type_of% (@swl _ _ o61_14.eq_1) := @swl _ _ o61_14.eq_1
def o61_15 : List SO := ((SO.mk (some 46) (.extract (.tmp 42) 0) none) :: (SO.mk (some 47) (.extract (.tmp 42) 1) none) :: (SO.mk (some 11) (.alloc 28) none) :: (SO.mk none (.store 28 (.tmp 11) (.tmp 46)) none) :: o61_14)
theorem v61_15 : type_of% (@swl _ _ o61_15.eq_1) := @swl _ _ o61_15.eq_1
def c61_16 : SC := (.seq (.reg [SO.mk (some 50) (.build 28 []) none, SO.mk (some 51) (.move (.tmp 12)) none, SO.mk none (.store 28 (.tmp 8) (.tmp 50)) none, SO.mk (some 9) (.move (.tmp 51)) none]) (.keep [8, 9] .ret))
theorem u61_16 : type_of% (@swc _ _ c61_16.eq_1) := @swc _ _ c61_16.eq_1
def c61_17 : SC := (.cond (.tmp 49) c61_16 .skip)
theorem u61_17 : type_of% (@swc _ _ c61_17.eq_1) := @swc _ _ c61_17.eq_1
def o61_18 : List SO := ((SO.mk (some 56) (.call 75 [(.tmp 55)]) none) :: (SO.mk (some 57) (.build 55 [(0 , (.tmp 54)), (1 , (.tmp 56))]) none) :: (SO.mk (some 58) (.bslice 25 1 [(0 , (.tmp 57))]) none) :: [])
theorem v61_18 : type_of% (@swd _ _ o61_18.eq_1) := @swd _ _ o61_18.eq_1
def o61_19 : List SO := ((SO.mk (some 52) (.faddr 28 (.tmp 11) 1) none) :: (SO.mk (some 53) (.load 25 (.tmp 52)) none) :: (SO.mk (some 54) (.move (.tmp 2)) none) :: (SO.mk (some 55) (.move (.tmp 3)) none) :: o61_18)
theorem v61_19 : type_of% (@swd _ _ o61_19.eq_1) := @swd _ _ o61_19.eq_1
theorem m61_19 (B : Nat) : mkNames B o61_19 = [] := (rfl)
def c61_20 : SC := (.seq (.reg [SO.mk (some 61) (.load 28 (.tmp 11)) none, SO.mk none (.store 28 (.tmp 8) (.tmp 61)) none, SO.mk (some 9) (.move (.const (Value.int .i64 0))) none]) (.keep [8, 9] .ret))
theorem u61_20 : type_of% (@swc _ _ c61_20.eq_1) := @swc _ _ c61_20.eq_1
def c61_21 : SC := (.seq (.dreg false o61_19 [SO.mk (some 59) (.app 25 25 (.tmp 53) (.tmp 58)) none, SO.mk (some 60) (.faddr 28 (.tmp 11) 1) none, SO.mk none (.store 25 (.tmp 60) (.tmp 59)) none]) (.keep [11, 8] c61_20))
theorem u61_21 : type_of% (@swc _ _ c61_21.eq_1) := @swc _ _ c61_21.eq_1
def c61_22 : SC := (.seq (.seq (.reg [SO.mk (some 48) (.move (.tmp 12)) none, SO.mk (some 49) (.bin .neq 30 (.tmp 48) (.const (Value.int .i64 0))) none]) (.keep [49, 12, 2, 3, 11, 8] c61_17)) (.keep [2, 3, 11, 8] c61_21))
theorem u61_22 : type_of% (@swc _ _ c61_22.eq_1) := @swc _ _ c61_22.eq_1
def c61_23 : SC := (.seq (.reg ((SO.mk (some 43) (.load 23 (.tmp 4)) none) :: (SO.mk (some 44) (.load 28 (.tmp 5)) none) :: (SO.mk (some 45) (.call 27 [(.tmp 43), (.tmp 44)]) none) :: (SO.mk (some 42) (.move (.tmp 45)) none) :: o61_15)) (.keep [12, 2, 3, 11, 8] c61_22))
theorem u61_23 : type_of% (@swc _ _ c61_23.eq_1) := @swc _ _ c61_23.eq_1
def c61_24 : SC := (.seq (.block 0 (.seq (.reg ((SO.mk (some 21) (.move (.tmp 2)) none) :: (SO.mk (some 22) (.bin .lss 3 (.tmp 21) (.const (Value.int .i64 0))) none) :: (SO.mk (some 23) (.move (.tmp 22)) none) :: (SO.mk (some 24) (.move (.tmp 2)) (some (23 , false))) :: o61_5)) (.keep [20, 4, 5, 2, 3, 8] c61_13))) (.keep [4, 5, 2, 3, 8] c61_23))
theorem u61_24 : type_of% (@swc _ _ c61_24.eq_1) := @swc _ _ c61_24.eq_1
def c61_25 : SC := (.seq (.seq (.reg [SO.mk (some 13) (.load 23 (.tmp 4)) none, SO.mk (some 14) (.load 28 (.tmp 5)) none, SO.mk (some 15) (.call 20 [(.tmp 13), (.tmp 14)]) none, SO.mk (some 10) (.move (.tmp 15)) none]) (.keep [10, 4, 5, 2, 3, 8] c61_3)) (.keep [4, 5, 2, 3, 8] c61_24))
theorem u61_25 : type_of% (@swc _ _ c61_25.eq_1) := @swc _ _ c61_25.eq_1
def c61 : SC := (.seq (.reg [SO.mk (some 4) (.box 23 (.tmp 0)) none, SO.mk (some 5) (.box 28 (.tmp 1)) none, SO.mk (some 8) (.alloc 28) none, SO.mk (some 9) (.move (.const (Value.int .i64 0))) none]) (.keep [4, 5, 2, 3, 8] c61_25))
theorem c61_eq : annC Try.f61 = some c61 := by kernel_rfl
theorem r61 : Try.f61.results.toList = [.cell 8 28, .tmp 9] := by kernel_rfl
theorem e61 : enters Try.prog 61 = true := by kernel_rfl
def o67_1 : List SO := ((SO.mk (some 25) (.call 24 [(.tmp 20), (.const (Value.int .i64 0)), (.tmp 24)]) (some (19 , true))) :: (SO.mk (some 26) (.un .not (.tmp 25)) (some (19 , true))) :: (SO.mk (some 27) (.pick (.tmp 19) (.tmp 26) (.const (Value.bool false))) none) :: [])
theorem v67_1 : type_of% (@swl _ _ o67_1.eq_1) := @swl _ _ o67_1.eq_1
def o67_2 : List SO := ((SO.mk (some 21) (.faddr 28 (.tmp 5) 0) (some (19 , true))) :: (SO.mk (some 22) (.load 24 (.tmp 21)) (some (19 , true))) :: (SO.mk (some 23) (.len 24 (.tmp 22)) (some (19 , true))) :: (SO.mk (some 24) (.bin .sub 3 (.tmp 23) (.const (Value.int .i64 1))) (some (19 , true))) :: o67_1)
theorem v67_2 : type_of% (@swl _ _ o67_2.eq_1) := @swl _ _ o67_2.eq_1
def c67_3 : SC := (.cond (.tmp 27) (.reg [SO.mk (some 10) (.move (.const (Value.int .i64 2))) none]) .skip)
theorem u67_3 : type_of% (@swc _ _ c67_3.eq_1) := @swc _ _ c67_3.eq_1
def o67_4 : List SO := ((SO.mk (some 32) (.len 29 (.tmp 31)) (some (30 , true))) :: (SO.mk (some 33) (.bin .gtr 3 (.tmp 32) (.const (Value.int .i64 64))) (some (30 , true))) :: (SO.mk (some 34) (.pick (.tmp 30) (.tmp 33) (.const (Value.bool false))) none) :: [])
theorem v67_4 : type_of% (@swl _ _ o67_4.eq_1) := @swl _ _ o67_4.eq_1
def c67_5 : SC := (.cond (.tmp 34) (.reg [SO.mk (some 10) (.move (.const (Value.int .i64 1))) none]) .skip)
theorem u67_5 : type_of% (@swc _ _ c67_5.eq_1) := @swc _ _ c67_5.eq_1
def o67_6 : List SO := ((SO.mk (some 39) (.load 25 (.tmp 38)) (some (37 , true))) :: (SO.mk (some 40) (.len 25 (.tmp 39)) (some (37 , true))) :: (SO.mk (some 41) (.bin .geq 3 (.tmp 40) (.const (Value.int .i64 2000))) (some (37 , true))) :: (SO.mk (some 42) (.pick (.tmp 37) (.tmp 41) (.const (Value.bool false))) none) :: [])
theorem v67_6 : type_of% (@swl _ _ o67_6.eq_1) := @swl _ _ o67_6.eq_1
def c67_7 : SC := (.cond (.tmp 42) (.reg [SO.mk (some 10) (.move (.const (Value.int .i64 8))) none]) .skip)
theorem u67_7 : type_of% (@swc _ _ c67_7.eq_1) := @swc _ _ c67_7.eq_1
def c67_8 : SC := (.seq (.reg [SO.mk (some 45) (.build 28 []) none, SO.mk (some 46) (.move (.tmp 10)) none, SO.mk none (.store 28 (.tmp 8) (.tmp 45)) none, SO.mk (some 9) (.move (.tmp 46)) none]) (.keep [8, 9] .ret))
theorem u67_8 : type_of% (@swc _ _ c67_8.eq_1) := @swc _ _ c67_8.eq_1
def c67_9 : SC := (.cond (.tmp 44) c67_8 .skip)
theorem u67_9 : type_of% (@swc _ _ c67_9.eq_1) := @swc _ _ c67_9.eq_1
def o67_10 : List SO := ((SO.mk (some 51) (.extract (.tmp 47) 1) none) :: (SO.mk (some 11) (.alloc 28) none) :: (SO.mk none (.store 28 (.tmp 11) (.tmp 50)) none) :: (SO.mk (some 10) (.move (.tmp 51)) none) :: [])
theorem v67_10 : type_of% (@swl _ _ o67_10.eq_1) := @swl _ _ o67_10.eq_1
def c67_11 : SC := (.seq (.reg [SO.mk (some 54) (.build 28 []) none, SO.mk (some 55) (.move (.tmp 10)) none, SO.mk none (.store 28 (.tmp 8) (.tmp 54)) none, SO.mk (some 9) (.move (.tmp 55)) none]) (.keep [8, 9] .ret))
theorem u67_11 : type_of% (@swc _ _ c67_11.eq_1) := @swc _ _ c67_11.eq_1
def c67_12 : SC := (.cond (.tmp 53) c67_11 .skip)
theorem u67_12 : type_of% (@swc _ _ c67_12.eq_1) := @swc _ _ c67_12.eq_1
def c67_13 : SC := (.cond (.tmp 60) .skip (.exit 0))
theorem u67_13 : type_of% (@swc _ _ c67_13.eq_1) := @swc _ _ c67_13.eq_1
def o67_14 : List SO := ((SO.mk (some 67) (.iaddr 29 (.tmp 65) (.tmp 66)) none) :: (SO.mk (some 68) (.load 5 (.tmp 67)) none) :: (SO.mk (some 69) (.iaddr 29 (.tmp 63) (.tmp 64)) none) :: (SO.mk none (.store 5 (.tmp 69) (.tmp 68)) none) :: [])
theorem v67_14 : type_of% (@swl _ _ o67_14.eq_1) := @swl _ _ o67_14.eq_1
def c67_15 : SC := (.reg [SO.mk (some 61) (.move (.tmp 13)) none, SO.mk (some 62) (.bin .add 3 (.tmp 61) (.const (Value.int .i64 1))) none, SO.mk (some 13) (.move (.tmp 62)) none])
theorem u67_15 : type_of% (@swc _ _ c67_15.eq_1) := @swc _ _ c67_15.eq_1
def c67_16 : SC := (.seq (.block 1 (.reg ((SO.mk (some 63) (.move (.tmp 12)) none) :: (SO.mk (some 64) (.move (.tmp 13)) none) :: (SO.mk (some 65) (.move (.tmp 3)) none) :: (SO.mk (some 66) (.move (.tmp 13)) none) :: o67_14))) (.keep [13, 3, 2, 12, 11, 8] c67_15))
theorem u67_16 : type_of% (@swc _ _ c67_16.eq_1) := @swc _ _ c67_16.eq_1
def c67_17 : SC := (.seq (.seq (.reg [SO.mk (some 57) (.move (.tmp 13)) none, SO.mk (some 58) (.move (.tmp 3)) none, SO.mk (some 59) (.len 29 (.tmp 58)) none, SO.mk (some 60) (.bin .lss 3 (.tmp 57) (.tmp 59)) none]) (.keep [60, 3, 13, 2, 12, 11, 8] c67_13)) (.keep [13, 3, 2, 12, 11, 8] c67_16))
theorem u67_17 : type_of% (@swc _ _ c67_17.eq_1) := @swc _ _ c67_17.eq_1
def c67_18 : SC := (.block 0 (.loop (.keep [3, 13, 2, 12, 11, 8] c67_17)))
theorem u67_18 : type_of% (@swc _ _ c67_18.eq_1) := @swc _ _ c67_18.eq_1
def o67_19 : List SO := ((SO.mk none (.store 25 (.tmp 77) (.tmp 76)) none) :: [])
theorem v67_19 : type_of% (@swl _ _ o67_19.eq_1) := @swl _ _ o67_19.eq_1
def o67_20 : List SO := ((SO.mk (some 74) (.build 55 [(0 , (.tmp 72)), (1 , (.tmp 73))]) none) :: (SO.mk (some 75) (.bslice 25 1 [(0 , (.tmp 74))]) none) :: (SO.mk (some 76) (.app 25 25 (.tmp 71) (.tmp 75)) none) :: (SO.mk (some 77) (.faddr 28 (.tmp 11) 1) none) :: o67_19)
theorem v67_20 : type_of% (@swl _ _ o67_20.eq_1) := @swl _ _ o67_20.eq_1
def c67_21 : SC := (.seq (.reg [SO.mk (some 78) (.load 28 (.tmp 11)) none, SO.mk none (.store 28 (.tmp 8) (.tmp 78)) none, SO.mk (some 9) (.move (.const (Value.int .i64 0))) none]) (.keep [8, 9] .ret))
theorem u67_21 : type_of% (@swc _ _ c67_21.eq_1) := @swc _ _ c67_21.eq_1
def c67_22 : SC := (.seq (.reg ((SO.mk (some 70) (.faddr 28 (.tmp 11) 1) none) :: (SO.mk (some 71) (.load 25 (.tmp 70)) none) :: (SO.mk (some 72) (.move (.tmp 2)) none) :: (SO.mk (some 73) (.move (.tmp 12)) none) :: o67_20)) (.keep [11, 8] c67_21))
theorem u67_22 : type_of% (@swc _ _ c67_22.eq_1) := @swc _ _ c67_22.eq_1
def c67_23 : SC := (.seq (.seq (.reg [SO.mk (some 13) (.move (.const (Value.int .i64 0))) none]) (.keep [3, 13, 2, 12, 11, 8] c67_18)) (.keep [2, 12, 11, 8] c67_22))
theorem u67_23 : type_of% (@swc _ _ c67_23.eq_1) := @swc _ _ c67_23.eq_1
def c67_24 : SC := (.seq (.reg [SO.mk (some 56) (.mkslice 29 (.const (Value.int .i64 64)) (.const (Value.int .i64 64))) none, SO.mk (some 12) (.move (.tmp 56)) none]) (.keep [3, 2, 12, 11, 8] c67_23))
theorem u67_24 : type_of% (@swc _ _ c67_24.eq_1) := @swc _ _ c67_24.eq_1
def c67_25 : SC := (.seq (.seq (.reg [SO.mk (some 52) (.move (.tmp 10)) none, SO.mk (some 53) (.bin .neq 30 (.tmp 52) (.const (Value.int .i64 0))) none]) (.keep [53, 10, 3, 2, 11, 8] c67_12)) (.keep [3, 2, 11, 8] c67_24))
theorem u67_25 : type_of% (@swc _ _ c67_25.eq_1) := @swc _ _ c67_25.eq_1
def c67_26 : SC := (.seq (.reg ((SO.mk (some 48) (.load 28 (.tmp 5)) none) :: (SO.mk (some 49) (.call 29 [(.tmp 48)]) none) :: (SO.mk (some 47) (.move (.tmp 49)) none) :: (SO.mk (some 50) (.extract (.tmp 47) 0) none) :: o67_10)) (.keep [10, 3, 2, 11, 8] c67_25))
theorem u67_26 : type_of% (@swc _ _ c67_26.eq_1) := @swc _ _ c67_26.eq_1
def c67_27 : SC := (.seq (.seq (.reg [SO.mk (some 43) (.move (.tmp 10)) none, SO.mk (some 44) (.bin .neq 30 (.tmp 43) (.const (Value.int .i64 0))) none]) (.keep [44, 10, 5, 3, 2, 8] c67_9)) (.keep [5, 3, 2, 8] c67_26))
theorem u67_27 : type_of% (@swc _ _ c67_27.eq_1) := @swc _ _ c67_27.eq_1
def c67_28 : SC := (.seq (.seq (.reg ((SO.mk (some 35) (.move (.tmp 10)) none) :: (SO.mk (some 36) (.bin .eql 30 (.tmp 35) (.const (Value.int .i64 0))) none) :: (SO.mk (some 37) (.move (.tmp 36)) none) :: (SO.mk (some 38) (.faddr 28 (.tmp 5) 1) (some (37 , true))) :: o67_6)) (.keep [42, 10, 5, 3, 2, 8] c67_7)) (.keep [10, 5, 3, 2, 8] c67_27))
theorem u67_28 : type_of% (@swc _ _ c67_28.eq_1) := @swc _ _ c67_28.eq_1
def c67_29 : SC := (.seq (.seq (.reg ((SO.mk (some 28) (.move (.tmp 10)) none) :: (SO.mk (some 29) (.bin .eql 30 (.tmp 28) (.const (Value.int .i64 0))) none) :: (SO.mk (some 30) (.move (.tmp 29)) none) :: (SO.mk (some 31) (.move (.tmp 3)) (some (30 , true))) :: o67_4)) (.keep [34, 10, 5, 3, 2, 8] c67_5)) (.keep [10, 5, 3, 2, 8] c67_28))
theorem u67_29 : type_of% (@swc _ _ c67_29.eq_1) := @swc _ _ c67_29.eq_1
def c67_30 : SC := (.seq (.seq (.reg ((SO.mk (some 17) (.move (.tmp 10)) none) :: (SO.mk (some 18) (.bin .eql 30 (.tmp 17) (.const (Value.int .i64 0))) none) :: (SO.mk (some 19) (.move (.tmp 18)) none) :: (SO.mk (some 20) (.move (.tmp 2)) (some (19 , true))) :: o67_2)) (.keep [27, 10, 5, 3, 2, 8] c67_3)) (.keep [10, 5, 3, 2, 8] c67_29))
theorem u67_30 : type_of% (@swc _ _ c67_30.eq_1) := @swc _ _ c67_30.eq_1
def c67_31 : SC := (.seq (.reg [SO.mk (some 14) (.load 23 (.tmp 4)) none, SO.mk (some 15) (.load 28 (.tmp 5)) none, SO.mk (some 16) (.call 23 [(.tmp 14), (.tmp 15)]) none, SO.mk (some 10) (.move (.tmp 16)) none]) (.keep [10, 5, 3, 2, 8] c67_30))
theorem u67_31 : type_of% (@swc _ _ c67_31.eq_1) := @swc _ _ c67_31.eq_1
def c67 : SC := (.seq (.reg [SO.mk (some 4) (.box 23 (.tmp 0)) none, SO.mk (some 5) (.box 28 (.tmp 1)) none, SO.mk (some 8) (.alloc 28) none, SO.mk (some 9) (.move (.const (Value.int .i64 0))) none]) (.keep [4, 5, 3, 2, 8] c67_31))
theorem c67_eq : annC Try.f67 = some c67 := by kernel_rfl
theorem r67 : Try.f67.results.toList = [.cell 8 28, .tmp 9] := by kernel_rfl
theorem e67 : enters Try.prog 67 = true := by kernel_rfl
end Go.Proofs.Ytalhjhmphdgaoaa
namespace Go.Proofs.Ytalhjhmphdgaoaa
open Go.RowKit
set_option maxHeartbeats 4000000
set_option maxRecDepth 20000
attribute [local irreducible] SW SWL SWLn SWD SEcall SEcallv SDv SE SO1 SOg ACalls ACallv Wk EndV
set_option linter.unusedSimpArgs false
set_option linter.unusedVariables false
theorem EndX.of {P : Program} {B : Nat} {T : List Nat} {r : Sto} {rs : List ResultVar} {R : AV → Sto → Prop} {a a' : Fr} {l l' : Loc} (h : Wk B T r a l a' l') (h2 : EndV P B r rs R a' l') : EndX P B T r rs R a l := by
  unfold EndX; exact ⟨a', l', h, h2⟩
theorem clone_own (l : List UInt8) (B : Nat) (σ : Sto) (m : Nat) (hm : m < B) (hk : ∀ x, (σ x).kill m = σ x) : ACalls Try.prog 22 [.d (bytes l)] σ B [m] (fun v σ' => v = .os m l.length ∧ σ' = sto [(m, .arr 1 5 (l.map by_))] σ) := by
  refine own_of follows Try.func22 c22_eq r22 (Nat.le_of_ble_eq_true rfl) fun hcl hsz => ?_
  have hlen : l.length ≤ 2 ^ 47 := by simpa using (show Sized (bytes l) from hsz (.d (bytes l)) (by simp)).len
  clear hsz
  have y1 := nbF hm
  have y4 := nbF' hm
  have y7 := nbL hm
  have n7 : B + 7 ≠ m := by omega
  repeat' (first | (simp -implicitDefEqProofs only [*, contN, contC, Nat.reduceBEq, Bool.or_false, Bool.or_true, Bool.false_or, Bool.true_or, Bool.not_true, Bool.not_false, w_skip, w_ret, w_exit, w_reg, w_dreg, w_seq, SK_n, SK_r, SK_x, w_keep, w_block, w_cond, w_nil, w_cons, w_consg, w_nnil, w_ncons, w_dnil, w_dcons, w_dconsg, HK_app, HD_app, HQ_n, HQ_r, HQ_x, HQ_bn, HQ_br, HQ_bx, HQ_en, HQ_er, HQ_ex, CondB_true, CondB_false, SO1, w_sdv, SDe_alloc, SDe_box, SDe_bslice, SDe_app, true_imp_iff, false_imp_iff, and_false, false_and, not_false_eq_true, not_true_eq_false, addN, mkNames, killT, killD, killO, List.foldl_nil, List.foldl_cons, List.append_nil, List.nil_append, List.cons_append, GuardS_true, GuardS_false, GuardD_true, GuardD_false, DK_true, DK_false, lt_self_add, le_self_add, decide_true, decide_false, Bool.false_eq_true, Bool.true_eq_false, Nat.add_left_cancel_iff, SE, SEalloc, SEbox, SEstore, w_bs, SEbl, SEfz, SEbs0, fzName, osOf, AV.fz1, w_app, w_mk, aev, opd, Fr.get, putO, Fr.norm, List.map_cons, List.map_nil, with1, with2, onInt, AV.lit, entry, ↓reduceIte, Nat.reduceEqDiff, Nat.reduceAdd, reduceCtorEq, true_and, and_true, Option.map_some, Option.map_none, Option.bind_some, Option.bind_none, cond_true, cond_false, binV, unV, fieldV, loadV, sto, cellsAV, newF, newL, Fr.map, Loc.kill, Loc.set, AO.kill, AV.kill, AV.mapN, AV.mapNL, List.filter_nil, List.filter_cons, allP, EndV, retV, resV, resL, frz, dropL, AV.pick, nilV, tupV, imp_self, ne_eq, Int.cast_ofNat_Int, Int.reduceLT, Int.reduceToNat, List.getD_cons_zero, List.getD_cons_succ, bsliceV, buildV, afill, repl, chunk, rvs, AV.rv, RV.nrm, List.getElem?_nil, List.append_assoc, Nat.reduceMul, Nat.reducePow, Nat.zero_lt_succ, Nat.zero_add, Nat.add_zero, List.length_cons, List.length_nil, Nat.reduceLeDiff, Nat.le_refl, List.take_succ_cons, List.take_zero, List.drop_succ_cons, List.drop_zero, indexV, lenV, rowOf_mapD, rowOf_mapI, rowOf_mapA, List.length_map, Int.toNat_natCast, List.getElem?_cons_zero, List.getElem?_cons_succ, and_self, implies_true, if_true, if_false, HQ_zn, HQ_zr, HQ_wn, HQ_wr, AV.nz, AV.nzL, RV.nrm, SEbin, SEnil, nilK, srcV, dstV, appName, List.length_append, Nat.mul_one, take_map_len, take_map_app, List.getElem?_cons_zero, List.map_append, SEmkmap, SEmset, mgetV, kvOf, getM, setM, c22, r22, u22_1, u22_2, u22_3, u22_4, ty29, ty5, bytes, AV.ren, y1, y4, n7]) | (with_reducible refine And.intro ?_ ?_) | (refine EndX.of (Wk.nameF (s := 2) (n := m) (k := 1) (E := 5) rfl (by omega) (.inr (by simp)) hk) ?_) | (refine EndX.of (Wk.ren (n := B + 7) (m := m) (l1 := []) (k := 1) (E := 5) (rows := l.map by_) hcl (by omega) n7 (.inr (by simp)) hk (by simp [sto]) (by simp) (by simp)) ?_) | (refine EndX.plain ?_) | (refine nil_split (fun hn => ?_) (fun hn => ?_)) | (refine gcall_no not_false ?_) | (refine gdcall_no not_false ?_) | (refine GuardS_of _ _ _ _ _ _ (fun hg => ?_) (fun hg => ?_)) | (refine GuardD_of _ _ _ _ (fun hg => ?_) (fun hg => ?_)) | (refine CondB_of _ _ _ _ _ _ _ ?_ (fun hg => ?_) (fun hg => ?_)))
  all_goals (try (first | ((first | unfold noN | unfold Fr.below | unfold Loc.below); simp [Fr.allN, AV.allN, AV.allNL, AO.allN]; done) | rfl | trivial | assumption | (intro row hrow; simp only [List.mem_map] at hrow; obtain ⟨x, _, rfl⟩ := hrow; rfl) | (refine Wk.keep hcl ?_ ?_ ?_; (focus (simp [Fr.get, bytes, AV.ren, y1, y4, n7] <;> fail)); (focus (simp [sto, bytes, AV.ren, y1, y4, n7] <;> fail)); (focus (simp <;> fail))) | (simp [allP, opd, Fr.get, Fr.below, Fr.allN, AV.allN, AV.allNL, Loc.below, AO.allN, noN, killO, killT, killD, mkNames, AO.kill, AV.kill, AV.mapN, AV.mapNL]; done) | (with_reducible exact ltD (by assumption)) | omega | (simp only [decide_eq_true_eq, decide_eq_false_iff_not] at *; omega)))
  all_goals (have h0 := hn rfl; simp at h0; subst h0; rfl)
def padB (b : List UInt8) : List UInt8 := b ++ List.replicate (64 - b.length) 0
theorem pad_rows (b : List UInt8) (h : b.length ≤ 64) : b.map by_ ++ List.replicate ((64 : Int) - (b.length : Int)).toNat [RV.v (.int .u8 0)] = (padB b).map by_ := by
  have : ((64 : Int) - (b.length : Int)).toNat = 64 - b.length := by omega
  rw [this, padB, List.map_append, List.map_replicate]; rfl
theorem sector_p (b : List UInt8) (h : b.length ≤ 64) : Pure Try.prog 75 [.d (bytes b)] (.d (bytes (padB b))) := by
  refine pureY_of follows Try.func75 c75_eq r75 (Nat.le_of_ble_eq_true rfl) fun B σ hcl hsz => ?_
  clear hsz
  have hx : IntKind.i64.wrap (64 - (b.length : Int)) = 64 - (b.length : Int) := IntWalk.i64_in _ (by omega)
  repeat' (first | (simp -implicitDefEqProofs only [*, contN, contC, Nat.reduceBEq, Bool.or_false, Bool.or_true, Bool.false_or, Bool.true_or, Bool.not_true, Bool.not_false, w_skip, w_ret, w_exit, w_reg, w_dreg, w_seq, SK_n, SK_r, SK_x, w_keep, w_block, w_cond, w_nil, w_cons, w_consg, w_nnil, w_ncons, w_dnil, w_dcons, w_dconsg, HK_app, HD_app, HQ_n, HQ_r, HQ_x, HQ_bn, HQ_br, HQ_bx, HQ_en, HQ_er, HQ_ex, CondB_true, CondB_false, SO1, w_sdv, SDe_alloc, SDe_box, SDe_bslice, SDe_app, true_imp_iff, false_imp_iff, and_false, false_and, not_false_eq_true, not_true_eq_false, addN, mkNames, killT, killD, killO, List.foldl_nil, List.foldl_cons, List.append_nil, List.nil_append, List.cons_append, GuardS_true, GuardS_false, GuardD_true, GuardD_false, DK_true, DK_false, lt_self_add, le_self_add, decide_true, decide_false, Bool.false_eq_true, Bool.true_eq_false, Nat.add_left_cancel_iff, SE, SEalloc, SEbox, SEstore, w_bs, SEbl, SEfz, SEbs0, fzName, osOf, AV.fz1, w_app, w_mk, aev, opd, Fr.get, putO, Fr.norm, List.map_cons, List.map_nil, with1, with2, onInt, AV.lit, entry, ↓reduceIte, Nat.reduceEqDiff, Nat.reduceAdd, reduceCtorEq, true_and, and_true, Option.map_some, Option.map_none, Option.bind_some, Option.bind_none, cond_true, cond_false, binV, unV, fieldV, loadV, sto, cellsAV, newF, newL, Fr.map, Loc.kill, Loc.set, AO.kill, AV.kill, AV.mapN, AV.mapNL, List.filter_nil, List.filter_cons, allP, EndV, retV, resV, resL, frz, dropL, AV.pick, nilV, tupV, imp_self, ne_eq, Int.cast_ofNat_Int, Int.reduceLT, Int.reduceToNat, List.getD_cons_zero, List.getD_cons_succ, bsliceV, buildV, afill, repl, chunk, rvs, AV.rv, RV.nrm, List.getElem?_nil, List.append_assoc, Nat.reduceMul, Nat.reducePow, Nat.zero_lt_succ, Nat.zero_add, Nat.add_zero, List.length_cons, List.length_nil, Nat.reduceLeDiff, Nat.le_refl, List.take_succ_cons, List.take_zero, List.drop_succ_cons, List.drop_zero, indexV, lenV, rowOf_mapD, rowOf_mapI, rowOf_mapA, List.length_map, Int.toNat_natCast, List.getElem?_cons_zero, List.getElem?_cons_succ, and_self, implies_true, if_true, if_false, HQ_zn, HQ_zr, HQ_wn, HQ_wr, AV.nz, AV.nzL, RV.nrm, SEbin, SEnil, nilK, srcV, dstV, appName, List.length_append, Nat.mul_one, take_map_len, take_map_app, List.getElem?_cons_zero, List.map_append, SEmkmap, SEmset, mgetV, kvOf, getM, setM, c75, r75, v75_1, u75_2, ty29, ty3, ty5, bytes, HQ_yn, HQ_yr, Loc.nz, AO.nz]) | (with_reducible refine And.intro ?_ ?_) | (refine call_own [B + 90001] [(B + 90001, .arr 1 5 (b.map by_))] e22 (clone_own b _ _ (B + 90001) (by omega) (sto_all (q := fun o => o.kill (B + 90001) = o) (by simp) fun n => AO.kill_below (q := fun m => decide (m < B)) (by simp) _ (hcl n).1)) rfl ?_ ?_ ?_ ?_ ?_) | (refine EndX.plain ?_) | (refine nil_split (fun hn => ?_) (fun hn => ?_)) | (refine gcall_no not_false ?_) | (refine gdcall_no not_false ?_) | (refine GuardS_of _ _ _ _ _ _ (fun hg => ?_) (fun hg => ?_)) | (refine GuardD_of _ _ _ _ (fun hg => ?_) (fun hg => ?_)) | (refine CondB_of _ _ _ _ _ _ _ ?_ (fun hg => ?_) (fun hg => ?_)))
  all_goals (try (first | ((first | unfold noN | unfold Fr.below | unfold Loc.below); simp [Fr.allN, AV.allN, AV.allNL, AO.allN]; done) | rfl | trivial | assumption | (intro row hrow; simp only [List.mem_map] at hrow; obtain ⟨x, _, rfl⟩ := hrow; rfl) | (refine Wk.keep hcl ?_ ?_ ?_; (focus (simp [Fr.get, bytes, HQ_yn, HQ_yr, Loc.nz, AO.nz] <;> fail)); (focus (simp [sto, bytes, HQ_yn, HQ_yr, Loc.nz, AO.nz] <;> fail)); (focus (simp <;> fail))) | (simp [allP, opd, Fr.get, Fr.below, Fr.allN, AV.allN, AV.allNL, Loc.below, AO.allN, noN, killO, killT, killD, mkNames, AO.kill, AV.kill, AV.mapN, AV.mapNL]; done) | (with_reducible exact ltD (by assumption)) | omega | (simp only [decide_eq_true_eq, decide_eq_false_iff_not] at *; omega)))
  all_goals first
    | (simp only [List.length_replicate]; omega)
    | (rw [List.take_of_length_le (by simp), pad_rows b h])
def putE (g : GeoD) (d : DevD) (at_ : Int) (b : List UInt8) : Int := bif devF g d != 0 then devF g d else bif decide (at_ < 0) || decide (at_ ≥ d.safe.length) then 2 else bif decide ((b.length : Int) > 64) then 1 else bif (d.cache.length : Int) == 2000 then 8 else bif d.fuel == 0 then 10 else 0
def putD (g : GeoD) (d : DevD) (at_ : Int) (b : List UInt8) : DevD := bif putE g d at_ b == 0 then ⟨d.safe, d.cache ++ [⟨at_, padB b⟩], d.vols, fuel1 d⟩ else nilD
theorem put_take (d : DevD) (x : List RV) : List.take (d.cache.length + 1) (d.cache.map WrD.row ++ [x]) = d.cache.map WrD.row ++ [x] := List.take_of_length_le (by simp)
theorem put_rows (d : DevD) (at_ : Int) (b : List UInt8) : RV.ro (d.cache.map WrD.row ++ [[.v (.int .i64 at_), .ro ((padB b).map by_)]]) = .ro ((d.cache ++ [(⟨at_, padB b⟩ : WrD)]).map WrD.row) := by
  rw [List.map_append]; rfl
theorem b64 {b : List UInt8} (h : decide ((b.length : Int) > 64) = false) : b.length ≤ 64 := by simp at h; omega
theorem put_p (g : GeoD) (d : DevD) (at_ : Int) (b : List UInt8) (hw : d.fit) : Pure Try.prog 61 [g.av, d.av, I at_, .d (bytes b)] (.tup [(putD g d at_ b).av, I (putE g d at_ b)]) := by
  refine pureY_of follows Try.func61 c61_eq r61 (Nat.le_of_ble_eq_true rfl) fun B σ hcl hsz => ?_
  obtain ⟨z1, z2, z3⟩ := dev_sz (hsz d.av (by simp))
  clear hsz
  rcases spend3 g d with ⟨h1, h1', hs, hb⟩ | ⟨h1, h2, hs, hb⟩ | ⟨h1, h2, hs⟩
  all_goals (try have hc := (okd (g := g) (d := d) (by assumption)).cache)
  repeat' (first | (simp -implicitDefEqProofs only [*, contN, contC, Nat.reduceBEq, Bool.or_false, Bool.or_true, Bool.false_or, Bool.true_or, Bool.not_true, Bool.not_false, w_skip, w_ret, w_exit, w_reg, w_dreg, w_seq, SK_n, SK_r, SK_x, w_keep, w_block, w_cond, w_nil, w_cons, w_consg, w_nnil, w_ncons, w_dnil, w_dcons, w_dconsg, HK_app, HD_app, HQ_n, HQ_r, HQ_x, HQ_bn, HQ_br, HQ_bx, HQ_en, HQ_er, HQ_ex, CondB_true, CondB_false, SO1, w_sdv, SDe_alloc, SDe_box, SDe_bslice, SDe_app, true_imp_iff, false_imp_iff, and_false, false_and, not_false_eq_true, not_true_eq_false, addN, mkNames, killT, killD, killO, List.foldl_nil, List.foldl_cons, List.append_nil, List.nil_append, List.cons_append, GuardS_true, GuardS_false, GuardD_true, GuardD_false, DK_true, DK_false, lt_self_add, le_self_add, decide_true, decide_false, Bool.false_eq_true, Bool.true_eq_false, Nat.add_left_cancel_iff, SE, SEalloc, SEbox, SEstore, w_bs, SEbl, SEfz, SEbs0, fzName, osOf, AV.fz1, w_app, w_mk, aev, opd, Fr.get, putO, Fr.norm, List.map_cons, List.map_nil, with1, with2, onInt, AV.lit, entry, ↓reduceIte, Nat.reduceEqDiff, Nat.reduceAdd, reduceCtorEq, true_and, and_true, Option.map_some, Option.map_none, Option.bind_some, Option.bind_none, cond_true, cond_false, binV, unV, fieldV, loadV, sto, cellsAV, newF, newL, Fr.map, Loc.kill, Loc.set, AO.kill, AV.kill, AV.mapN, AV.mapNL, List.filter_nil, List.filter_cons, allP, EndV, retV, resV, resL, frz, dropL, AV.pick, nilV, tupV, imp_self, ne_eq, Int.cast_ofNat_Int, Int.reduceLT, Int.reduceToNat, List.getD_cons_zero, List.getD_cons_succ, bsliceV, buildV, afill, repl, chunk, rvs, AV.rv, RV.nrm, List.getElem?_nil, List.append_assoc, Nat.reduceMul, Nat.reducePow, Nat.zero_lt_succ, Nat.zero_add, Nat.add_zero, List.length_cons, List.length_nil, Nat.reduceLeDiff, Nat.le_refl, List.take_succ_cons, List.take_zero, List.drop_succ_cons, List.drop_zero, indexV, lenV, rowOf_mapD, rowOf_mapI, rowOf_mapA, List.length_map, Int.toNat_natCast, List.getElem?_cons_zero, List.getElem?_cons_succ, and_self, implies_true, if_true, if_false, HQ_zn, HQ_zr, HQ_wn, HQ_wr, AV.nz, AV.nzL, RV.nrm, SEbin, SEnil, nilK, srcV, dstV, appName, List.length_append, Nat.mul_one, take_map_len, take_map_app, List.getElem?_cons_zero, List.map_append, SEmkmap, SEmset, mgetV, kvOf, getM, setM, c61, r61, u61_1, u61_2, u61_3, v61_4, v61_5, u61_6, u61_7, u61_8, u61_9, u61_10, u61_11, u61_12, u61_13, v61_14, v61_15, u61_16, u61_17, v61_18, v61_19, m61_19, u61_20, u61_21, u61_22, u61_23, u61_24, u61_25, ty23, ty28, ty30, ty3, ty24, ty29, ty25, ty55, ty5, GeoD.av, DevD.av, devA, devL, HQ_yn, HQ_yr, Loc.nz, AO.nz, bne_self_eq_false, nilD, bytes, put_take]) | (with_reducible refine And.intro ?_ ?_) | (refine call_ro e20 ( check_p g d) rfl ?_ ?_ ?_ ?_) | (refine gcall_ro e20 ( check_p g d) rfl ?_ ?_ ?_ ?_) | (refine dcall_ro e20 ( check_p g d) rfl ?_ ?_ ?_ ?_) | (refine gdcall_ro rfl e20 ( check_p g d) rfl ?_ ?_ ?_ ?_) | (refine call_ro e75 ( sector_p b (b64 (by assumption))) rfl ?_ ?_ ?_ ?_) | (refine gcall_ro e75 ( sector_p b (b64 (by assumption))) rfl ?_ ?_ ?_ ?_) | (refine dcall_ro e75 ( sector_p b (b64 (by assumption))) rfl ?_ ?_ ?_ ?_) | (refine gdcall_ro rfl e75 ( sector_p b (b64 (by assumption))) rfl ?_ ?_ ?_ ?_) | (refine call_ro e27 ( spend_bad g d hb) rfl ?_ ?_ ?_ ?_) | (refine gcall_ro e27 ( spend_bad g d hb) rfl ?_ ?_ ?_ ?_) | (refine dcall_ro e27 ( spend_bad g d hb) rfl ?_ ?_ ?_ ?_) | (refine gdcall_ro rfl e27 ( spend_bad g d hb) rfl ?_ ?_ ?_ ?_) | (refine call_own [B + 90001, B + 90002, B + 90003] (devL (B + 90001) (B + 90002) (B + 90003) d.safe d.cache d.vols) e27 (spend_good g d hw h1 h2 _ _ (B + 90001) (B + 90002) (B + 90003) (Free3.new hcl (by simp [AO.kill, AV.kill, AV.mapN]))) rfl ?_ ?_ ?_ ?_ ?_) | (refine EndX.plain ?_) | (refine nil_split (fun hn => ?_) (fun hn => ?_)) | (refine gcall_no not_false ?_) | (refine gdcall_no not_false ?_) | (refine GuardS_of _ _ _ _ _ _ (fun hg => ?_) (fun hg => ?_)) | (refine GuardD_of _ _ _ _ (fun hg => ?_) (fun hg => ?_)) | (refine CondB_of _ _ _ _ _ _ _ ?_ (fun hg => ?_) (fun hg => ?_)))
  all_goals (try (first | ((first | unfold noN | unfold Fr.below | unfold Loc.below); simp [Fr.allN, AV.allN, AV.allNL, AO.allN]; done) | rfl | trivial | assumption | (intro row hrow; simp only [List.mem_map] at hrow; obtain ⟨x, _, rfl⟩ := hrow; rfl) | (refine Wk.keep hcl ?_ ?_ ?_; (focus (simp [Fr.get, GeoD.av, DevD.av, devA, devL, HQ_yn, HQ_yr, Loc.nz, AO.nz, bne_self_eq_false, nilD, bytes, put_take] <;> fail)); (focus (simp [sto, GeoD.av, DevD.av, devA, devL, HQ_yn, HQ_yr, Loc.nz, AO.nz, bne_self_eq_false, nilD, bytes, put_take] <;> fail)); (focus (simp <;> fail))) | (simp [allP, opd, Fr.get, Fr.below, Fr.allN, AV.allN, AV.allNL, Loc.below, AO.allN, noN, killO, killT, killD, mkNames, AO.kill, AV.kill, AV.mapN, AV.mapNL]; done) | (with_reducible exact ltD (by assumption)) | omega | (simp only [decide_eq_true_eq, decide_eq_false_iff_not] at *; omega)))
  all_goals first
    | (refine res_err rfl (by first | rfl | assumption) ?_; first | (simp only [putE, *, Bool.false_or, Bool.true_or, Bool.or_true, Bool.or_false, Bool.and_true, Bool.true_and, Bool.false_and, Bool.and_false, Bool.not_true, Bool.not_false, cond_true, cond_false, bne_self_eq_false]; done) | (simp only [putE]; grind [inR]))
    | (refine res_ok rfl ?_ rfl (put_rows _ _ _) rfl rfl; first | (simp only [putE, *, Bool.false_or, Bool.true_or, Bool.or_true, Bool.or_false, Bool.and_true, Bool.true_and, Bool.false_and, Bool.and_false, Bool.not_true, Bool.not_false, cond_true, cond_false, bne_self_eq_false]; done) | (simp only [putE]; grind [inR]))
def padK (b : List UInt8) (k : Nat) : List UInt8 := b.take k ++ List.replicate (64 - k) 0
theorem padK_len {b : List UInt8} {k : Nat} (hk : k ≤ b.length) (h : decide ((b.length : Int) > 64) = false) : (padK b k).length = 64 := by
  have := b64 h
  simp only [padK, List.length_append, List.length_take, List.length_replicate]; omega
theorem padB_len {b : List UInt8} (h : decide ((b.length : Int) > 64) = false) : (padB b).length = 64 := by
  have := b64 h
  simp only [padB, List.length_append, List.length_replicate]; omega
theorem padB_take {b : List UInt8} (h : decide ((b.length : Int) > 64) = false) : List.take 64 ((padB b).map by_) = (padB b).map by_ := List.take_of_length_le (by rw [List.length_map, padB_len h]; exact Nat.le_refl _)
theorem padK_all {b : List UInt8} {k : Nat} (hk : k ≤ b.length) (h : decide ((k : Int) < b.length) = false) : padK b k = padB b := by
  have : k = b.length := by simp at h; omega
  subst this; simp [padK, padB]
theorem padK_next {b : List UInt8} {k : Nat} (hk : k < b.length) (h : b.length ≤ 64) : padK b (k + 1) = (padK b k).set k b[k]! := by
  have hl : (b.take k).length = k := by simp; omega
  unfold padK
  have hr : 64 - k = (64 - (k + 1)) + 1 := by omega
  rw [hr, List.replicate_succ, List.set_append_right _ _ (by omega), hl, Nat.sub_self, List.set_cons_zero, take_next hk, List.append_assoc]; rfl
theorem padK_zero (b : List UInt8) : List.replicate 64 [RV.v (.int .u8 0)] = (padK b 0).map by_ := by
  simp only [padK, List.take_zero, List.nil_append, List.map_replicate]; rfl
theorem putOf_p (g : GeoD) (d : DevD) (at_ : Int) (b : List UInt8) (hw : d.fit) : Pure Try.prog 67 [g.av, d.av, I at_, .d (bytes b)] (.tup [(putD g d at_ b).av, I (putE g d at_ b)]) := by
  refine pureY_of follows Try.func67 c67_eq r67 (Nat.le_of_ble_eq_true rfl) fun B σ hcl hsz => ?_
  obtain ⟨z1, z2, z3⟩ := dev_sz (hsz d.av (by simp))
  have hz : IntKind.i64.wrap ((d.safe.length : Int) - 1) = (d.safe.length : Int) - 1 := IntWalk.i64_in _ (by omega)
  clear hsz
  rcases spend3 g d with ⟨h1, h1', hs, hb⟩ | ⟨h1, h2, hs, hb⟩ | ⟨h1, h2, hs⟩
  all_goals (try have hc := (okd (g := g) (d := d) (by assumption)).cache)
  repeat' (first | (simp -implicitDefEqProofs only [*, contN, contC, Nat.reduceBEq, Bool.or_false, Bool.or_true, Bool.false_or, Bool.true_or, Bool.not_true, Bool.not_false, w_skip, w_ret, w_exit, w_reg, w_dreg, w_seq, SK_n, SK_r, SK_x, w_keep, w_block, w_cond, w_nil, w_cons, w_consg, w_nnil, w_ncons, w_dnil, w_dcons, w_dconsg, HK_app, HD_app, HQ_n, HQ_r, HQ_x, HQ_bn, HQ_br, HQ_bx, HQ_en, HQ_er, HQ_ex, CondB_true, CondB_false, SO1, w_sdv, SDe_alloc, SDe_box, SDe_bslice, SDe_app, true_imp_iff, false_imp_iff, and_false, false_and, not_false_eq_true, not_true_eq_false, addN, mkNames, killT, killD, killO, List.foldl_nil, List.foldl_cons, List.append_nil, List.nil_append, List.cons_append, GuardS_true, GuardS_false, GuardD_true, GuardD_false, DK_true, DK_false, lt_self_add, le_self_add, decide_true, decide_false, Bool.false_eq_true, Bool.true_eq_false, Nat.add_left_cancel_iff, SE, SEalloc, SEbox, SEstore, w_bs, SEbl, SEfz, SEbs0, fzName, osOf, AV.fz1, w_app, w_mk, aev, opd, Fr.get, putO, Fr.norm, List.map_cons, List.map_nil, with1, with2, onInt, AV.lit, entry, ↓reduceIte, Nat.reduceEqDiff, Nat.reduceAdd, reduceCtorEq, true_and, and_true, Option.map_some, Option.map_none, Option.bind_some, Option.bind_none, cond_true, cond_false, binV, unV, fieldV, loadV, sto, cellsAV, newF, newL, Fr.map, Loc.kill, Loc.set, AO.kill, AV.kill, AV.mapN, AV.mapNL, List.filter_nil, List.filter_cons, allP, EndV, retV, resV, resL, frz, dropL, AV.pick, nilV, tupV, imp_self, ne_eq, Int.cast_ofNat_Int, Int.reduceLT, Int.reduceToNat, List.getD_cons_zero, List.getD_cons_succ, bsliceV, buildV, afill, repl, chunk, rvs, AV.rv, RV.nrm, List.getElem?_nil, List.append_assoc, Nat.reduceMul, Nat.reducePow, Nat.zero_lt_succ, Nat.zero_add, Nat.add_zero, List.length_cons, List.length_nil, Nat.reduceLeDiff, Nat.le_refl, List.take_succ_cons, List.take_zero, List.drop_succ_cons, List.drop_zero, indexV, lenV, rowOf_mapD, rowOf_mapI, rowOf_mapA, List.length_map, Int.toNat_natCast, List.getElem?_cons_zero, List.getElem?_cons_succ, and_self, implies_true, if_true, if_false, HQ_zn, HQ_zr, HQ_wn, HQ_wr, AV.nz, AV.nzL, RV.nrm, SEbin, SEnil, nilK, srcV, dstV, appName, List.length_append, Nat.mul_one, take_map_len, take_map_app, List.getElem?_cons_zero, List.map_append, SEmkmap, SEmset, mgetV, kvOf, getM, setM, c67, r67, v67_1, v67_2, u67_3, v67_4, u67_5, v67_6, u67_7, u67_8, u67_9, v67_10, u67_11, u67_12, u67_13, v67_14, u67_15, u67_16, u67_17, u67_18, v67_19, v67_20, u67_21, u67_22, u67_23, u67_24, u67_25, u67_26, u67_27, u67_28, u67_29, u67_30, u67_31, ty23, ty28, ty30, ty24, ty3, ty29, ty25, ty5, ty55, GeoD.av, DevD.av, devA, devL, HQ_yn, HQ_yr, Loc.nz, AO.nz, bne_self_eq_false, nilD, bytes, by_, put_take, padK_len, padB_len, padB_take, padK_all, padK_zero b]) | (with_reducible refine And.intro ?_ ?_) | (refine call_ro e23 ( devFault_p g d) rfl ?_ ?_ ?_ ?_) | (refine gcall_ro e23 ( devFault_p g d) rfl ?_ ?_ ?_ ?_) | (refine dcall_ro e23 ( devFault_p g d) rfl ?_ ?_ ?_ ?_) | (refine gdcall_ro rfl e23 ( devFault_p g d) rfl ?_ ?_ ?_ ?_) | (refine call_ro e24 ( In_p _ _ _) rfl ?_ ?_ ?_ ?_) | (refine gcall_ro e24 ( In_p _ _ _) rfl ?_ ?_ ?_ ?_) | (refine dcall_ro e24 ( In_p _ _ _) rfl ?_ ?_ ?_ ?_) | (refine gdcall_ro rfl e24 ( In_p _ _ _) rfl ?_ ?_ ?_ ?_) | (refine call_ro e29 ( spent_bad d h2) rfl ?_ ?_ ?_ ?_) | (refine gcall_ro e29 ( spent_bad d h2) rfl ?_ ?_ ?_ ?_) | (refine dcall_ro e29 ( spent_bad d h2) rfl ?_ ?_ ?_ ?_) | (refine gdcall_ro rfl e29 ( spent_bad d h2) rfl ?_ ?_ ?_ ?_) | (refine call_own [B + 90001, B + 90002, B + 90003] (devL (B + 90001) (B + 90002) (B + 90003) d.safe d.cache d.vols) e29 (spent_good d hw h2 _ _ (B + 90001) (B + 90002) (B + 90003) (Free3.new hcl (by simp [AO.kill, AV.kill, AV.mapN]))) rfl ?_ ?_ ?_ ?_ ?_) | (refine loop_nat (b.length) (fun _ => True) (fun k => [(3, .d (bytes b)), (13, I k), (2, I at_), (12, .os (B + 56) 64), (11, .lp (B + 11) 0), (8, .lp (B + 8) 0)]) (fun k => [(B + 56, .arr 1 5 ((padK b k).map by_)), (B + 8, .box [.d (.v (.slice none 0 0)), .d (.v (.slice none 0 0)), .d (.v (.slice none 0 0)), I 0]), (B + 11, .box [.os (B + 90001) d.safe.length, .os (B + 90002) d.cache.length, .os (B + 90003) d.vols.length, I (fuel1 d)]), (B + 90001, .arr 1 29 (d.safe.map secRow)), (B + 90002, .arr 2 55 (d.cache.map WrD.row)), (B + 90003, .arr 3 59 (d.vols.map VolD.row))]) ?_ (Wk.keep hcl ?_ ?_ ?_) fun k hk hF => ?_; rotate_left 1; (focus (simp [Fr.get, newF, Fr.map, AV.kill, AV.mapN, GeoD.av, DevD.av, devA, devL, HQ_yn, HQ_yr, Loc.nz, AO.nz, bne_self_eq_false, nilD, bytes, by_, put_take, padK_len, padB_len, padB_take, padK_all, padK_zero b] <;> fail)); (focus (simp [sto, newL, Loc.kill, Loc.set, AO.kill, AV.kill, AV.mapN, GeoD.av, DevD.av, devA, devL, HQ_yn, HQ_yr, Loc.nz, AO.nz, bne_self_eq_false, nilD, bytes, by_, put_take, padK_len, padB_len, padB_take, padK_all, padK_zero b] <;> fail)); (focus (simp [newL, Loc.kill, Loc.set, GeoD.av, DevD.av, devA, devL, HQ_yn, HQ_yr, Loc.nz, AO.nz, bne_self_eq_false, nilD, bytes, by_, put_take, padK_len, padB_len, padB_take, padK_all, padK_zero b] <;> fail)); (try have hw : IntKind.i64.wrap ((k : Int) + 1) = (k : Int) + 1 := IntWalk.i64_in _ (by omega))) | (refine EndX.plain ?_) | (refine nil_split (fun hn => ?_) (fun hn => ?_)) | (refine gcall_no not_false ?_) | (refine gdcall_no not_false ?_) | (refine GuardS_of _ _ _ _ _ _ (fun hg => ?_) (fun hg => ?_)) | (refine GuardD_of _ _ _ _ (fun hg => ?_) (fun hg => ?_)) | (refine CondB_of _ _ _ _ _ _ _ ?_ (fun hg => ?_) (fun hg => ?_)))
  all_goals (try (first | ((first | unfold noN | unfold Fr.below | unfold Loc.below); simp [Fr.allN, AV.allN, AV.allNL, AO.allN]; done) | rfl | trivial | assumption | (intro row hrow; simp only [List.mem_map] at hrow; obtain ⟨x, _, rfl⟩ := hrow; rfl) | (refine Wk.keep hcl ?_ ?_ ?_; (focus (simp [Fr.get, GeoD.av, DevD.av, devA, devL, HQ_yn, HQ_yr, Loc.nz, AO.nz, bne_self_eq_false, nilD, bytes, by_, put_take, padK_len, padB_len, padB_take, padK_all, padK_zero b] <;> fail)); (focus (simp [sto, GeoD.av, DevD.av, devA, devL, HQ_yn, HQ_yr, Loc.nz, AO.nz, bne_self_eq_false, nilD, bytes, by_, put_take, padK_len, padB_len, padB_take, padK_all, padK_zero b] <;> fail)); (focus (simp <;> fail))) | (simp [allP, opd, Fr.get, Fr.below, Fr.allN, AV.allN, AV.allNL, Loc.below, AO.allN, noN, killO, killT, killD, mkNames, AO.kill, AV.kill, AV.mapN, AV.mapNL]; done) | (with_reducible exact ltD (by assumption)) | omega | (simp only [decide_eq_true_eq, decide_eq_false_iff_not] at *; omega)))
  all_goals first
    | (refine res_err rfl (by first | rfl | assumption) ?_; first | (simp only [putE, *, Bool.false_or, Bool.true_or, Bool.or_true, Bool.or_false, Bool.and_true, Bool.true_and, Bool.false_and, Bool.and_false, Bool.not_true, Bool.not_false, cond_true, cond_false, bne_self_eq_false]; done) | (simp only [putE]; grind [inR]))
    | (refine res_ok rfl ?_ rfl (put_rows _ _ _) rfl rfl; first | (simp only [putE, *, Bool.false_or, Bool.true_or, Bool.or_true, Bool.or_false, Bool.and_true, Bool.true_and, Bool.false_and, Bool.and_false, Bool.not_true, Bool.not_false, cond_true, cond_false, bne_self_eq_false]; done) | (simp only [putE]; grind [inR]))
    | (have hk' := dltL hg
       have h64 := b64 (b := b) (by assumption)
       have hwk : IntKind.i64.wrap ((k : Int) + 1) = (k : Int) + 1 := IntWalk.i64_in _ (by omega)
       rw [hwk, padK_next hk' h64, rowOf_map _ _ _ (by rw [padK_len hk (by assumption)]; omega)]
       refine Wk.keep hcl (by simp [Fr.get]) (by simp [sto, List.map_set, by_]) (by simp))
end Go.Proofs.Ytalhjhmphdgaoaa
