/- Versions that may be. -/
import Derived.Test.YtijpmidnclbhpaaTake
import Derived.Test.YtijpmidnclbhpaaBs
import Derived.Test.YtijpmidnclbhpaaChk
import Derived.Test.YtijpmidnclbhpaaIdx
import Derived.Test.YtijpmidnclbhpaaTypes
namespace Go.Proofs.Ytijpmidnclbhpaa
open Go.RowKit
set_option maxRecDepth 100000
def o84_1:List SO:=((SO.mk (some 32) (.un .not (.tmp 31)) (some (26 ,true))) :: (SO.mk (some 33) (.pick (.tmp 26) (.tmp 32) (.const (Value.bool false))) none) :: (SO.mk (some 7) (.move (.tmp 33)) none) :: [])
theorem v84_1:type_of% (@swl _ _ o84_1.eq_1):=@swl _ _ o84_1.eq_1
def o84_2:List SO:=((SO.mk (some 28) (.load 26 (.tmp 27)) (some (26 ,true))) :: (SO.mk (some 29) (.faddr 51 (.tmp 4) 9) (some (26 ,true))) :: (SO.mk (some 30) (.load 3 (.tmp 29)) (some (26 ,true))) :: (SO.mk (some 31) (.call 93 [(.tmp 28),(.tmp 30)]) (some (26 ,true))) :: o84_1)
theorem v84_2:type_of% (@swl _ _ o84_2.eq_1):=@swl _ _ o84_2.eq_1
def o84_3:List SO:=((SO.mk (some 24) (.bin .leq 3 (.tmp 23) (.const (Value.int .i64 4000))) (some (21 ,true))) :: (SO.mk (some 25) (.pick (.tmp 21) (.tmp 24) (.const (Value.bool false))) none) :: (SO.mk (some 26) (.move (.tmp 25)) none) :: (SO.mk (some 27) (.faddr 28 (.tmp 3) 6) (some (26 ,true))) :: o84_2)
theorem v84_3:type_of% (@swl _ _ o84_3.eq_1):=@swl _ _ o84_3.eq_1
def o84_4:List SO:=((SO.mk (some 20) (.pick (.tmp 16) (.tmp 19) (.const (Value.bool false))) none) :: (SO.mk (some 21) (.move (.tmp 20)) none) :: (SO.mk (some 22) (.faddr 51 (.tmp 4) 10) (some (21 ,true))) :: (SO.mk (some 23) (.load 3 (.tmp 22)) (some (21 ,true))) :: o84_3)
theorem v84_4:type_of% (@swl _ _ o84_4.eq_1):=@swl _ _ o84_4.eq_1
def o84_5:List SO:=((SO.mk (some 16) (.move (.tmp 15)) none) :: (SO.mk (some 17) (.faddr 51 (.tmp 4) 10) (some (16 ,true))) :: (SO.mk (some 18) (.load 3 (.tmp 17)) (some (16 ,true))) :: (SO.mk (some 19) (.bin .geq 3 (.tmp 18) (.const (Value.int .i64 0))) (some (16 ,true))) :: o84_4)
theorem v84_5:type_of% (@swl _ _ o84_5.eq_1):=@swl _ _ o84_5.eq_1
def o84_6:List SO:=((SO.mk (some 12) (.faddr 51 (.tmp 4) 9) (some (11 ,true))) :: (SO.mk (some 13) (.load 3 (.tmp 12)) (some (11 ,true))) :: (SO.mk (some 14) (.bin .lss 3 (.tmp 13) (.const (Value.int .i64 8))) (some (11 ,true))) :: (SO.mk (some 15) (.pick (.tmp 11) (.tmp 14) (.const (Value.bool false))) none) :: o84_5)
theorem v84_6:type_of% (@swl _ _ o84_6.eq_1):=@swl _ _ o84_6.eq_1
def o84_7:List SO:=((SO.mk (some 58) (.pick (.tmp 51) (.tmp 57) (.const (Value.bool false))) none) :: (SO.mk (some 6) (.move (.tmp 58)) none) :: [])
theorem v84_7:type_of% (@swl _ _ o84_7.eq_1):=@swl _ _ o84_7.eq_1
def o84_8:List SO:=((SO.mk (some 54) (.load 26 (.tmp 53)) (some (51 ,true))) :: (SO.mk (some 55) (.faddr 51 (.tmp 4) 5) (some (51 ,true))) :: (SO.mk (some 56) (.load 3 (.tmp 55)) (some (51 ,true))) :: (SO.mk (some 57) (.call 76 [(.tmp 52),(.tmp 54),(.tmp 56)]) (some (51 ,true))) :: o84_7)
theorem v84_8:type_of% (@swl _ _ o84_8.eq_1):=@swl _ _ o84_8.eq_1
def o84_9:List SO:=((SO.mk (some 50) (.pick (.tmp 46) (.tmp 49) (.const (Value.bool false))) none) :: (SO.mk (some 51) (.move (.tmp 50)) none) :: (SO.mk (some 52) (.move (.tmp 2)) (some (51 ,true))) :: (SO.mk (some 53) (.faddr 51 (.tmp 4) 8) (some (51 ,true))) :: o84_8)
theorem v84_9:type_of% (@swl _ _ o84_9.eq_1):=@swl _ _ o84_9.eq_1
def o84_10:List SO:=((SO.mk (some 46) (.move (.tmp 45)) none) :: (SO.mk (some 47) (.faddr 51 (.tmp 4) 11) (some (46 ,true))) :: (SO.mk (some 48) (.load 3 (.tmp 47)) (some (46 ,true))) :: (SO.mk (some 49) (.bin .eql 3 (.tmp 48) (.const (Value.int .i64 0))) (some (46 ,true))) :: o84_9)
theorem v84_10:type_of% (@swl _ _ o84_10.eq_1):=@swl _ _ o84_10.eq_1
def o84_11:List SO:=((SO.mk (some 42) (.faddr 51 (.tmp 4) 10) (some (41 ,true))) :: (SO.mk (some 43) (.load 3 (.tmp 42)) (some (41 ,true))) :: (SO.mk (some 44) (.bin .eql 3 (.tmp 43) (.const (Value.int .i64 0))) (some (41 ,true))) :: (SO.mk (some 45) (.pick (.tmp 41) (.tmp 44) (.const (Value.bool false))) none) :: o84_10)
theorem v84_11:type_of% (@swl _ _ o84_11.eq_1):=@swl _ _ o84_11.eq_1
def c84_12:SC:=(.seq (.reg ((SO.mk (some 38) (.faddr 51 (.tmp 4) 9) none) :: (SO.mk (some 39) (.load 3 (.tmp 38)) none) :: (SO.mk (some 40) (.bin .eql 3 (.tmp 39) (.const (Value.int .i64 0))) none) :: (SO.mk (some 41) (.move (.tmp 40)) none) :: o84_11)) (.keep [6] .ret))
theorem u84_12:type_of% (@swc _ _ c84_12.eq_1):=@swc _ _ c84_12.eq_1
def o84_13:List SO:=((SO.mk (some 6) (.move (.tmp 72)) none) :: [])
theorem v84_13:type_of% (@swl _ _ o84_13.eq_1):=@swl _ _ o84_13.eq_1
def o84_14:List SO:=((SO.mk (some 69) (.load 26 (.tmp 68)) (some (67 ,true))) :: (SO.mk (some 70) (.len 26 (.tmp 69)) (some (67 ,true))) :: (SO.mk (some 71) (.bin .eql 3 (.tmp 70) (.const (Value.int .i64 0))) (some (67 ,true))) :: (SO.mk (some 72) (.pick (.tmp 67) (.tmp 71) (.const (Value.bool false))) none) :: o84_13)
theorem v84_14:type_of% (@swl _ _ o84_14.eq_1):=@swl _ _ o84_14.eq_1
def o84_15:List SO:=((SO.mk (some 65) (.bin .eql 3 (.tmp 64) (.const (Value.int .i64 0))) (some (62 ,true))) :: (SO.mk (some 66) (.pick (.tmp 62) (.tmp 65) (.const (Value.bool false))) none) :: (SO.mk (some 67) (.move (.tmp 66)) none) :: (SO.mk (some 68) (.faddr 51 (.tmp 4) 8) (some (67 ,true))) :: o84_14)
theorem v84_15:type_of% (@swl _ _ o84_15.eq_1):=@swl _ _ o84_15.eq_1
def c84_16:SC:=(.seq (.reg ((SO.mk (some 61) (.move (.tmp 7)) none) :: (SO.mk (some 62) (.move (.tmp 61)) none) :: (SO.mk (some 63) (.faddr 51 (.tmp 4) 11) (some (62 ,true))) :: (SO.mk (some 64) (.load 3 (.tmp 63)) (some (62 ,true))) :: o84_15)) (.keep [6] .ret))
theorem u84_16:type_of% (@swc _ _ c84_16.eq_1):=@swc _ _ c84_16.eq_1
def o84_17:List SO:=((SO.mk (some 91) (.load 3 (.tmp 90)) (some (86 ,true))) :: (SO.mk (some 92) (.call 76 [(.tmp 87),(.tmp 89),(.tmp 91)]) (some (86 ,true))) :: (SO.mk (some 93) (.pick (.tmp 86) (.tmp 92) (.const (Value.bool false))) none) :: (SO.mk (some 6) (.move (.tmp 93)) none) :: [])
theorem v84_17:type_of% (@swl _ _ o84_17.eq_1):=@swl _ _ o84_17.eq_1
def o84_18:List SO:=((SO.mk (some 87) (.move (.tmp 2)) (some (86 ,true))) :: (SO.mk (some 88) (.faddr 51 (.tmp 4) 8) (some (86 ,true))) :: (SO.mk (some 89) (.load 26 (.tmp 88)) (some (86 ,true))) :: (SO.mk (some 90) (.faddr 51 (.tmp 4) 5) (some (86 ,true))) :: o84_17)
theorem v84_18:type_of% (@swl _ _ o84_18.eq_1):=@swl _ _ o84_18.eq_1
def o84_19:List SO:=((SO.mk (some 83) (.load 3 (.tmp 82)) (some (81 ,true))) :: (SO.mk (some 84) (.bin .leq 3 (.tmp 83) (.const (Value.int .i64 1073742824))) (some (81 ,true))) :: (SO.mk (some 85) (.pick (.tmp 81) (.tmp 84) (.const (Value.bool false))) none) :: (SO.mk (some 86) (.move (.tmp 85)) none) :: o84_18)
theorem v84_19:type_of% (@swl _ _ o84_19.eq_1):=@swl _ _ o84_19.eq_1
def o84_20:List SO:=((SO.mk (some 79) (.bin .geq 3 (.tmp 78) (.const (Value.int .i64 0))) (some (76 ,true))) :: (SO.mk (some 80) (.pick (.tmp 76) (.tmp 79) (.const (Value.bool false))) none) :: (SO.mk (some 81) (.move (.tmp 80)) none) :: (SO.mk (some 82) (.faddr 51 (.tmp 4) 11) (some (81 ,true))) :: o84_19)
theorem v84_20:type_of% (@swl _ _ o84_20.eq_1):=@swl _ _ o84_20.eq_1
def c84_21:SC:=(.seq (.reg ((SO.mk (some 75) (.move (.tmp 7)) none) :: (SO.mk (some 76) (.move (.tmp 75)) none) :: (SO.mk (some 77) (.faddr 51 (.tmp 4) 11) (some (76 ,true))) :: (SO.mk (some 78) (.load 3 (.tmp 77)) (some (76 ,true))) :: o84_20)) (.keep [6] .ret))
theorem u84_21:type_of% (@swc _ _ c84_21.eq_1):=@swc _ _ c84_21.eq_1
def c84_22:SC:=(.cond (.tmp 73) c84_21 .skip)
theorem u84_22:type_of% (@swc _ _ c84_22.eq_1):=@swc _ _ c84_22.eq_1
def c84_23:SC:=(.seq (.reg [SO.mk (some 74) (.bin .eql 3 (.tmp 35) (.const (Value.int .i64 3))) none,SO.mk (some 73) (.move (.tmp 74)) none]) (.keep [73,4,2,7] c84_22))
theorem u84_23:type_of% (@swc _ _ c84_23.eq_1):=@swc _ _ c84_23.eq_1
def c84_24:SC:=(.cond (.tmp 59) c84_16 c84_23)
theorem u84_24:type_of% (@swc _ _ c84_24.eq_1):=@swc _ _ c84_24.eq_1
def c84_25:SC:=(.seq (.reg [SO.mk (some 60) (.bin .eql 3 (.tmp 35) (.const (Value.int .i64 2))) none,SO.mk (some 59) (.move (.tmp 60)) none]) (.keep [59,35,4,2,7] c84_24))
theorem u84_25:type_of% (@swc _ _ c84_25.eq_1):=@swc _ _ c84_25.eq_1
def c84_26:SC:=(.cond (.tmp 36) c84_12 c84_25)
theorem u84_26:type_of% (@swc _ _ c84_26.eq_1):=@swc _ _ c84_26.eq_1
def c84_27:SC:=(.block 0 (.seq (.reg [SO.mk (some 37) (.bin .eql 3 (.tmp 35) (.const (Value.int .i64 1))) none,SO.mk (some 36) (.move (.tmp 37)) none]) (.keep [36,35,4,2,7] c84_26)))
theorem u84_27:type_of% (@swc _ _ c84_27.eq_1):=@swc _ _ c84_27.eq_1
def c84_28:SC:=(.seq (.reg [SO.mk (some 6) (.move (.const (Value.bool false))) none]) (.keep [6] .ret))
theorem u84_28:type_of% (@swc _ _ c84_28.eq_1):=@swc _ _ c84_28.eq_1
def c84_29:SC:=(.seq (.seq (.reg [SO.mk (some 34) (.faddr 51 (.tmp 4) 7) none,SO.mk (some 35) (.load 3 (.tmp 34)) none]) (.keep [35,4,2,7] c84_27)) (.keep [] c84_28))
theorem u84_29:type_of% (@swc _ _ c84_29.eq_1):=@swc _ _ c84_29.eq_1
def c84_30:SC:=(.seq (.reg ((SO.mk (some 8) (.faddr 51 (.tmp 4) 9) none) :: (SO.mk (some 9) (.load 3 (.tmp 8)) none) :: (SO.mk (some 10) (.bin .geq 3 (.tmp 9) (.const (Value.int .i64 0))) none) :: (SO.mk (some 11) (.move (.tmp 10)) none) :: o84_6)) (.keep [4,2,7] c84_29))
theorem u84_30:type_of% (@swc _ _ c84_30.eq_1):=@swc _ _ c84_30.eq_1
def c84:SC:=(.seq (.reg [SO.mk (some 3) (.box 28 (.tmp 0)) none,SO.mk (some 4) (.box 51 (.tmp 1)) none,SO.mk (some 6) (.move (.const (Value.bool false))) none]) (.keep [3,4,2] c84_30))
theorem c84_eq:annC Try.f84 = some c84:=by kernel_rfl
theorem r84:Try.f84.results.toList = [.tmp 6]:=by kernel_rfl
theorem e84:enters Try.prog 84 = true:=by kernel_rfl
def o73_1:List SO:=((SO.mk (some 8) (.move (.tmp 15)) none) :: [])
theorem v73_1:type_of% (@swl _ _ o73_1.eq_1):=@swl _ _ o73_1.eq_1
def o73_2:List SO:=((SO.mk (some 9) (.move (.tmp 13)) none) :: (SO.mk (some 14) (.extract (.tmp 9) 0) none) :: (SO.mk (some 15) (.extract (.tmp 9) 1) none) :: (SO.mk (some 7) (.move (.tmp 14)) none) :: o73_1)
theorem v73_2:type_of% (@swl _ _ o73_2.eq_1):=@swl _ _ o73_2.eq_1
def o73_3:List SO:=((SO.mk (some 44) (.faddr 28 (.tmp 3) 1) (some (41 ,false))) :: (SO.mk (some 45) (.load 3 (.tmp 44)) (some (41 ,false))) :: (SO.mk (some 46) (.bin .gtr 3 (.tmp 43) (.tmp 45)) (some (41 ,false))) :: (SO.mk (some 47) (.pick (.tmp 41) (.const (Value.bool true)) (.tmp 46)) none) :: [])
theorem v73_3:type_of% (@swl _ _ o73_3.eq_1):=@swl _ _ o73_3.eq_1
def o73_4:List SO:=((SO.mk (some 40) (.pick (.tmp 36) (.const (Value.bool true)) (.tmp 39)) none) :: (SO.mk (some 41) (.move (.tmp 40)) none) :: (SO.mk (some 42) (.faddr 51 (.tmp 4) 6) (some (41 ,false))) :: (SO.mk (some 43) (.load 3 (.tmp 42)) (some (41 ,false))) :: o73_3)
theorem v73_4:type_of% (@swl _ _ o73_4.eq_1):=@swl _ _ o73_4.eq_1
def o73_5:List SO:=((SO.mk (some 36) (.move (.tmp 35)) none) :: (SO.mk (some 37) (.faddr 51 (.tmp 4) 6) (some (36 ,false))) :: (SO.mk (some 38) (.load 3 (.tmp 37)) (some (36 ,false))) :: (SO.mk (some 39) (.bin .lss 3 (.tmp 38) (.const (Value.int .i64 0))) (some (36 ,false))) :: o73_4)
theorem v73_5:type_of% (@swl _ _ o73_5.eq_1):=@swl _ _ o73_5.eq_1
def o73_6:List SO:=((SO.mk (some 32) (.faddr 28 (.tmp 3) 0) (some (29 ,false))) :: (SO.mk (some 33) (.load 3 (.tmp 32)) (some (29 ,false))) :: (SO.mk (some 34) (.bin .geq 3 (.tmp 31) (.tmp 33)) (some (29 ,false))) :: (SO.mk (some 35) (.pick (.tmp 29) (.const (Value.bool true)) (.tmp 34)) none) :: o73_5)
theorem v73_6:type_of% (@swl _ _ o73_6.eq_1):=@swl _ _ o73_6.eq_1
def o73_7:List SO:=((SO.mk (some 28) (.pick (.tmp 24) (.const (Value.bool true)) (.tmp 27)) none) :: (SO.mk (some 29) (.move (.tmp 28)) none) :: (SO.mk (some 30) (.faddr 51 (.tmp 4) 0) (some (29 ,false))) :: (SO.mk (some 31) (.load 3 (.tmp 30)) (some (29 ,false))) :: o73_6)
theorem v73_7:type_of% (@swl _ _ o73_7.eq_1):=@swl _ _ o73_7.eq_1
def o73_8:List SO:=((SO.mk (some 24) (.move (.tmp 23)) none) :: (SO.mk (some 25) (.faddr 51 (.tmp 4) 0) (some (24 ,false))) :: (SO.mk (some 26) (.load 3 (.tmp 25)) (some (24 ,false))) :: (SO.mk (some 27) (.bin .lss 3 (.tmp 26) (.const (Value.int .i64 1))) (some (24 ,false))) :: o73_7)
theorem v73_8:type_of% (@swl _ _ o73_8.eq_1):=@swl _ _ o73_8.eq_1
def o73_9:List SO:=((SO.mk (some 20) (.load 9 (.tmp 19)) (some (18 ,false))) :: (SO.mk (some 21) (.call 75 [(.tmp 20)]) (some (18 ,false))) :: (SO.mk (some 22) (.bin .neq 30 (.tmp 21) (.const (Value.int .i64 0))) (some (18 ,false))) :: (SO.mk (some 23) (.pick (.tmp 18) (.const (Value.bool true)) (.tmp 22)) none) :: o73_8)
theorem v73_9:type_of% (@swl _ _ o73_9.eq_1):=@swl _ _ o73_9.eq_1
def c73_10:SC:=(.seq (.reg [SO.mk (some 6) (.move (.const (Value.bool false))) none]) (.keep [6] .ret))
theorem u73_10:type_of% (@swc _ _ c73_10.eq_1):=@swc _ _ c73_10.eq_1
def c73_11:SC:=(.cond (.tmp 47) c73_10 .skip)
theorem u73_11:type_of% (@swc _ _ c73_11.eq_1):=@swc _ _ c73_11.eq_1
def c73_12:SC:=(.seq (.reg ((SO.mk (some 16) (.move (.tmp 8)) none) :: (SO.mk (some 17) (.un .not (.tmp 16)) none) :: (SO.mk (some 18) (.move (.tmp 17)) none) :: (SO.mk (some 19) (.faddr 51 (.tmp 4) 2) (some (18 ,false))) :: o73_9)) (.keep [47,3,4,2] c73_11))
theorem u73_12:type_of% (@swc _ _ c73_12.eq_1):=@swc _ _ c73_12.eq_1
def o73_13:List SO:=((SO.mk (some 78) (.pick (.tmp 74) (.tmp 77) (.const (Value.bool false))) none) :: (SO.mk (some 6) (.move (.tmp 78)) none) :: [])
theorem v73_13:type_of% (@swl _ _ o73_13.eq_1):=@swl _ _ o73_13.eq_1
def o73_14:List SO:=((SO.mk (some 74) (.move (.tmp 73)) none) :: (SO.mk (some 75) (.faddr 51 (.tmp 4) 11) (some (74 ,true))) :: (SO.mk (some 76) (.load 3 (.tmp 75)) (some (74 ,true))) :: (SO.mk (some 77) (.bin .eql 3 (.tmp 76) (.const (Value.int .i64 0))) (some (74 ,true))) :: o73_13)
theorem v73_14:type_of% (@swl _ _ o73_14.eq_1):=@swl _ _ o73_14.eq_1
def o73_15:List SO:=((SO.mk (some 70) (.faddr 51 (.tmp 4) 10) (some (69 ,true))) :: (SO.mk (some 71) (.load 3 (.tmp 70)) (some (69 ,true))) :: (SO.mk (some 72) (.bin .eql 3 (.tmp 71) (.const (Value.int .i64 0))) (some (69 ,true))) :: (SO.mk (some 73) (.pick (.tmp 69) (.tmp 72) (.const (Value.bool false))) none) :: o73_14)
theorem v73_15:type_of% (@swl _ _ o73_15.eq_1):=@swl _ _ o73_15.eq_1
def o73_16:List SO:=((SO.mk (some 66) (.load 3 (.tmp 65)) (some (64 ,true))) :: (SO.mk (some 67) (.bin .eql 3 (.tmp 66) (.const (Value.int .i64 0))) (some (64 ,true))) :: (SO.mk (some 68) (.pick (.tmp 64) (.tmp 67) (.const (Value.bool false))) none) :: (SO.mk (some 69) (.move (.tmp 68)) none) :: o73_15)
theorem v73_16:type_of% (@swl _ _ o73_16.eq_1):=@swl _ _ o73_16.eq_1
def o73_17:List SO:=((SO.mk (some 62) (.bin .eql 3 (.tmp 61) (.const (Value.int .i64 0))) (some (58 ,true))) :: (SO.mk (some 63) (.pick (.tmp 58) (.tmp 62) (.const (Value.bool false))) none) :: (SO.mk (some 64) (.move (.tmp 63)) none) :: (SO.mk (some 65) (.faddr 51 (.tmp 4) 9) (some (64 ,true))) :: o73_16)
theorem v73_17:type_of% (@swl _ _ o73_17.eq_1):=@swl _ _ o73_17.eq_1
def o73_18:List SO:=((SO.mk (some 58) (.move (.tmp 57)) none) :: (SO.mk (some 59) (.faddr 51 (.tmp 4) 8) (some (58 ,true))) :: (SO.mk (some 60) (.load 26 (.tmp 59)) (some (58 ,true))) :: (SO.mk (some 61) (.len 26 (.tmp 60)) (some (58 ,true))) :: o73_17)
theorem v73_18:type_of% (@swl _ _ o73_18.eq_1):=@swl _ _ o73_18.eq_1
def o73_19:List SO:=((SO.mk (some 54) (.faddr 51 (.tmp 4) 7) (some (53 ,true))) :: (SO.mk (some 55) (.load 3 (.tmp 54)) (some (53 ,true))) :: (SO.mk (some 56) (.bin .eql 3 (.tmp 55) (.const (Value.int .i64 0))) (some (53 ,true))) :: (SO.mk (some 57) (.pick (.tmp 53) (.tmp 56) (.const (Value.bool false))) none) :: o73_18)
theorem v73_19:type_of% (@swl _ _ o73_19.eq_1):=@swl _ _ o73_19.eq_1
def c73_20:SC:=(.seq (.reg ((SO.mk (some 50) (.faddr 51 (.tmp 4) 5) none) :: (SO.mk (some 51) (.load 3 (.tmp 50)) none) :: (SO.mk (some 52) (.bin .eql 3 (.tmp 51) (.const (Value.int .i64 0))) none) :: (SO.mk (some 53) (.move (.tmp 52)) none) :: o73_19)) (.keep [6] .ret))
theorem u73_20:type_of% (@swc _ _ c73_20.eq_1):=@swc _ _ c73_20.eq_1
def c73_21:SC:=(.cond (.tmp 49) c73_20 .skip)
theorem u73_21:type_of% (@swc _ _ c73_21.eq_1):=@swc _ _ c73_21.eq_1
def o73_22:List SO:=((SO.mk (some 91) (.call 84 [(.tmp 88),(.tmp 89),(.tmp 90)]) (some (87 ,true))) :: (SO.mk (some 92) (.pick (.tmp 87) (.tmp 91) (.const (Value.bool false))) none) :: (SO.mk (some 6) (.move (.tmp 92)) none) :: [])
theorem v73_22:type_of% (@swl _ _ o73_22.eq_1):=@swl _ _ o73_22.eq_1
def o73_23:List SO:=((SO.mk (some 87) (.move (.tmp 86)) none) :: (SO.mk (some 88) (.load 28 (.tmp 3)) (some (87 ,true))) :: (SO.mk (some 89) (.load 51 (.tmp 4)) (some (87 ,true))) :: (SO.mk (some 90) (.move (.tmp 2)) (some (87 ,true))) :: o73_22)
theorem v73_23:type_of% (@swl _ _ o73_23.eq_1):=@swl _ _ o73_23.eq_1
def o73_24:List SO:=((SO.mk (some 83) (.faddr 51 (.tmp 4) 5) (some (82 ,true))) :: (SO.mk (some 84) (.load 3 (.tmp 83)) (some (82 ,true))) :: (SO.mk (some 85) (.bin .leq 3 (.tmp 84) (.const (Value.int .i64 600))) (some (82 ,true))) :: (SO.mk (some 86) (.pick (.tmp 82) (.tmp 85) (.const (Value.bool false))) none) :: o73_23)
theorem v73_24:type_of% (@swl _ _ o73_24.eq_1):=@swl _ _ o73_24.eq_1
def c73_25:SC:=(.seq (.reg ((SO.mk (some 79) (.faddr 51 (.tmp 4) 5) none) :: (SO.mk (some 80) (.load 3 (.tmp 79)) none) :: (SO.mk (some 81) (.bin .geq 3 (.tmp 80) (.const (Value.int .i64 0))) none) :: (SO.mk (some 82) (.move (.tmp 81)) none) :: o73_24)) (.keep [6] .ret))
theorem u73_25:type_of% (@swc _ _ c73_25.eq_1):=@swc _ _ c73_25.eq_1
def c73_26:SC:=(.seq (.seq (.reg [SO.mk (some 48) (.faddr 51 (.tmp 4) 4) none,SO.mk (some 49) (.load 4 (.tmp 48)) none]) (.keep [49,3,4,2] c73_21)) (.keep [3,4,2] c73_25))
theorem u73_26:type_of% (@swc _ _ c73_26.eq_1):=@swc _ _ c73_26.eq_1
def c73_27:SC:=(.seq (.seq (.reg ((SO.mk (some 10) (.load 28 (.tmp 3)) none) :: (SO.mk (some 11) (.faddr 51 (.tmp 4) 1) none) :: (SO.mk (some 12) (.load 9 (.tmp 11)) none) :: (SO.mk (some 13) (.call 74 [(.tmp 10),(.tmp 12)]) none) :: o73_2)) (.keep [8,3,4,2] c73_12)) (.keep [3,4,2] c73_26))
theorem u73_27:type_of% (@swc _ _ c73_27.eq_1):=@swc _ _ c73_27.eq_1
def c73:SC:=(.seq (.reg [SO.mk (some 3) (.box 28 (.tmp 0)) none,SO.mk (some 4) (.box 51 (.tmp 1)) none,SO.mk (some 6) (.move (.const (Value.bool false))) none]) (.keep [3,4,2] c73_27))
theorem c73_eq:annC Try.f73 = some c73:=by kernel_rfl
theorem r73:Try.f73.results.toList = [.tmp 6]:=by kernel_rfl
theorem e73:enters Try.prog 73 = true:=by kernel_rfl
end Go.Proofs.Ytijpmidnclbhpaa
namespace Go.Proofs.Ytijpmidnclbhpaa
open Go.RowKit
set_option maxHeartbeats 4000000
set_option maxRecDepth 20000
attribute [local irreducible] SW OSW SWL SWLn SWD SEcall SEcallv SDv SE SO1 SOg ACalls ACallv Wk EndV
set_option linter.unusedSimpArgs false
set_option linter.unusedVariables false
def tapedF (s:SttD) (v:VerD):Bool:=decide (v.vol ≥ 0) && (decide (v.vol < 8) && (decide (v.pos ≥ 0) && (decide (v.pos ≤ 4000) && !decide (idxD s.gone.length (pI s.gone v.vol) ≥ 0))))
def tierF (s:SttD) (v:VerD) (es:List (KV × Bool)):Bool × List (KV × Bool) :=
  bif v.tier == 1 then (bif v.vol == 0 && (v.pos == 0 && v.till == 0) then takeF es v.secs v.size else (false,es))
  else bif v.tier == 2 then (tapedF s v && (v.till == 0 && ((v.secs.length:Int) == 0)),es)
  else bif v.tier == 3 then (bif tapedF s v && (decide (v.till ≥ 0) && decide (v.till ≤ 1073742824)) then takeF es v.secs v.size else (false,es))
  else (false,es)
theorem tiered_p (s:SttD) (v:VerD) (m:Bool) (es:List (KV × Bool)) (B:Nat) (σ:Sto) (n:Nat) (hn:n < B) (hσ:σ n = .mp false es) :
    ACalls Try.prog 84 [s.av,.agg [I v.id,.d (.v (.string v.bkt)),.d (.v (.string v.key)),Bo v.null,Bo m,I v.size,I v.time,I v.tier,.d (ints v.secs),I v.vol,I v.pos,I v.till],.mp n] σ B [] (fun v' σ'=>v' = Bo (tierF s v es).1 ∧ σ' = sto [(n,.mp false (tierF s v es).2)] σ):=by
  refine own_of follows Try.func84 c84_eq r84 (Nat.le_of_ble_eq_true rfl) fun hcl hsz=>?_
  clear hsz
  have y1:∀ s,(n = B + s) = False:=fun s=>by simp;omega
  have y2:∀ s,(B + s = n) = False:=fun s=>by simp;omega
  have y3:(n < B) = True:=eq_true hn
  have y4:decide (n < B) = true:=by simpa using hn
  have y5:decide (n < B + 100000) = true:=by simp;omega
  repeat' (first | (simp -implicitDefEqProofs only [*,Nat.reduceBEq,↓reduceIte,Nat.reduceEqDiff,Nat.reduceAdd,reduceCtorEq,AO.kill,AV.kill,Int.reduceLT,Int.reduceToNat,List.getElem?_nil,Nat.reduceMul,Nat.reducePow,Nat.reduceLeDiff,rowOf_mapD,rowOf_mapI,rowOf_mapA,List.getElem?_cons_zero,List.getElem?_cons_succ,take_map_len,take_map_app,List.getElem?_cons_zero,c84,r84,v84_1,v84_2,v84_3,v84_4,v84_5,v84_6,v84_7,v84_8,v84_9,v84_10,v84_11,u84_12,v84_13,v84_14,v84_15,u84_16,v84_17,v84_18,v84_19,v84_20,u84_21,u84_22,u84_23,u84_24,u84_25,u84_26,u84_27,u84_28,u84_29,u84_30,ty28,ty51,ty3,ty26,y1,y2,y3,y4,y5,SttD.av,SttD.cells,VerD.row,ints,hσ,mvcgen_simp]) | (with_reducible refine And.intro ?_ ?_) | (refine call_ro e93 ( contains_p s.gone v.vol) rfl ?_ ?_ ?_ ?_) | (refine gcall_ro e93 ( contains_p s.gone v.vol) rfl ?_ ?_ ?_ ?_) | (refine dcall_ro e93 ( contains_p s.gone v.vol) rfl ?_ ?_ ?_ ?_) | (refine gdcall_ro rfl e93 ( contains_p s.gone v.vol) rfl ?_ ?_ ?_ ?_) | (refine gcall_do trivial ?_) | (refine call_own [] [(n,.mp false (takeF es v.secs v.size).2)] e76 (take_p v.secs v.size es _ _ n (by omega) (by simp [sto,y1,y2,hσ])) rfl ?_ ?_ ?_ ?_ ?_) | (refine EndX.plain ?_) | (refine nil_split (fun hn=>?_) (fun hn=>?_)) | (refine gcall_no not_false ?_) | (refine gdcall_no not_false ?_) | (refine GuardS_of _ _ _ _ _ _ (fun hg=>?_) (fun hg=>?_)) | (refine GuardD_of _ _ _ _ (fun hg=>?_) (fun hg=>?_)) | (refine CondB_of _ _ _ _ _ _ _ ?_ (fun hg=>?_) (fun hg=>?_)))
  all_goals (try (first | ((first | unfold noN | unfold Fr.below | unfold Loc.below);simp [Fr.allN,AV.allN,AV.allNL,AO.allN];done) | rfl | trivial | assumption | (intro row hrow;simp only [List.mem_map] at hrow;obtain ⟨x,_,rfl⟩:=hrow;rfl) | (refine Wk.keep hcl ?_ ?_ ?_;(focus (simp [Fr.get,y1,y2,y3,y4,y5,SttD.av,SttD.cells,VerD.row,ints,hσ]<;>fail));(focus (simp [sto,y1,y2,y3,y4,y5,SttD.av,SttD.cells,VerD.row,ints,hσ]<;>fail));(focus (simp<;>fail))) | (simp [allP,opd,Fr.get,Fr.below,Fr.allN,AV.allN,AV.allNL,Loc.below,AO.allN,noN,killO,killT,killD,mkNames,AO.kill,AV.kill,AV.mapN,AV.mapNL];done) | (with_reducible exact ltD (by assumption)) | omega | (simp only [decide_eq_true_eq,decide_eq_false_iff_not] at *;omega)))
  all_goals (try (simp [Fr.below,Loc.below,Fr.allN,AO.allN,AV.allN,AV.allNL,y5];done))
  all_goals (clear y1 y2 y3 y4 y5)
  all_goals first
    | (simp only [tierF,tapedF, *,Bool.false_or,Bool.true_or,Bool.or_true,Bool.or_false,Bool.and_true,Bool.true_and,Bool.false_and,Bool.and_false,Bool.not_true,Bool.not_false,cond_true,cond_false];done)
    | (simp only [tierF,tapedF, *,Bool.false_or,Bool.true_or,Bool.or_true,Bool.or_false,Bool.and_true,Bool.true_and,Bool.false_and,Bool.and_false,Bool.not_true,Bool.not_false,cond_true,cond_false];exact sto_same hσ rfl)
def bktI (s:SttD) (x:ByteArray):Int:=bsP (cB s.bkts x) s.bkts.length
def thereB (s:SttD) (x:ByteArray):Bool:=decide (bsP (cB s.bkts x) s.bkts.length < s.bkts.length) && (cB s.bkts x (bsP (cB s.bkts x) s.bkts.length) == 0)
theorem bkt_p (s:SttD) (x:ByteArray):Pure Try.prog 74 [s.av,.d (.v (.string x))] (.tup [I (bktI s x),Bo (thereB s x)]):=bucket_p s x
def verI (s:SttD) (x:Int):Nat:=bsP (cV s.vers x) s.vers.length
def thereV (s:SttD) (x:Int):Bool:=decide (bsP (cV s.vers x) s.vers.length < s.vers.length) && (cV s.vers x (bsP (cV s.vers x) s.vers.length) == 0)
theorem ver_p (s:SttD) (x:Int):Pure Try.prog 77 [s.av,I x] (.tup [I (verI s x),Bo (thereV s x)]):=version_p s x
def badF (s:SttD) (v:VerD):Bool:=!thereB s v.bkt || (wordF v.key 16 != 0 || (decide (v.id < 1) || (decide (v.id ≥ s.next) || (decide (v.time < 0) || decide (v.time > s.clock)))))
def markF (v:VerD):Bool:=v.size == 0 && (v.tier == 0 && (((v.secs.length:Int) == 0) && (v.vol == 0 && (v.pos == 0 && v.till == 0))))
def soundF (s:SttD) (v:VerD) (es:List (KV × Bool)):Bool × List (KV × Bool) :=
  bif badF s v then (false,es) else bif v.mark then (markF v,es) else bif decide (v.size ≥ 0) && decide (v.size ≤ 600) then tierF s v es else (false,es)
theorem sound_p (s:SttD) (v:VerD) (es:List (KV × Bool)) (B:Nat) (σ:Sto) (n:Nat) (hn:n < B) (hσ:σ n = .mp false es) :
    ACalls Try.prog 73 [s.av,.agg (v.row.map .d),.mp n] σ B [] (fun v' σ'=>v' = Bo (soundF s v es).1 ∧ σ' = sto [(n,.mp false (soundF s v es).2)] σ):=by
  refine own_of follows Try.func73 c73_eq r73 (Nat.le_of_ble_eq_true rfl) fun hcl hsz=>?_
  clear hsz
  have y1:∀ s,(n = B + s) = False:=fun s=>by simp;omega
  have y2:∀ s,(B + s = n) = False:=fun s=>by simp;omega
  have y3:(n < B) = True:=eq_true hn
  have y4:decide (n < B) = true:=by simpa using hn
  have y5:decide (n < B + 100000) = true:=by simp;omega
  repeat' (first | (simp -implicitDefEqProofs only [*,Nat.reduceBEq,↓reduceIte,Nat.reduceEqDiff,Nat.reduceAdd,reduceCtorEq,AO.kill,AV.kill,Int.reduceLT,Int.reduceToNat,List.getElem?_nil,Nat.reduceMul,Nat.reducePow,Nat.reduceLeDiff,rowOf_mapD,rowOf_mapI,rowOf_mapA,List.getElem?_cons_zero,List.getElem?_cons_succ,take_map_len,take_map_app,List.getElem?_cons_zero,c73,r73,v73_1,v73_2,v73_3,v73_4,v73_5,v73_6,v73_7,v73_8,v73_9,u73_10,u73_11,u73_12,v73_13,v73_14,v73_15,v73_16,v73_17,v73_18,v73_19,u73_20,u73_21,v73_22,v73_23,v73_24,u73_25,u73_26,u73_27,ty28,ty51,ty9,ty30,ty3,ty4,ty26,y1,y2,y3,y4,y5,SttD.av,SttD.cells,VerD.row,ints,hσ,mvcgen_simp]) | (with_reducible refine And.intro ?_ ?_) | (refine call_ro e74 ( bkt_p s v.bkt) rfl ?_ ?_ ?_ ?_) | (refine gcall_ro e74 ( bkt_p s v.bkt) rfl ?_ ?_ ?_ ?_) | (refine dcall_ro e74 ( bkt_p s v.bkt) rfl ?_ ?_ ?_ ?_) | (refine gdcall_ro rfl e74 ( bkt_p s v.bkt) rfl ?_ ?_ ?_ ?_) | (refine call_ro e75 ( key_p v.key) rfl ?_ ?_ ?_ ?_) | (refine gcall_ro e75 ( key_p v.key) rfl ?_ ?_ ?_ ?_) | (refine dcall_ro e75 ( key_p v.key) rfl ?_ ?_ ?_ ?_) | (refine gdcall_ro rfl e75 ( key_p v.key) rfl ?_ ?_ ?_ ?_) | (refine gcall_do trivial ?_) | (refine call_own [] [(n,.mp false (tierF s v es).2)] e84 (tiered_p s v false es _ _ n (by omega) (by simp [sto,y1,y2,hσ])) rfl ?_ ?_ ?_ ?_ ?_) | (refine EndX.plain ?_) | (refine nil_split (fun hn=>?_) (fun hn=>?_)) | (refine gcall_no not_false ?_) | (refine gdcall_no not_false ?_) | (refine GuardS_of _ _ _ _ _ _ (fun hg=>?_) (fun hg=>?_)) | (refine GuardD_of _ _ _ _ (fun hg=>?_) (fun hg=>?_)) | (refine CondB_of _ _ _ _ _ _ _ ?_ (fun hg=>?_) (fun hg=>?_)))
  all_goals (try (first | ((first | unfold noN | unfold Fr.below | unfold Loc.below);simp [Fr.allN,AV.allN,AV.allNL,AO.allN];done) | rfl | trivial | assumption | (intro row hrow;simp only [List.mem_map] at hrow;obtain ⟨x,_,rfl⟩:=hrow;rfl) | (refine Wk.keep hcl ?_ ?_ ?_;(focus (simp [Fr.get,y1,y2,y3,y4,y5,SttD.av,SttD.cells,VerD.row,ints,hσ]<;>fail));(focus (simp [sto,y1,y2,y3,y4,y5,SttD.av,SttD.cells,VerD.row,ints,hσ]<;>fail));(focus (simp<;>fail))) | (simp [allP,opd,Fr.get,Fr.below,Fr.allN,AV.allN,AV.allNL,Loc.below,AO.allN,noN,killO,killT,killD,mkNames,AO.kill,AV.kill,AV.mapN,AV.mapNL];done) | (with_reducible exact ltD (by assumption)) | omega | (simp only [decide_eq_true_eq,decide_eq_false_iff_not] at *;omega)))
  all_goals (try (simp [Fr.below,Loc.below,Fr.allN,AO.allN,AV.allN,AV.allNL,y5];done))
  all_goals (clear y1 y2 y3 y4 y5)
  all_goals (simp only [Bool.not_eq_true',Bool.not_eq_false'] at *)
  all_goals first
    | (simp only [soundF,badF,markF, *,Bool.false_or,Bool.true_or,Bool.or_true,Bool.or_false,Bool.and_true,Bool.true_and,Bool.false_and,Bool.and_false,Bool.not_true,Bool.not_false,cond_true,cond_false];done)
    | (simp only [soundF,badF,markF, *,Bool.false_or,Bool.true_or,Bool.or_true,Bool.or_false,Bool.and_true,Bool.true_and,Bool.false_and,Bool.and_false,Bool.not_true,Bool.not_false,cond_true,cond_false];exact sto_same hσ rfl)
end Go.Proofs.Ytijpmidnclbhpaa
