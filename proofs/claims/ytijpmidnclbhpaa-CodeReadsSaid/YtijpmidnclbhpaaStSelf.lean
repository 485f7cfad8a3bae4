/- States are the same as themselves. -/
import Derived.Test.YtijpmidnclbhpaaNameB
import Derived.Test.YtijpmidnclbhpaaStD
import Derived.Test.YtijpmidnclbhpaaTypes
namespace Go.Proofs.Ytijpmidnclbhpaa
open Go.RowKit
set_option maxRecDepth 100000
def c50_1:SC:=(.seq (.reg [SO.mk (some 4) (.move (.const (Value.bool false))) none]) (.keep [4] .ret))
theorem u50_1:type_of% (@swc _ _ c50_1.eq_1):=@swc _ _ c50_1.eq_1
def c50_2:SC:=(.cond (.tmp 10) c50_1 .skip)
theorem u50_2:type_of% (@swc _ _ c50_2.eq_1):=@swc _ _ c50_2.eq_1
def c50_3:SC:=(.cond (.tmp 14) .skip (.exit 0))
theorem u50_3:type_of% (@swc _ _ c50_3.eq_1):=@swc _ _ c50_3.eq_1
def o50_4:List SO:=((SO.mk (some 25) (.bin .neq 3 (.tmp 20) (.tmp 24)) none) :: [])
theorem v50_4:type_of% (@swd _ _ o50_4.eq_1):=@swd _ _ o50_4.eq_1
def o50_5:List SO:=((SO.mk (some 21) (.move (.tmp 1)) none) :: (SO.mk (some 22) (.move (.tmp 5)) none) :: (SO.mk (some 23) (.iaddr 26 (.tmp 21) (.tmp 22)) none) :: (SO.mk (some 24) (.load 3 (.tmp 23)) none) :: o50_4)
theorem v50_5:type_of% (@swd _ _ o50_5.eq_1):=@swd _ _ o50_5.eq_1
def o50_6:List SO:=((SO.mk (some 17) (.move (.tmp 0)) none) :: (SO.mk (some 18) (.move (.tmp 5)) none) :: (SO.mk (some 19) (.iaddr 26 (.tmp 17) (.tmp 18)) none) :: (SO.mk (some 20) (.load 3 (.tmp 19)) none) :: o50_5)
theorem v50_6:type_of% (@swd _ _ o50_6.eq_1):=@swd _ _ o50_6.eq_1
theorem m50_6 (B:Nat):mkNames B o50_6 = []:=(rfl)
def c50_7:SC:=(.seq (.reg [SO.mk (some 4) (.move (.const (Value.bool false))) none]) (.keep [4] .ret))
theorem u50_7:type_of% (@swc _ _ c50_7.eq_1):=@swc _ _ c50_7.eq_1
def c50_8:SC:=(.cond (.tmp 25) c50_7 .skip)
theorem u50_8:type_of% (@swc _ _ c50_8.eq_1):=@swc _ _ c50_8.eq_1
def c50_9:SC:=(.reg [SO.mk (some 15) (.move (.tmp 5)) none,SO.mk (some 16) (.bin .add 3 (.tmp 15) (.const (Value.int .i64 1))) none,SO.mk (some 5) (.move (.tmp 16)) none])
theorem u50_9:type_of% (@swc _ _ c50_9.eq_1):=@swc _ _ c50_9.eq_1
def c50_10:SC:=(.seq (.block 1 (.seq (.dreg false o50_6 []) (.keep [25,5,1,0] c50_8))) (.keep [5,1,0] c50_9))
theorem u50_10:type_of% (@swc _ _ c50_10.eq_1):=@swc _ _ c50_10.eq_1
def c50_11:SC:=(.seq (.seq (.reg [SO.mk (some 11) (.move (.tmp 5)) none,SO.mk (some 12) (.move (.tmp 0)) none,SO.mk (some 13) (.len 26 (.tmp 12)) none,SO.mk (some 14) (.bin .lss 3 (.tmp 11) (.tmp 13)) none]) (.keep [14,0,1,5] c50_3)) (.keep [5,1,0] c50_10))
theorem u50_11:type_of% (@swc _ _ c50_11.eq_1):=@swc _ _ c50_11.eq_1
def c50_12:SC:=(.block 0 (.loop (.keep [0,1,5] c50_11)))
theorem u50_12:type_of% (@swc _ _ c50_12.eq_1):=@swc _ _ c50_12.eq_1
def c50_13:SC:=(.seq (.reg [SO.mk (some 4) (.move (.const (Value.bool true))) none]) (.keep [4] .ret))
theorem u50_13:type_of% (@swc _ _ c50_13.eq_1):=@swc _ _ c50_13.eq_1
def c50_14:SC:=(.seq (.seq (.reg [SO.mk (some 5) (.move (.const (Value.int .i64 0))) none]) (.keep [0,1,5] c50_12)) (.keep [] c50_13))
theorem u50_14:type_of% (@swc _ _ c50_14.eq_1):=@swc _ _ c50_14.eq_1
def c50_15:SC:=(.seq (.seq (.reg [SO.mk (some 6) (.move (.tmp 0)) none,SO.mk (some 7) (.len 26 (.tmp 6)) none,SO.mk (some 8) (.move (.tmp 1)) none,SO.mk (some 9) (.len 26 (.tmp 8)) none,SO.mk (some 10) (.bin .neq 3 (.tmp 7) (.tmp 9)) none]) (.keep [10,0,1] c50_2)) (.keep [0,1] c50_14))
theorem u50_15:type_of% (@swc _ _ c50_15.eq_1):=@swc _ _ c50_15.eq_1
def c50:SC:=(.seq (.reg [SO.mk (some 4) (.move (.const (Value.bool false))) none]) (.keep [0,1] c50_15))
theorem c50_eq:annC Try.f50 = some c50:=by kernel_rfl
theorem r50:Try.f50.results.toList = [.tmp 4]:=by kernel_rfl
theorem e50:enters Try.prog 50 = true:=by kernel_rfl
def o51_1:List SO:=((SO.mk (some 85) (.call 50 [(.tmp 82),(.tmp 84)]) (some (80 ,true))) :: (SO.mk (some 86) (.pick (.tmp 80) (.tmp 85) (.const (Value.bool false))) none) :: (SO.mk (some 4) (.move (.tmp 86)) none) :: [])
theorem v51_1:type_of% (@swl _ _ o51_1.eq_1):=@swl _ _ o51_1.eq_1
def o51_2:List SO:=((SO.mk (some 81) (.faddr 51 (.tmp 2) 8) (some (80 ,true))) :: (SO.mk (some 82) (.load 26 (.tmp 81)) (some (80 ,true))) :: (SO.mk (some 83) (.faddr 51 (.tmp 3) 8) (some (80 ,true))) :: (SO.mk (some 84) (.load 26 (.tmp 83)) (some (80 ,true))) :: o51_1)
theorem v51_2:type_of% (@swl _ _ o51_2.eq_1):=@swl _ _ o51_2.eq_1
def o51_3:List SO:=((SO.mk (some 77) (.load 3 (.tmp 76)) (some (73 ,true))) :: (SO.mk (some 78) (.bin .eql 3 (.tmp 75) (.tmp 77)) (some (73 ,true))) :: (SO.mk (some 79) (.pick (.tmp 73) (.tmp 78) (.const (Value.bool false))) none) :: (SO.mk (some 80) (.move (.tmp 79)) none) :: o51_2)
theorem v51_3:type_of% (@swl _ _ o51_3.eq_1):=@swl _ _ o51_3.eq_1
def o51_4:List SO:=((SO.mk (some 73) (.move (.tmp 72)) none) :: (SO.mk (some 74) (.faddr 51 (.tmp 2) 11) (some (73 ,true))) :: (SO.mk (some 75) (.load 3 (.tmp 74)) (some (73 ,true))) :: (SO.mk (some 76) (.faddr 51 (.tmp 3) 11) (some (73 ,true))) :: o51_3)
theorem v51_4:type_of% (@swl _ _ o51_4.eq_1):=@swl _ _ o51_4.eq_1
def o51_5:List SO:=((SO.mk (some 69) (.faddr 51 (.tmp 3) 10) (some (66 ,true))) :: (SO.mk (some 70) (.load 3 (.tmp 69)) (some (66 ,true))) :: (SO.mk (some 71) (.bin .eql 3 (.tmp 68) (.tmp 70)) (some (66 ,true))) :: (SO.mk (some 72) (.pick (.tmp 66) (.tmp 71) (.const (Value.bool false))) none) :: o51_4)
theorem v51_5:type_of% (@swl _ _ o51_5.eq_1):=@swl _ _ o51_5.eq_1
def o51_6:List SO:=((SO.mk (some 65) (.pick (.tmp 59) (.tmp 64) (.const (Value.bool false))) none) :: (SO.mk (some 66) (.move (.tmp 65)) none) :: (SO.mk (some 67) (.faddr 51 (.tmp 2) 10) (some (66 ,true))) :: (SO.mk (some 68) (.load 3 (.tmp 67)) (some (66 ,true))) :: o51_5)
theorem v51_6:type_of% (@swl _ _ o51_6.eq_1):=@swl _ _ o51_6.eq_1
def o51_7:List SO:=((SO.mk (some 61) (.load 3 (.tmp 60)) (some (59 ,true))) :: (SO.mk (some 62) (.faddr 51 (.tmp 3) 9) (some (59 ,true))) :: (SO.mk (some 63) (.load 3 (.tmp 62)) (some (59 ,true))) :: (SO.mk (some 64) (.bin .eql 3 (.tmp 61) (.tmp 63)) (some (59 ,true))) :: o51_6)
theorem v51_7:type_of% (@swl _ _ o51_7.eq_1):=@swl _ _ o51_7.eq_1
def o51_8:List SO:=((SO.mk (some 57) (.bin .eql 3 (.tmp 54) (.tmp 56)) (some (52 ,true))) :: (SO.mk (some 58) (.pick (.tmp 52) (.tmp 57) (.const (Value.bool false))) none) :: (SO.mk (some 59) (.move (.tmp 58)) none) :: (SO.mk (some 60) (.faddr 51 (.tmp 2) 9) (some (59 ,true))) :: o51_7)
theorem v51_8:type_of% (@swl _ _ o51_8.eq_1):=@swl _ _ o51_8.eq_1
def o51_9:List SO:=((SO.mk (some 53) (.faddr 51 (.tmp 2) 7) (some (52 ,true))) :: (SO.mk (some 54) (.load 3 (.tmp 53)) (some (52 ,true))) :: (SO.mk (some 55) (.faddr 51 (.tmp 3) 7) (some (52 ,true))) :: (SO.mk (some 56) (.load 3 (.tmp 55)) (some (52 ,true))) :: o51_8)
theorem v51_9:type_of% (@swl _ _ o51_9.eq_1):=@swl _ _ o51_9.eq_1
def o51_10:List SO:=((SO.mk (some 49) (.load 3 (.tmp 48)) (some (45 ,true))) :: (SO.mk (some 50) (.bin .eql 3 (.tmp 47) (.tmp 49)) (some (45 ,true))) :: (SO.mk (some 51) (.pick (.tmp 45) (.tmp 50) (.const (Value.bool false))) none) :: (SO.mk (some 52) (.move (.tmp 51)) none) :: o51_9)
theorem v51_10:type_of% (@swl _ _ o51_10.eq_1):=@swl _ _ o51_10.eq_1
def o51_11:List SO:=((SO.mk (some 45) (.move (.tmp 44)) none) :: (SO.mk (some 46) (.faddr 51 (.tmp 2) 6) (some (45 ,true))) :: (SO.mk (some 47) (.load 3 (.tmp 46)) (some (45 ,true))) :: (SO.mk (some 48) (.faddr 51 (.tmp 3) 6) (some (45 ,true))) :: o51_10)
theorem v51_11:type_of% (@swl _ _ o51_11.eq_1):=@swl _ _ o51_11.eq_1
def o51_12:List SO:=((SO.mk (some 41) (.faddr 51 (.tmp 3) 5) (some (38 ,true))) :: (SO.mk (some 42) (.load 3 (.tmp 41)) (some (38 ,true))) :: (SO.mk (some 43) (.bin .eql 3 (.tmp 40) (.tmp 42)) (some (38 ,true))) :: (SO.mk (some 44) (.pick (.tmp 38) (.tmp 43) (.const (Value.bool false))) none) :: o51_11)
theorem v51_12:type_of% (@swl _ _ o51_12.eq_1):=@swl _ _ o51_12.eq_1
def o51_13:List SO:=((SO.mk (some 37) (.pick (.tmp 31) (.tmp 36) (.const (Value.bool false))) none) :: (SO.mk (some 38) (.move (.tmp 37)) none) :: (SO.mk (some 39) (.faddr 51 (.tmp 2) 5) (some (38 ,true))) :: (SO.mk (some 40) (.load 3 (.tmp 39)) (some (38 ,true))) :: o51_12)
theorem v51_13:type_of% (@swl _ _ o51_13.eq_1):=@swl _ _ o51_13.eq_1
def o51_14:List SO:=((SO.mk (some 33) (.load 4 (.tmp 32)) (some (31 ,true))) :: (SO.mk (some 34) (.faddr 51 (.tmp 3) 4) (some (31 ,true))) :: (SO.mk (some 35) (.load 4 (.tmp 34)) (some (31 ,true))) :: (SO.mk (some 36) (.bin .eql 4 (.tmp 33) (.tmp 35)) (some (31 ,true))) :: o51_13)
theorem v51_14:type_of% (@swl _ _ o51_14.eq_1):=@swl _ _ o51_14.eq_1
def o51_15:List SO:=((SO.mk (some 29) (.bin .eql 4 (.tmp 26) (.tmp 28)) (some (24 ,true))) :: (SO.mk (some 30) (.pick (.tmp 24) (.tmp 29) (.const (Value.bool false))) none) :: (SO.mk (some 31) (.move (.tmp 30)) none) :: (SO.mk (some 32) (.faddr 51 (.tmp 2) 4) (some (31 ,true))) :: o51_14)
theorem v51_15:type_of% (@swl _ _ o51_15.eq_1):=@swl _ _ o51_15.eq_1
def o51_16:List SO:=((SO.mk (some 25) (.faddr 51 (.tmp 2) 3) (some (24 ,true))) :: (SO.mk (some 26) (.load 4 (.tmp 25)) (some (24 ,true))) :: (SO.mk (some 27) (.faddr 51 (.tmp 3) 3) (some (24 ,true))) :: (SO.mk (some 28) (.load 4 (.tmp 27)) (some (24 ,true))) :: o51_15)
theorem v51_16:type_of% (@swl _ _ o51_16.eq_1):=@swl _ _ o51_16.eq_1
def o51_17:List SO:=((SO.mk (some 21) (.load 9 (.tmp 20)) (some (17 ,true))) :: (SO.mk (some 22) (.bin .eql 9 (.tmp 19) (.tmp 21)) (some (17 ,true))) :: (SO.mk (some 23) (.pick (.tmp 17) (.tmp 22) (.const (Value.bool false))) none) :: (SO.mk (some 24) (.move (.tmp 23)) none) :: o51_16)
theorem v51_17:type_of% (@swl _ _ o51_17.eq_1):=@swl _ _ o51_17.eq_1
def o51_18:List SO:=((SO.mk (some 17) (.move (.tmp 16)) none) :: (SO.mk (some 18) (.faddr 51 (.tmp 2) 2) (some (17 ,true))) :: (SO.mk (some 19) (.load 9 (.tmp 18)) (some (17 ,true))) :: (SO.mk (some 20) (.faddr 51 (.tmp 3) 2) (some (17 ,true))) :: o51_17)
theorem v51_18:type_of% (@swl _ _ o51_18.eq_1):=@swl _ _ o51_18.eq_1
def o51_19:List SO:=((SO.mk (some 13) (.faddr 51 (.tmp 3) 1) (some (10 ,true))) :: (SO.mk (some 14) (.load 9 (.tmp 13)) (some (10 ,true))) :: (SO.mk (some 15) (.bin .eql 9 (.tmp 12) (.tmp 14)) (some (10 ,true))) :: (SO.mk (some 16) (.pick (.tmp 10) (.tmp 15) (.const (Value.bool false))) none) :: o51_18)
theorem v51_19:type_of% (@swl _ _ o51_19.eq_1):=@swl _ _ o51_19.eq_1
def o51_20:List SO:=((SO.mk (some 9) (.bin .eql 3 (.tmp 6) (.tmp 8)) none) :: (SO.mk (some 10) (.move (.tmp 9)) none) :: (SO.mk (some 11) (.faddr 51 (.tmp 2) 1) (some (10 ,true))) :: (SO.mk (some 12) (.load 9 (.tmp 11)) (some (10 ,true))) :: o51_19)
theorem v51_20:type_of% (@swl _ _ o51_20.eq_1):=@swl _ _ o51_20.eq_1
def c51_21:SC:=(.seq (.reg ((SO.mk (some 5) (.faddr 51 (.tmp 2) 0) none) :: (SO.mk (some 6) (.load 3 (.tmp 5)) none) :: (SO.mk (some 7) (.faddr 51 (.tmp 3) 0) none) :: (SO.mk (some 8) (.load 3 (.tmp 7)) none) :: o51_20)) (.keep [4] .ret))
theorem u51_21:type_of% (@swc _ _ c51_21.eq_1):=@swc _ _ c51_21.eq_1
def c51:SC:=(.seq (.reg [SO.mk (some 2) (.box 51 (.tmp 0)) none,SO.mk (some 3) (.box 51 (.tmp 1)) none,SO.mk (some 4) (.move (.const (Value.bool false))) none]) (.keep [2,3] c51_21))
theorem c51_eq:annC Try.f51 = some c51:=by kernel_rfl
theorem r51:Try.f51.results.toList = [.tmp 4]:=by kernel_rfl
theorem e51:enters Try.prog 51 = true:=by kernel_rfl
def o52_1:List SO:=((SO.mk (some 21) (.load 26 (.tmp 20)) (some (17 ,true))) :: (SO.mk (some 22) (.call 50 [(.tmp 19),(.tmp 21)]) (some (17 ,true))) :: (SO.mk (some 23) (.pick (.tmp 17) (.tmp 22) (.const (Value.bool false))) none) :: (SO.mk (some 4) (.move (.tmp 23)) none) :: [])
theorem v52_1:type_of% (@swl _ _ o52_1.eq_1):=@swl _ _ o52_1.eq_1
def o52_2:List SO:=((SO.mk (some 17) (.move (.tmp 16)) none) :: (SO.mk (some 18) (.faddr 57 (.tmp 2) 2) (some (17 ,true))) :: (SO.mk (some 19) (.load 26 (.tmp 18)) (some (17 ,true))) :: (SO.mk (some 20) (.faddr 57 (.tmp 3) 2) (some (17 ,true))) :: o52_1)
theorem v52_2:type_of% (@swl _ _ o52_2.eq_1):=@swl _ _ o52_2.eq_1
def o52_3:List SO:=((SO.mk (some 13) (.faddr 57 (.tmp 3) 1) (some (10 ,true))) :: (SO.mk (some 14) (.load 3 (.tmp 13)) (some (10 ,true))) :: (SO.mk (some 15) (.bin .eql 3 (.tmp 12) (.tmp 14)) (some (10 ,true))) :: (SO.mk (some 16) (.pick (.tmp 10) (.tmp 15) (.const (Value.bool false))) none) :: o52_2)
theorem v52_3:type_of% (@swl _ _ o52_3.eq_1):=@swl _ _ o52_3.eq_1
def o52_4:List SO:=((SO.mk (some 9) (.bin .eql 3 (.tmp 6) (.tmp 8)) none) :: (SO.mk (some 10) (.move (.tmp 9)) none) :: (SO.mk (some 11) (.faddr 57 (.tmp 2) 1) (some (10 ,true))) :: (SO.mk (some 12) (.load 3 (.tmp 11)) (some (10 ,true))) :: o52_3)
theorem v52_4:type_of% (@swl _ _ o52_4.eq_1):=@swl _ _ o52_4.eq_1
def c52_5:SC:=(.seq (.reg ((SO.mk (some 5) (.faddr 57 (.tmp 2) 0) none) :: (SO.mk (some 6) (.load 3 (.tmp 5)) none) :: (SO.mk (some 7) (.faddr 57 (.tmp 3) 0) none) :: (SO.mk (some 8) (.load 3 (.tmp 7)) none) :: o52_4)) (.keep [4] .ret))
theorem u52_5:type_of% (@swc _ _ c52_5.eq_1):=@swc _ _ c52_5.eq_1
def c52:SC:=(.seq (.reg [SO.mk (some 2) (.box 57 (.tmp 0)) none,SO.mk (some 3) (.box 57 (.tmp 1)) none,SO.mk (some 4) (.move (.const (Value.bool false))) none]) (.keep [2,3] c52_5))
theorem c52_eq:annC Try.f52 = some c52:=by kernel_rfl
theorem r52:Try.f52.results.toList = [.tmp 4]:=by kernel_rfl
theorem e52:enters Try.prog 52 = true:=by kernel_rfl
def o10_1:List SO:=((SO.mk (some 64) (.load 26 (.tmp 63)) (some (60 ,false))) :: (SO.mk (some 65) (.call 50 [(.tmp 62),(.tmp 64)]) (some (60 ,false))) :: (SO.mk (some 66) (.un .not (.tmp 65)) (some (60 ,false))) :: (SO.mk (some 67) (.pick (.tmp 60) (.const (Value.bool true)) (.tmp 66)) none) :: [])
theorem v10_1:type_of% (@swl _ _ o10_1.eq_1):=@swl _ _ o10_1.eq_1
def o10_2:List SO:=((SO.mk (some 60) (.move (.tmp 59)) none) :: (SO.mk (some 61) (.faddr 28 (.tmp 2) 6) (some (60 ,false))) :: (SO.mk (some 62) (.load 26 (.tmp 61)) (some (60 ,false))) :: (SO.mk (some 63) (.faddr 28 (.tmp 3) 6) (some (60 ,false))) :: o10_1)
theorem v10_2:type_of% (@swl _ _ o10_2.eq_1):=@swl _ _ o10_2.eq_1
def o10_3:List SO:=((SO.mk (some 56) (.load 25 (.tmp 55)) (some (51 ,false))) :: (SO.mk (some 57) (.len 25 (.tmp 56)) (some (51 ,false))) :: (SO.mk (some 58) (.bin .neq 3 (.tmp 54) (.tmp 57)) (some (51 ,false))) :: (SO.mk (some 59) (.pick (.tmp 51) (.const (Value.bool true)) (.tmp 58)) none) :: o10_2)
theorem v10_3:type_of% (@swl _ _ o10_3.eq_1):=@swl _ _ o10_3.eq_1
def o10_4:List SO:=((SO.mk (some 52) (.faddr 28 (.tmp 2) 5) (some (51 ,false))) :: (SO.mk (some 53) (.load 25 (.tmp 52)) (some (51 ,false))) :: (SO.mk (some 54) (.len 25 (.tmp 53)) (some (51 ,false))) :: (SO.mk (some 55) (.faddr 28 (.tmp 3) 5) (some (51 ,false))) :: o10_3)
theorem v10_4:type_of% (@swl _ _ o10_4.eq_1):=@swl _ _ o10_4.eq_1
def o10_5:List SO:=((SO.mk (some 48) (.len 24 (.tmp 47)) (some (42 ,false))) :: (SO.mk (some 49) (.bin .neq 3 (.tmp 45) (.tmp 48)) (some (42 ,false))) :: (SO.mk (some 50) (.pick (.tmp 42) (.const (Value.bool true)) (.tmp 49)) none) :: (SO.mk (some 51) (.move (.tmp 50)) none) :: o10_4)
theorem v10_5:type_of% (@swl _ _ o10_5.eq_1):=@swl _ _ o10_5.eq_1
def o10_6:List SO:=((SO.mk (some 44) (.load 24 (.tmp 43)) (some (42 ,false))) :: (SO.mk (some 45) (.len 24 (.tmp 44)) (some (42 ,false))) :: (SO.mk (some 46) (.faddr 28 (.tmp 3) 4) (some (42 ,false))) :: (SO.mk (some 47) (.load 24 (.tmp 46)) (some (42 ,false))) :: o10_5)
theorem v10_6:type_of% (@swl _ _ o10_6.eq_1):=@swl _ _ o10_6.eq_1
def o10_7:List SO:=((SO.mk (some 40) (.bin .neq 3 (.tmp 36) (.tmp 39)) (some (33 ,false))) :: (SO.mk (some 41) (.pick (.tmp 33) (.const (Value.bool true)) (.tmp 40)) none) :: (SO.mk (some 42) (.move (.tmp 41)) none) :: (SO.mk (some 43) (.faddr 28 (.tmp 2) 4) (some (42 ,false))) :: o10_6)
theorem v10_7:type_of% (@swl _ _ o10_7.eq_1):=@swl _ _ o10_7.eq_1
def o10_8:List SO:=((SO.mk (some 36) (.len 23 (.tmp 35)) (some (33 ,false))) :: (SO.mk (some 37) (.faddr 28 (.tmp 3) 3) (some (33 ,false))) :: (SO.mk (some 38) (.load 23 (.tmp 37)) (some (33 ,false))) :: (SO.mk (some 39) (.len 23 (.tmp 38)) (some (33 ,false))) :: o10_7)
theorem v10_8:type_of% (@swl _ _ o10_8.eq_1):=@swl _ _ o10_8.eq_1
def o10_9:List SO:=((SO.mk (some 32) (.pick (.tmp 24) (.const (Value.bool true)) (.tmp 31)) none) :: (SO.mk (some 33) (.move (.tmp 32)) none) :: (SO.mk (some 34) (.faddr 28 (.tmp 2) 3) (some (33 ,false))) :: (SO.mk (some 35) (.load 23 (.tmp 34)) (some (33 ,false))) :: o10_8)
theorem v10_9:type_of% (@swl _ _ o10_9.eq_1):=@swl _ _ o10_9.eq_1
def o10_10:List SO:=((SO.mk (some 28) (.faddr 28 (.tmp 3) 2) (some (24 ,false))) :: (SO.mk (some 29) (.load 22 (.tmp 28)) (some (24 ,false))) :: (SO.mk (some 30) (.len 22 (.tmp 29)) (some (24 ,false))) :: (SO.mk (some 31) (.bin .neq 3 (.tmp 27) (.tmp 30)) (some (24 ,false))) :: o10_9)
theorem v10_10:type_of% (@swl _ _ o10_10.eq_1):=@swl _ _ o10_10.eq_1
def o10_11:List SO:=((SO.mk (some 24) (.move (.tmp 23)) none) :: (SO.mk (some 25) (.faddr 28 (.tmp 2) 2) (some (24 ,false))) :: (SO.mk (some 26) (.load 22 (.tmp 25)) (some (24 ,false))) :: (SO.mk (some 27) (.len 22 (.tmp 26)) (some (24 ,false))) :: o10_10)
theorem v10_11:type_of% (@swl _ _ o10_11.eq_1):=@swl _ _ o10_11.eq_1
def o10_12:List SO:=((SO.mk (some 20) (.faddr 28 (.tmp 3) 1) (some (17 ,false))) :: (SO.mk (some 21) (.load 3 (.tmp 20)) (some (17 ,false))) :: (SO.mk (some 22) (.bin .neq 3 (.tmp 19) (.tmp 21)) (some (17 ,false))) :: (SO.mk (some 23) (.pick (.tmp 17) (.const (Value.bool true)) (.tmp 22)) none) :: o10_11)
theorem v10_12:type_of% (@swl _ _ o10_12.eq_1):=@swl _ _ o10_12.eq_1
def o10_13:List SO:=((SO.mk (some 16) (.bin .neq 3 (.tmp 13) (.tmp 15)) none) :: (SO.mk (some 17) (.move (.tmp 16)) none) :: (SO.mk (some 18) (.faddr 28 (.tmp 2) 1) (some (17 ,false))) :: (SO.mk (some 19) (.load 3 (.tmp 18)) (some (17 ,false))) :: o10_12)
theorem v10_13:type_of% (@swl _ _ o10_13.eq_1):=@swl _ _ o10_13.eq_1
def c10_14:SC:=(.seq (.reg [SO.mk (some 4) (.move (.const (Value.bool false))) none]) (.keep [4] .ret))
theorem u10_14:type_of% (@swc _ _ c10_14.eq_1):=@swc _ _ c10_14.eq_1
def c10_15:SC:=(.cond (.tmp 67) c10_14 .skip)
theorem u10_15:type_of% (@swc _ _ c10_15.eq_1):=@swc _ _ c10_15.eq_1
def c10_16:SC:=(.cond (.tmp 72) .skip (.exit 0))
theorem u10_16:type_of% (@swc _ _ c10_16.eq_1):=@swc _ _ c10_16.eq_1
def o10_17:List SO:=((SO.mk (some 83) (.iaddr 22 (.tmp 81) (.tmp 82)) none) :: (SO.mk (some 84) (.load 47 (.tmp 83)) none) :: (SO.mk (some 85) (.bin .neq 47 (.tmp 79) (.tmp 84)) none) :: [])
theorem v10_17:type_of% (@swd _ _ o10_17.eq_1):=@swd _ _ o10_17.eq_1
def o10_18:List SO:=((SO.mk (some 79) (.load 47 (.tmp 78)) none) :: (SO.mk (some 80) (.faddr 28 (.tmp 3) 2) none) :: (SO.mk (some 81) (.load 22 (.tmp 80)) none) :: (SO.mk (some 82) (.move (.tmp 5)) none) :: o10_17)
theorem v10_18:type_of% (@swd _ _ o10_18.eq_1):=@swd _ _ o10_18.eq_1
def o10_19:List SO:=((SO.mk (some 75) (.faddr 28 (.tmp 2) 2) none) :: (SO.mk (some 76) (.load 22 (.tmp 75)) none) :: (SO.mk (some 77) (.move (.tmp 5)) none) :: (SO.mk (some 78) (.iaddr 22 (.tmp 76) (.tmp 77)) none) :: o10_18)
theorem v10_19:type_of% (@swd _ _ o10_19.eq_1):=@swd _ _ o10_19.eq_1
theorem m10_19 (B:Nat):mkNames B o10_19 = []:=(rfl)
def c10_20:SC:=(.seq (.reg [SO.mk (some 4) (.move (.const (Value.bool false))) none]) (.keep [4] .ret))
theorem u10_20:type_of% (@swc _ _ c10_20.eq_1):=@swc _ _ c10_20.eq_1
def c10_21:SC:=(.cond (.tmp 85) c10_20 .skip)
theorem u10_21:type_of% (@swc _ _ c10_21.eq_1):=@swc _ _ c10_21.eq_1
def c10_22:SC:=(.reg [SO.mk (some 73) (.move (.tmp 5)) none,SO.mk (some 74) (.bin .add 3 (.tmp 73) (.const (Value.int .i64 1))) none,SO.mk (some 5) (.move (.tmp 74)) none])
theorem u10_22:type_of% (@swc _ _ c10_22.eq_1):=@swc _ _ c10_22.eq_1
def c10_23:SC:=(.seq (.block 1 (.seq (.dreg false o10_19 []) (.keep [85,5,2,3] c10_21))) (.keep [5,2,3] c10_22))
theorem u10_23:type_of% (@swc _ _ c10_23.eq_1):=@swc _ _ c10_23.eq_1
def c10_24:SC:=(.seq (.seq (.reg [SO.mk (some 68) (.move (.tmp 5)) none,SO.mk (some 69) (.faddr 28 (.tmp 2) 2) none,SO.mk (some 70) (.load 22 (.tmp 69)) none,SO.mk (some 71) (.len 22 (.tmp 70)) none,SO.mk (some 72) (.bin .lss 3 (.tmp 68) (.tmp 71)) none]) (.keep [72,5,2,3] c10_16)) (.keep [5,2,3] c10_23))
theorem u10_24:type_of% (@swc _ _ c10_24.eq_1):=@swc _ _ c10_24.eq_1
def c10_25:SC:=(.block 0 (.loop (.keep [5,2,3] c10_24)))
theorem u10_25:type_of% (@swc _ _ c10_25.eq_1):=@swc _ _ c10_25.eq_1
def c10_26:SC:=(.cond (.tmp 90) .skip (.exit 2))
theorem u10_26:type_of% (@swc _ _ c10_26.eq_1):=@swc _ _ c10_26.eq_1
def o10_27:List SO:=((SO.mk (some 101) (.iaddr 23 (.tmp 99) (.tmp 100)) none) :: (SO.mk (some 102) (.load 51 (.tmp 101)) none) :: [])
theorem v10_27:type_of% (@swd _ _ o10_27.eq_1):=@swd _ _ o10_27.eq_1
def o10_28:List SO:=((SO.mk (some 97) (.load 51 (.tmp 96)) none) :: (SO.mk (some 98) (.faddr 28 (.tmp 3) 3) none) :: (SO.mk (some 99) (.load 23 (.tmp 98)) none) :: (SO.mk (some 100) (.move (.tmp 6)) none) :: o10_27)
theorem v10_28:type_of% (@swd _ _ o10_28.eq_1):=@swd _ _ o10_28.eq_1
def o10_29:List SO:=((SO.mk (some 93) (.faddr 28 (.tmp 2) 3) none) :: (SO.mk (some 94) (.load 23 (.tmp 93)) none) :: (SO.mk (some 95) (.move (.tmp 6)) none) :: (SO.mk (some 96) (.iaddr 23 (.tmp 94) (.tmp 95)) none) :: o10_28)
theorem v10_29:type_of% (@swd _ _ o10_29.eq_1):=@swd _ _ o10_29.eq_1
theorem m10_29 (B:Nat):mkNames B o10_29 = []:=(rfl)
def c10_30:SC:=(.seq (.reg [SO.mk (some 4) (.move (.const (Value.bool false))) none]) (.keep [4] .ret))
theorem u10_30:type_of% (@swc _ _ c10_30.eq_1):=@swc _ _ c10_30.eq_1
def c10_31:SC:=(.cond (.tmp 104) c10_30 .skip)
theorem u10_31:type_of% (@swc _ _ c10_31.eq_1):=@swc _ _ c10_31.eq_1
def c10_32:SC:=(.reg [SO.mk (some 91) (.move (.tmp 6)) none,SO.mk (some 92) (.bin .add 3 (.tmp 91) (.const (Value.int .i64 1))) none,SO.mk (some 6) (.move (.tmp 92)) none])
theorem u10_32:type_of% (@swc _ _ c10_32.eq_1):=@swc _ _ c10_32.eq_1
def c10_33:SC:=(.seq (.block 3 (.seq (.dreg false o10_29 [SO.mk (some 103) (.call 51 [(.tmp 97),(.tmp 102)]) none,SO.mk (some 104) (.un .not (.tmp 103)) none]) (.keep [104,6,2,3] c10_31))) (.keep [6,2,3] c10_32))
theorem u10_33:type_of% (@swc _ _ c10_33.eq_1):=@swc _ _ c10_33.eq_1
def c10_34:SC:=(.seq (.seq (.reg [SO.mk (some 86) (.move (.tmp 6)) none,SO.mk (some 87) (.faddr 28 (.tmp 2) 3) none,SO.mk (some 88) (.load 23 (.tmp 87)) none,SO.mk (some 89) (.len 23 (.tmp 88)) none,SO.mk (some 90) (.bin .lss 3 (.tmp 86) (.tmp 89)) none]) (.keep [90,6,2,3] c10_26)) (.keep [6,2,3] c10_33))
theorem u10_34:type_of% (@swc _ _ c10_34.eq_1):=@swc _ _ c10_34.eq_1
def c10_35:SC:=(.block 2 (.loop (.keep [6,2,3] c10_34)))
theorem u10_35:type_of% (@swc _ _ c10_35.eq_1):=@swc _ _ c10_35.eq_1
def c10_36:SC:=(.cond (.tmp 109) .skip (.exit 4))
theorem u10_36:type_of% (@swc _ _ c10_36.eq_1):=@swc _ _ c10_36.eq_1
def o10_37:List SO:=((SO.mk (some 116) (.load 55 (.tmp 115)) none) :: (SO.mk (some 8) (.alloc 55) none) :: (SO.mk none (.store 55 (.tmp 8) (.tmp 116)) none) :: [])
theorem v10_37:type_of% (@swl _ _ o10_37.eq_1):=@swl _ _ o10_37.eq_1
def o10_38:List SO:=((SO.mk (some 121) (.load 55 (.tmp 120)) none) :: (SO.mk (some 9) (.alloc 55) none) :: (SO.mk none (.store 55 (.tmp 9) (.tmp 121)) none) :: [])
theorem v10_38:type_of% (@swl _ _ o10_38.eq_1):=@swl _ _ o10_38.eq_1
def o10_39:List SO:=((SO.mk (some 146) (.load 53 (.tmp 145)) (some (141 ,false))) :: (SO.mk (some 147) (.len 53 (.tmp 146)) (some (141 ,false))) :: (SO.mk (some 148) (.bin .neq 3 (.tmp 144) (.tmp 147)) (some (141 ,false))) :: (SO.mk (some 149) (.pick (.tmp 141) (.const (Value.bool true)) (.tmp 148)) none) :: [])
theorem v10_39:type_of% (@swl _ _ o10_39.eq_1):=@swl _ _ o10_39.eq_1
def o10_40:List SO:=((SO.mk (some 142) (.faddr 55 (.tmp 8) 3) (some (141 ,false))) :: (SO.mk (some 143) (.load 53 (.tmp 142)) (some (141 ,false))) :: (SO.mk (some 144) (.len 53 (.tmp 143)) (some (141 ,false))) :: (SO.mk (some 145) (.faddr 55 (.tmp 9) 3) (some (141 ,false))) :: o10_39)
theorem v10_40:type_of% (@swl _ _ o10_40.eq_1):=@swl _ _ o10_40.eq_1
def o10_41:List SO:=((SO.mk (some 138) (.load 9 (.tmp 137)) (some (134 ,false))) :: (SO.mk (some 139) (.bin .neq 9 (.tmp 136) (.tmp 138)) (some (134 ,false))) :: (SO.mk (some 140) (.pick (.tmp 134) (.const (Value.bool true)) (.tmp 139)) none) :: (SO.mk (some 141) (.move (.tmp 140)) none) :: o10_40)
theorem v10_41:type_of% (@swl _ _ o10_41.eq_1):=@swl _ _ o10_41.eq_1
def o10_42:List SO:=((SO.mk (some 134) (.move (.tmp 133)) none) :: (SO.mk (some 135) (.faddr 55 (.tmp 8) 2) (some (134 ,false))) :: (SO.mk (some 136) (.load 9 (.tmp 135)) (some (134 ,false))) :: (SO.mk (some 137) (.faddr 55 (.tmp 9) 2) (some (134 ,false))) :: o10_41)
theorem v10_42:type_of% (@swl _ _ o10_42.eq_1):=@swl _ _ o10_42.eq_1
def o10_43:List SO:=((SO.mk (some 130) (.faddr 55 (.tmp 9) 1) (some (127 ,false))) :: (SO.mk (some 131) (.load 9 (.tmp 130)) (some (127 ,false))) :: (SO.mk (some 132) (.bin .neq 9 (.tmp 129) (.tmp 131)) (some (127 ,false))) :: (SO.mk (some 133) (.pick (.tmp 127) (.const (Value.bool true)) (.tmp 132)) none) :: o10_42)
theorem v10_43:type_of% (@swl _ _ o10_43.eq_1):=@swl _ _ o10_43.eq_1
def o10_44:List SO:=((SO.mk (some 126) (.bin .neq 3 (.tmp 123) (.tmp 125)) none) :: (SO.mk (some 127) (.move (.tmp 126)) none) :: (SO.mk (some 128) (.faddr 55 (.tmp 8) 1) (some (127 ,false))) :: (SO.mk (some 129) (.load 9 (.tmp 128)) (some (127 ,false))) :: o10_43)
theorem v10_44:type_of% (@swl _ _ o10_44.eq_1):=@swl _ _ o10_44.eq_1
def c10_45:SC:=(.seq (.reg [SO.mk (some 4) (.move (.const (Value.bool false))) none]) (.keep [4] .ret))
theorem u10_45:type_of% (@swc _ _ c10_45.eq_1):=@swc _ _ c10_45.eq_1
def c10_46:SC:=(.cond (.tmp 149) c10_45 .skip)
theorem u10_46:type_of% (@swc _ _ c10_46.eq_1):=@swc _ _ c10_46.eq_1
def c10_47:SC:=(.cond (.tmp 154) .skip (.exit 6))
theorem u10_47:type_of% (@swc _ _ c10_47.eq_1):=@swc _ _ c10_47.eq_1
def o10_48:List SO:=((SO.mk (some 165) (.iaddr 53 (.tmp 163) (.tmp 164)) none) :: (SO.mk (some 166) (.load 57 (.tmp 165)) none) :: [])
theorem v10_48:type_of% (@swd _ _ o10_48.eq_1):=@swd _ _ o10_48.eq_1
def o10_49:List SO:=((SO.mk (some 161) (.load 57 (.tmp 160)) none) :: (SO.mk (some 162) (.faddr 55 (.tmp 9) 3) none) :: (SO.mk (some 163) (.load 53 (.tmp 162)) none) :: (SO.mk (some 164) (.move (.tmp 10)) none) :: o10_48)
theorem v10_49:type_of% (@swd _ _ o10_49.eq_1):=@swd _ _ o10_49.eq_1
def o10_50:List SO:=((SO.mk (some 157) (.faddr 55 (.tmp 8) 3) none) :: (SO.mk (some 158) (.load 53 (.tmp 157)) none) :: (SO.mk (some 159) (.move (.tmp 10)) none) :: (SO.mk (some 160) (.iaddr 53 (.tmp 158) (.tmp 159)) none) :: o10_49)
theorem v10_50:type_of% (@swd _ _ o10_50.eq_1):=@swd _ _ o10_50.eq_1
theorem m10_50 (B:Nat):mkNames B o10_50 = []:=(rfl)
def c10_51:SC:=(.seq (.reg [SO.mk (some 4) (.move (.const (Value.bool false))) none]) (.keep [4] .ret))
theorem u10_51:type_of% (@swc _ _ c10_51.eq_1):=@swc _ _ c10_51.eq_1
def c10_52:SC:=(.cond (.tmp 168) c10_51 .skip)
theorem u10_52:type_of% (@swc _ _ c10_52.eq_1):=@swc _ _ c10_52.eq_1
def c10_53:SC:=(.reg [SO.mk (some 155) (.move (.tmp 10)) none,SO.mk (some 156) (.bin .add 3 (.tmp 155) (.const (Value.int .i64 1))) none,SO.mk (some 10) (.move (.tmp 156)) none])
theorem u10_53:type_of% (@swc _ _ c10_53.eq_1):=@swc _ _ c10_53.eq_1
def c10_54:SC:=(.seq (.block 7 (.seq (.dreg false o10_50 [SO.mk (some 167) (.call 52 [(.tmp 161),(.tmp 166)]) none,SO.mk (some 168) (.un .not (.tmp 167)) none]) (.keep [168,10,9,8,7,2,3] c10_52))) (.keep [10,9,8,7,2,3] c10_53))
theorem u10_54:type_of% (@swc _ _ c10_54.eq_1):=@swc _ _ c10_54.eq_1
def c10_55:SC:=(.seq (.seq (.reg [SO.mk (some 150) (.move (.tmp 10)) none,SO.mk (some 151) (.faddr 55 (.tmp 8) 3) none,SO.mk (some 152) (.load 53 (.tmp 151)) none,SO.mk (some 153) (.len 53 (.tmp 152)) none,SO.mk (some 154) (.bin .lss 3 (.tmp 150) (.tmp 153)) none]) (.keep [154,8,9,10,7,2,3] c10_47)) (.keep [10,9,8,7,2,3] c10_54))
theorem u10_55:type_of% (@swc _ _ c10_55.eq_1):=@swc _ _ c10_55.eq_1
def c10_56:SC:=(.block 6 (.loop (.keep [8,9,10,7,2,3] c10_55)))
theorem u10_56:type_of% (@swc _ _ c10_56.eq_1):=@swc _ _ c10_56.eq_1
def c10_57:SC:=(.seq (.reg [SO.mk (some 10) (.move (.const (Value.int .i64 0))) none]) (.keep [8,9,10,7,2,3] c10_56))
theorem u10_57:type_of% (@swc _ _ c10_57.eq_1):=@swc _ _ c10_57.eq_1
def c10_58:SC:=(.seq (.seq (.reg ((SO.mk (some 122) (.faddr 55 (.tmp 8) 0) none) :: (SO.mk (some 123) (.load 3 (.tmp 122)) none) :: (SO.mk (some 124) (.faddr 55 (.tmp 9) 0) none) :: (SO.mk (some 125) (.load 3 (.tmp 124)) none) :: o10_44)) (.keep [149,8,9,7,2,3] c10_46)) (.keep [8,9,7,2,3] c10_57))
theorem u10_58:type_of% (@swc _ _ c10_58.eq_1):=@swc _ _ c10_58.eq_1
def c10_59:SC:=(.seq (.reg ((SO.mk (some 117) (.faddr 28 (.tmp 3) 4) none) :: (SO.mk (some 118) (.load 24 (.tmp 117)) none) :: (SO.mk (some 119) (.move (.tmp 7)) none) :: (SO.mk (some 120) (.iaddr 24 (.tmp 118) (.tmp 119)) none) :: o10_38)) (.keep [8,9,7,2,3] c10_58))
theorem u10_59:type_of% (@swc _ _ c10_59.eq_1):=@swc _ _ c10_59.eq_1
def c10_60:SC:=(.reg [SO.mk (some 110) (.move (.tmp 7)) none,SO.mk (some 111) (.bin .add 3 (.tmp 110) (.const (Value.int .i64 1))) none,SO.mk (some 7) (.move (.tmp 111)) none])
theorem u10_60:type_of% (@swc _ _ c10_60.eq_1):=@swc _ _ c10_60.eq_1
def c10_61:SC:=(.seq (.block 5 (.seq (.reg ((SO.mk (some 112) (.faddr 28 (.tmp 2) 4) none) :: (SO.mk (some 113) (.load 24 (.tmp 112)) none) :: (SO.mk (some 114) (.move (.tmp 7)) none) :: (SO.mk (some 115) (.iaddr 24 (.tmp 113) (.tmp 114)) none) :: o10_37)) (.keep [8,7,2,3] c10_59))) (.keep [7,2,3] c10_60))
theorem u10_61:type_of% (@swc _ _ c10_61.eq_1):=@swc _ _ c10_61.eq_1
def c10_62:SC:=(.seq (.seq (.reg [SO.mk (some 105) (.move (.tmp 7)) none,SO.mk (some 106) (.faddr 28 (.tmp 2) 4) none,SO.mk (some 107) (.load 24 (.tmp 106)) none,SO.mk (some 108) (.len 24 (.tmp 107)) none,SO.mk (some 109) (.bin .lss 3 (.tmp 105) (.tmp 108)) none]) (.keep [109,7,2,3] c10_36)) (.keep [7,2,3] c10_61))
theorem u10_62:type_of% (@swc _ _ c10_62.eq_1):=@swc _ _ c10_62.eq_1
def c10_63:SC:=(.block 4 (.loop (.keep [7,2,3] c10_62)))
theorem u10_63:type_of% (@swc _ _ c10_63.eq_1):=@swc _ _ c10_63.eq_1
def c10_64:SC:=(.cond (.tmp 173) .skip (.exit 8))
theorem u10_64:type_of% (@swc _ _ c10_64.eq_1):=@swc _ _ c10_64.eq_1
def o10_65:List SO:=((SO.mk (some 184) (.iaddr 25 (.tmp 182) (.tmp 183)) none) :: (SO.mk (some 185) (.load 60 (.tmp 184)) none) :: (SO.mk (some 186) (.bin .neq 60 (.tmp 180) (.tmp 185)) none) :: [])
theorem v10_65:type_of% (@swd _ _ o10_65.eq_1):=@swd _ _ o10_65.eq_1
def o10_66:List SO:=((SO.mk (some 180) (.load 60 (.tmp 179)) none) :: (SO.mk (some 181) (.faddr 28 (.tmp 3) 5) none) :: (SO.mk (some 182) (.load 25 (.tmp 181)) none) :: (SO.mk (some 183) (.move (.tmp 11)) none) :: o10_65)
theorem v10_66:type_of% (@swd _ _ o10_66.eq_1):=@swd _ _ o10_66.eq_1
def o10_67:List SO:=((SO.mk (some 176) (.faddr 28 (.tmp 2) 5) none) :: (SO.mk (some 177) (.load 25 (.tmp 176)) none) :: (SO.mk (some 178) (.move (.tmp 11)) none) :: (SO.mk (some 179) (.iaddr 25 (.tmp 177) (.tmp 178)) none) :: o10_66)
theorem v10_67:type_of% (@swd _ _ o10_67.eq_1):=@swd _ _ o10_67.eq_1
theorem m10_67 (B:Nat):mkNames B o10_67 = []:=(rfl)
def c10_68:SC:=(.seq (.reg [SO.mk (some 4) (.move (.const (Value.bool false))) none]) (.keep [4] .ret))
theorem u10_68:type_of% (@swc _ _ c10_68.eq_1):=@swc _ _ c10_68.eq_1
def c10_69:SC:=(.cond (.tmp 186) c10_68 .skip)
theorem u10_69:type_of% (@swc _ _ c10_69.eq_1):=@swc _ _ c10_69.eq_1
def c10_70:SC:=(.reg [SO.mk (some 174) (.move (.tmp 11)) none,SO.mk (some 175) (.bin .add 3 (.tmp 174) (.const (Value.int .i64 1))) none,SO.mk (some 11) (.move (.tmp 175)) none])
theorem u10_70:type_of% (@swc _ _ c10_70.eq_1):=@swc _ _ c10_70.eq_1
def c10_71:SC:=(.seq (.block 9 (.seq (.dreg false o10_67 []) (.keep [186,11,3,2] c10_69))) (.keep [11,3,2] c10_70))
theorem u10_71:type_of% (@swc _ _ c10_71.eq_1):=@swc _ _ c10_71.eq_1
def c10_72:SC:=(.seq (.seq (.reg [SO.mk (some 169) (.move (.tmp 11)) none,SO.mk (some 170) (.faddr 28 (.tmp 2) 5) none,SO.mk (some 171) (.load 25 (.tmp 170)) none,SO.mk (some 172) (.len 25 (.tmp 171)) none,SO.mk (some 173) (.bin .lss 3 (.tmp 169) (.tmp 172)) none]) (.keep [173,2,3,11] c10_64)) (.keep [11,3,2] c10_71))
theorem u10_72:type_of% (@swc _ _ c10_72.eq_1):=@swc _ _ c10_72.eq_1
def c10_73:SC:=(.block 8 (.loop (.keep [2,3,11] c10_72)))
theorem u10_73:type_of% (@swc _ _ c10_73.eq_1):=@swc _ _ c10_73.eq_1
def c10_74:SC:=(.seq (.reg [SO.mk (some 4) (.move (.const (Value.bool true))) none]) (.keep [4] .ret))
theorem u10_74:type_of% (@swc _ _ c10_74.eq_1):=@swc _ _ c10_74.eq_1
def c10_75:SC:=(.seq (.seq (.reg [SO.mk (some 11) (.move (.const (Value.int .i64 0))) none]) (.keep [2,3,11] c10_73)) (.keep [] c10_74))
theorem u10_75:type_of% (@swc _ _ c10_75.eq_1):=@swc _ _ c10_75.eq_1
def c10_76:SC:=(.seq (.seq (.reg [SO.mk (some 7) (.move (.const (Value.int .i64 0))) none]) (.keep [7,2,3] c10_63)) (.keep [2,3] c10_75))
theorem u10_76:type_of% (@swc _ _ c10_76.eq_1):=@swc _ _ c10_76.eq_1
def c10_77:SC:=(.seq (.seq (.reg [SO.mk (some 6) (.move (.const (Value.int .i64 0))) none]) (.keep [6,2,3] c10_35)) (.keep [2,3] c10_76))
theorem u10_77:type_of% (@swc _ _ c10_77.eq_1):=@swc _ _ c10_77.eq_1
def c10_78:SC:=(.seq (.seq (.reg [SO.mk (some 5) (.move (.const (Value.int .i64 0))) none]) (.keep [5,2,3] c10_25)) (.keep [2,3] c10_77))
theorem u10_78:type_of% (@swc _ _ c10_78.eq_1):=@swc _ _ c10_78.eq_1
def c10_79:SC:=(.seq (.seq (.reg ((SO.mk (some 12) (.faddr 28 (.tmp 2) 0) none) :: (SO.mk (some 13) (.load 3 (.tmp 12)) none) :: (SO.mk (some 14) (.faddr 28 (.tmp 3) 0) none) :: (SO.mk (some 15) (.load 3 (.tmp 14)) none) :: o10_13)) (.keep [67,2,3] c10_15)) (.keep [2,3] c10_78))
theorem u10_79:type_of% (@swc _ _ c10_79.eq_1):=@swc _ _ c10_79.eq_1
def c10:SC:=(.seq (.reg [SO.mk (some 2) (.box 28 (.tmp 0)) none,SO.mk (some 3) (.box 28 (.tmp 1)) none,SO.mk (some 4) (.move (.const (Value.bool false))) none]) (.keep [2,3] c10_79))
theorem c10_eq:annC Try.f10 = some c10:=by kernel_rfl
theorem r10:Try.f10.results.toList = [.tmp 4]:=by kernel_rfl
theorem e10:enters Try.prog 10 = true:=by kernel_rfl
end Go.Proofs.Ytijpmidnclbhpaa
namespace Go.Proofs.Ytijpmidnclbhpaa
open Go.RowKit
set_option maxHeartbeats 4000000
set_option maxRecDepth 20000
attribute [local irreducible] SW OSW SWL SWLn SWD SEcall SEcallv SDv SE SO1 SOg ACalls ACallv Wk EndV
set_option linter.unusedSimpArgs false
set_option linter.unusedVariables false
theorem st_sz {s:SttD} (h:s.av.sz):s.vers.length ≤ 2 ^ 47 ∧ s.ups.length ≤ 2 ^ 47 ∧ s.bkts.length ≤ 2 ^ 47 ∧ s.queue.length ≤ 2 ^ 47:=by
  simp only [SttD.av,SttD.cells,AV.sz] at h
  have h1:=h (.d (.ro (s.vers.map VerD.row))) (by simp)
  have h2:=h (.d (.ro (s.ups.map UpD.row))) (by simp)
  have h3:=h (.d (.ro (s.bkts.map BktD.row))) (by simp)
  have h4:=h (.d (.ro (s.queue.map AskD.row))) (by simp)
  exact ⟨by simpa using Sized.len h1,by simpa using Sized.len h2,by simpa using Sized.len h3,by simpa using Sized.len h4⟩
theorem feq_bkt (x:BktD):feq Try.prog 20 47 (x.row.map .d) (x.row.map .d) = some (True,true):=by
  have h:∃ q,feq Try.prog 20 47 (x.row.map .d) (x.row.map .d) = some (q,(x.name.toList == x.name.toList && (x.mode == x.mode && ((x.pre.toList == x.pre.toList && (x.frz == x.frz && (x.drop == x.drop && true))) && true)))) ∧ q:=by
    refine ⟨True ∧ (IntKind.i64 = IntKind.i64) ∧ (True ∧ IntKind.i64 = IntKind.i64 ∧ IntKind.i64 = IntKind.i64 ∧ True) ∧ True,?_,by simp⟩
    kernel_rfl
  obtain ⟨q,h1,h2⟩:=h
  rw [h1]
  have:q = True:=eq_true h2
  simp [this]
theorem feq_ask (x:AskD):feq Try.prog 20 60 (x.row.map .d) (x.row.map .d) = some (True,true):=by
  have h:∃ q,feq Try.prog 20 60 (x.row.map .d) (x.row.map .d) = some (q,(x.ver == x.ver && (x.days == x.days && (x.cls == x.cls && true)))) ∧ q:=by
    refine ⟨IntKind.i64 = IntKind.i64 ∧ IntKind.i64 = IntKind.i64 ∧ IntKind.i64 = IntKind.i64 ∧ True,?_,by simp⟩
    kernel_rfl
  obtain ⟨q,h1,h2⟩:=h
  rw [h1]
  have:q = True:=eq_true h2
  simp [this]
theorem sameInts_self (l:List Int):Pure Try.prog 50 [.d (ints l),.d (ints l)] (Bo true):=by
  refine pure_of follows Try.func50 c50_eq r50 (Nat.le_of_ble_eq_true rfl) fun B σ hcl hsz=>?_
  have hlen:l.length ≤ 2 ^ 47:=by simpa using (show Sized (ints l) from hsz (.d (ints l)) (by simp)).len
  clear hsz
  repeat' (first | (simp -implicitDefEqProofs only [*,Nat.reduceBEq,↓reduceIte,Nat.reduceEqDiff,Nat.reduceAdd,reduceCtorEq,AO.kill,AV.kill,Int.reduceLT,Int.reduceToNat,List.getElem?_nil,Nat.reduceMul,Nat.reducePow,Nat.reduceLeDiff,rowOf_mapD,rowOf_mapI,rowOf_mapA,List.getElem?_cons_zero,List.getElem?_cons_succ,take_map_len,take_map_app,List.getElem?_cons_zero,c50,r50,u50_1,u50_2,u50_3,v50_4,v50_5,v50_6,m50_6,u50_7,u50_8,u50_9,u50_10,u50_11,u50_12,u50_13,u50_14,u50_15,ty26,ty3,ints,int_,bne_self_eq_false,beq_self_eq_true,mvcgen_simp]) | (with_reducible refine And.intro ?_ ?_) | (refine loop_nat (l.length) (fun _=>True) (fun k=>[(0,.d (ints l)),(1,.d (ints l)),(5,I k)]) (fun k=>[]) ?_ (Wk.keep hcl ?_ ?_ ?_) fun k hk hF=>?_;rotate_left 1;(focus (simp [Fr.get,newF,Fr.map,AV.kill,AV.mapN,ints,int_,bne_self_eq_false,beq_self_eq_true]<;>fail));(focus (simp [sto,newL,Loc.kill,Loc.set,AO.kill,AV.kill,AV.mapN,ints,int_,bne_self_eq_false,beq_self_eq_true]<;>fail));(focus (simp [newL,Loc.kill,Loc.set,ints,int_,bne_self_eq_false,beq_self_eq_true]<;>fail));(try have hw:IntKind.i64.wrap ((k:Int) + 1) = (k:Int) + 1:=IntWalk.i64_in _ (by omega))) | (refine EndX.plain ?_) | (refine nil_split (fun hn=>?_) (fun hn=>?_)) | (refine gcall_no not_false ?_) | (refine gdcall_no not_false ?_) | (refine GuardS_of _ _ _ _ _ _ (fun hg=>?_) (fun hg=>?_)) | (refine GuardD_of _ _ _ _ (fun hg=>?_) (fun hg=>?_)) | (refine CondB_of _ _ _ _ _ _ _ ?_ (fun hg=>?_) (fun hg=>?_)))
  all_goals (try (first | ((first | unfold noN | unfold Fr.below | unfold Loc.below);simp [Fr.allN,AV.allN,AV.allNL,AO.allN];done) | rfl | trivial | assumption | (intro row hrow;simp only [List.mem_map] at hrow;obtain ⟨x,_,rfl⟩:=hrow;rfl) | (refine Wk.keep hcl ?_ ?_ ?_;(focus (simp [Fr.get,ints,int_,bne_self_eq_false,beq_self_eq_true]<;>fail));(focus (simp [sto,ints,int_,bne_self_eq_false,beq_self_eq_true]<;>fail));(focus (simp<;>fail))) | (simp [allP,opd,Fr.get,Fr.below,Fr.allN,AV.allN,AV.allNL,Loc.below,AO.allN,noN,killO,killT,killD,mkNames,AO.kill,AV.kill,AV.mapN,AV.mapNL];done) | (with_reducible exact ltD (by assumption)) | omega | (simp only [decide_eq_true_eq,decide_eq_false_iff_not] at *;omega)))
theorem sameVer_self (x:VerD):Pure Try.prog 51 [.agg (x.row.map .d),.agg (x.row.map .d)] (Bo true):=by
  refine pure_of follows Try.func51 c51_eq r51 (Nat.le_of_ble_eq_true rfl) fun B σ hcl hsz=>?_
  clear hsz
  repeat' (first | (simp -implicitDefEqProofs only [*,Nat.reduceBEq,↓reduceIte,Nat.reduceEqDiff,Nat.reduceAdd,reduceCtorEq,AO.kill,AV.kill,Int.reduceLT,Int.reduceToNat,List.getElem?_nil,Nat.reduceMul,Nat.reducePow,Nat.reduceLeDiff,rowOf_mapD,rowOf_mapI,rowOf_mapA,List.getElem?_cons_zero,List.getElem?_cons_succ,take_map_len,take_map_app,List.getElem?_cons_zero,c51,r51,v51_1,v51_2,v51_3,v51_4,v51_5,v51_6,v51_7,v51_8,v51_9,v51_10,v51_11,v51_12,v51_13,v51_14,v51_15,v51_16,v51_17,v51_18,v51_19,v51_20,u51_21,ty51,ty3,ty9,ty4,ty26,VerD.row,ints,bne_self_eq_false,beq_self_eq_true,mvcgen_simp]) | (with_reducible refine And.intro ?_ ?_) | (refine call_ro e50 ( sameInts_self x.secs) rfl ?_ ?_ ?_ ?_) | (refine gcall_ro e50 ( sameInts_self x.secs) rfl ?_ ?_ ?_ ?_) | (refine dcall_ro e50 ( sameInts_self x.secs) rfl ?_ ?_ ?_ ?_) | (refine gdcall_ro rfl e50 ( sameInts_self x.secs) rfl ?_ ?_ ?_ ?_) | (refine EndX.plain ?_) | (refine nil_split (fun hn=>?_) (fun hn=>?_)) | (refine gcall_no not_false ?_) | (refine gdcall_no not_false ?_) | (refine GuardS_of _ _ _ _ _ _ (fun hg=>?_) (fun hg=>?_)) | (refine GuardD_of _ _ _ _ (fun hg=>?_) (fun hg=>?_)) | (refine CondB_of _ _ _ _ _ _ _ ?_ (fun hg=>?_) (fun hg=>?_)))
  all_goals (try (first | ((first | unfold noN | unfold Fr.below | unfold Loc.below);simp [Fr.allN,AV.allN,AV.allNL,AO.allN];done) | rfl | trivial | assumption | (intro row hrow;simp only [List.mem_map] at hrow;obtain ⟨x,_,rfl⟩:=hrow;rfl) | (refine Wk.keep hcl ?_ ?_ ?_;(focus (simp [Fr.get,VerD.row,ints,bne_self_eq_false,beq_self_eq_true]<;>fail));(focus (simp [sto,VerD.row,ints,bne_self_eq_false,beq_self_eq_true]<;>fail));(focus (simp<;>fail))) | (simp [allP,opd,Fr.get,Fr.below,Fr.allN,AV.allN,AV.allNL,Loc.below,AO.allN,noN,killO,killT,killD,mkNames,AO.kill,AV.kill,AV.mapN,AV.mapNL];done) | (with_reducible exact ltD (by assumption)) | omega | (simp only [decide_eq_true_eq,decide_eq_false_iff_not] at *;omega)))
theorem samePart_self (x:PartD):Pure Try.prog 52 [.agg (x.row.map .d),.agg (x.row.map .d)] (Bo true):=by
  refine pure_of follows Try.func52 c52_eq r52 (Nat.le_of_ble_eq_true rfl) fun B σ hcl hsz=>?_
  clear hsz
  repeat' (first | (simp -implicitDefEqProofs only [*,Nat.reduceBEq,↓reduceIte,Nat.reduceEqDiff,Nat.reduceAdd,reduceCtorEq,AO.kill,AV.kill,Int.reduceLT,Int.reduceToNat,List.getElem?_nil,Nat.reduceMul,Nat.reducePow,Nat.reduceLeDiff,rowOf_mapD,rowOf_mapI,rowOf_mapA,List.getElem?_cons_zero,List.getElem?_cons_succ,take_map_len,take_map_app,List.getElem?_cons_zero,c52,r52,v52_1,v52_2,v52_3,v52_4,u52_5,ty57,ty3,ty26,PartD.row,ints,bne_self_eq_false,beq_self_eq_true,mvcgen_simp]) | (with_reducible refine And.intro ?_ ?_) | (refine call_ro e50 ( sameInts_self x.secs) rfl ?_ ?_ ?_ ?_) | (refine gcall_ro e50 ( sameInts_self x.secs) rfl ?_ ?_ ?_ ?_) | (refine dcall_ro e50 ( sameInts_self x.secs) rfl ?_ ?_ ?_ ?_) | (refine gdcall_ro rfl e50 ( sameInts_self x.secs) rfl ?_ ?_ ?_ ?_) | (refine EndX.plain ?_) | (refine nil_split (fun hn=>?_) (fun hn=>?_)) | (refine gcall_no not_false ?_) | (refine gdcall_no not_false ?_) | (refine GuardS_of _ _ _ _ _ _ (fun hg=>?_) (fun hg=>?_)) | (refine GuardD_of _ _ _ _ (fun hg=>?_) (fun hg=>?_)) | (refine CondB_of _ _ _ _ _ _ _ ?_ (fun hg=>?_) (fun hg=>?_)))
  all_goals (try (first | ((first | unfold noN | unfold Fr.below | unfold Loc.below);simp [Fr.allN,AV.allN,AV.allNL,AO.allN];done) | rfl | trivial | assumption | (intro row hrow;simp only [List.mem_map] at hrow;obtain ⟨x,_,rfl⟩:=hrow;rfl) | (refine Wk.keep hcl ?_ ?_ ?_;(focus (simp [Fr.get,PartD.row,ints,bne_self_eq_false,beq_self_eq_true]<;>fail));(focus (simp [sto,PartD.row,ints,bne_self_eq_false,beq_self_eq_true]<;>fail));(focus (simp<;>fail))) | (simp [allP,opd,Fr.get,Fr.below,Fr.allN,AV.allN,AV.allNL,Loc.below,AO.allN,noN,killO,killT,killD,mkNames,AO.kill,AV.kill,AV.mapN,AV.mapNL];done) | (with_reducible exact ltD (by assumption)) | omega | (simp only [decide_eq_true_eq,decide_eq_false_iff_not] at *;omega)))
theorem feqB (a:ByteArray) (b:Int) (c:ByteArray) (d e:Int):feq Try.prog 20 47 [.d (.v (.string a)),.d (.v (.int .i64 b)),.d (.v (.string c)),.d (.v (.int .i64 d)),.d (.v (.int .i64 e))] [.d (.v (.string a)),.d (.v (.int .i64 b)),.d (.v (.string c)),.d (.v (.int .i64 d)),.d (.v (.int .i64 e))] = some (True,true):=feq_bkt ⟨a,b,c,d,e⟩
theorem feqA (a b c:Int):feq Try.prog 20 60 [.d (.v (.int .i64 a)),.d (.v (.int .i64 b)),.d (.v (.int .i64 c))] [.d (.v (.int .i64 a)),.d (.v (.int .i64 b)),.d (.v (.int .i64 c))] = some (True,true):=feq_ask ⟨a,b,c⟩
theorem sameState_self (s:SttD) (hw:s.fit):Pure Try.prog 10 [s.av,s.av] (Bo true):=by
  refine pure_of follows Try.func10 c10_eq r10 (Nat.le_of_ble_eq_true rfl) fun B σ hcl hsz=>?_
  obtain ⟨z1,z2,z3,z4⟩:=st_sz (hsz s.av (by simp))
  clear hsz
  have f7:=hw.us
  clear hw
  repeat' (first | (simp -implicitDefEqProofs only [*,Nat.reduceBEq,↓reduceIte,Nat.reduceEqDiff,Nat.reduceAdd,reduceCtorEq,AO.kill,AV.kill,Int.reduceLT,Int.reduceToNat,List.getElem?_nil,Nat.reduceMul,Nat.reducePow,Nat.reduceLeDiff,rowOf_mapD,rowOf_mapI,rowOf_mapA,List.getElem?_cons_zero,List.getElem?_cons_succ,take_map_len,take_map_app,List.getElem?_cons_zero,c10,r10,v10_1,v10_2,v10_3,v10_4,v10_5,v10_6,v10_7,v10_8,v10_9,v10_10,v10_11,v10_12,v10_13,u10_14,u10_15,u10_16,v10_17,v10_18,v10_19,m10_19,u10_20,u10_21,u10_22,u10_23,u10_24,u10_25,u10_26,v10_27,v10_28,v10_29,m10_29,u10_30,u10_31,u10_32,u10_33,u10_34,u10_35,u10_36,v10_37,v10_38,v10_39,v10_40,v10_41,v10_42,v10_43,v10_44,u10_45,u10_46,u10_47,v10_48,v10_49,v10_50,m10_50,u10_51,u10_52,u10_53,u10_54,u10_55,u10_56,u10_57,u10_58,u10_59,u10_60,u10_61,u10_62,u10_63,u10_64,v10_65,v10_66,v10_67,m10_67,u10_68,u10_69,u10_70,u10_71,u10_72,u10_73,u10_74,u10_75,u10_76,u10_77,u10_78,u10_79,ty28,ty3,ty22,ty23,ty24,ty25,ty26,ty47,ty51,ty55,ty9,ty53,ty57,ty60,SttD.av,SttD.cells,ints,BktD.row,AskD.row,VerD.row,UpD.row,PartD.row,feqA,feqB,bne_self_eq_false,beq_self_eq_true,mvcgen_simp]) | (with_reducible refine And.intro ?_ ?_) | (refine call_ro e50 ( sameInts_self s.gone) rfl ?_ ?_ ?_ ?_) | (refine gcall_ro e50 ( sameInts_self s.gone) rfl ?_ ?_ ?_ ?_) | (refine dcall_ro e50 ( sameInts_self s.gone) rfl ?_ ?_ ?_ ?_) | (refine gdcall_ro rfl e50 ( sameInts_self s.gone) rfl ?_ ?_ ?_ ?_) | (refine call_ro e51 ( sameVer_self s.vers[k]!) rfl ?_ ?_ ?_ ?_) | (refine gcall_ro e51 ( sameVer_self s.vers[k]!) rfl ?_ ?_ ?_ ?_) | (refine dcall_ro e51 ( sameVer_self s.vers[k]!) rfl ?_ ?_ ?_ ?_) | (refine gdcall_ro rfl e51 ( sameVer_self s.vers[k]!) rfl ?_ ?_ ?_ ?_) | (refine call_ro e52 ( samePart_self (s.ups[k]!).parts[j]!) rfl ?_ ?_ ?_ ?_) | (refine gcall_ro e52 ( samePart_self (s.ups[k]!).parts[j]!) rfl ?_ ?_ ?_ ?_) | (refine dcall_ro e52 ( samePart_self (s.ups[k]!).parts[j]!) rfl ?_ ?_ ?_ ?_) | (refine gdcall_ro rfl e52 ( samePart_self (s.ups[k]!).parts[j]!) rfl ?_ ?_ ?_ ?_) | (refine loop_nat (s.bkts.length) (fun _=>True) (fun k=>[(5,I k),(2,.lp (B + 2) 0),(3,.lp (B + 3) 0)]) (fun k=>[(B + 2,.box s.cells),(B + 3,.box s.cells)]) ?_ (Wk.keep hcl ?_ ?_ ?_) fun k hk hF=>?_;rotate_left 1;(focus (simp [Fr.get,newF,Fr.map,AV.kill,AV.mapN,SttD.av,SttD.cells,ints,BktD.row,AskD.row,VerD.row,UpD.row,PartD.row,feqA,feqB,bne_self_eq_false,beq_self_eq_true]<;>fail));(focus (simp [sto,newL,Loc.kill,Loc.set,AO.kill,AV.kill,AV.mapN,SttD.av,SttD.cells,ints,BktD.row,AskD.row,VerD.row,UpD.row,PartD.row,feqA,feqB,bne_self_eq_false,beq_self_eq_true]<;>fail));(focus (simp [newL,Loc.kill,Loc.set,SttD.av,SttD.cells,ints,BktD.row,AskD.row,VerD.row,UpD.row,PartD.row,feqA,feqB,bne_self_eq_false,beq_self_eq_true]<;>fail));(try have hw:IntKind.i64.wrap ((k:Int) + 1) = (k:Int) + 1:=IntWalk.i64_in _ (by omega))) | (refine loop_nat (s.vers.length) (fun _=>True) (fun k=>[(6,I k),(2,.lp (B + 2) 0),(3,.lp (B + 3) 0)]) (fun k=>[(B + 2,.box s.cells),(B + 3,.box s.cells)]) ?_ (Wk.keep hcl ?_ ?_ ?_) fun k hk hF=>?_;rotate_left 1;(focus (simp [Fr.get,newF,Fr.map,AV.kill,AV.mapN,SttD.av,SttD.cells,ints,BktD.row,AskD.row,VerD.row,UpD.row,PartD.row,feqA,feqB,bne_self_eq_false,beq_self_eq_true]<;>fail));(focus (simp [sto,newL,Loc.kill,Loc.set,AO.kill,AV.kill,AV.mapN,SttD.av,SttD.cells,ints,BktD.row,AskD.row,VerD.row,UpD.row,PartD.row,feqA,feqB,bne_self_eq_false,beq_self_eq_true]<;>fail));(focus (simp [newL,Loc.kill,Loc.set,SttD.av,SttD.cells,ints,BktD.row,AskD.row,VerD.row,UpD.row,PartD.row,feqA,feqB,bne_self_eq_false,beq_self_eq_true]<;>fail));(try have hw:IntKind.i64.wrap ((k:Int) + 1) = (k:Int) + 1:=IntWalk.i64_in _ (by omega))) | (refine loop_nat (s.ups.length) (fun _=>True) (fun k=>[(7,I k),(2,.lp (B + 2) 0),(3,.lp (B + 3) 0)]) (fun k=>[(B + 2,.box s.cells),(B + 3,.box s.cells)]) ?_ (Wk.keep hcl ?_ ?_ ?_) fun k hk hF=>?_;rotate_left 1;(focus (simp [Fr.get,newF,Fr.map,AV.kill,AV.mapN,SttD.av,SttD.cells,ints,BktD.row,AskD.row,VerD.row,UpD.row,PartD.row,feqA,feqB,bne_self_eq_false,beq_self_eq_true]<;>fail));(focus (simp [sto,newL,Loc.kill,Loc.set,AO.kill,AV.kill,AV.mapN,SttD.av,SttD.cells,ints,BktD.row,AskD.row,VerD.row,UpD.row,PartD.row,feqA,feqB,bne_self_eq_false,beq_self_eq_true]<;>fail));(focus (simp [newL,Loc.kill,Loc.set,SttD.av,SttD.cells,ints,BktD.row,AskD.row,VerD.row,UpD.row,PartD.row,feqA,feqB,bne_self_eq_false,beq_self_eq_true]<;>fail));(try have hw:IntKind.i64.wrap ((k:Int) + 1) = (k:Int) + 1:=IntWalk.i64_in _ (by omega))) | (refine loop_nat ((s.ups[k]!).parts.length) (fun _=>True) (fun j=>[(8,.lp (B + 8) 0),(9,.lp (B + 9) 0),(10,I j),(7,I k),(2,.lp (B + 2) 0),(3,.lp (B + 3) 0)]) (fun j=>[(B + 8,.box [I (s.ups[k]!).id,.d (.v (.string (s.ups[k]!).bkt)),.d (.v (.string (s.ups[k]!).key)),.d (.ro ((s.ups[k]!).parts.map PartD.row))]),(B + 9,.box [I (s.ups[k]!).id,.d (.v (.string (s.ups[k]!).bkt)),.d (.v (.string (s.ups[k]!).key)),.d (.ro ((s.ups[k]!).parts.map PartD.row))]),(B + 2,.box s.cells),(B + 3,.box s.cells)]) ?_ (Wk.keep hcl ?_ ?_ ?_) fun j hj hFj=>?_;rotate_left 1;(focus (simp [Fr.get,newF,Fr.map,AV.kill,AV.mapN,SttD.av,SttD.cells,ints,BktD.row,AskD.row,VerD.row,UpD.row,PartD.row,feqA,feqB,bne_self_eq_false,beq_self_eq_true]<;>fail));(focus (simp [sto,newL,Loc.kill,Loc.set,AO.kill,AV.kill,AV.mapN,SttD.av,SttD.cells,ints,BktD.row,AskD.row,VerD.row,UpD.row,PartD.row,feqA,feqB,bne_self_eq_false,beq_self_eq_true]<;>fail));(focus (simp [newL,Loc.kill,Loc.set,SttD.av,SttD.cells,ints,BktD.row,AskD.row,VerD.row,UpD.row,PartD.row,feqA,feqB,bne_self_eq_false,beq_self_eq_true]<;>fail));(try have hwj:IntKind.i64.wrap ((j:Int) + 1) = (j:Int) + 1:=IntWalk.i64_in _ (by omega))) | (refine loop_nat (s.queue.length) (fun _=>True) (fun k=>[(2,.lp (B + 2) 0),(3,.lp (B + 3) 0),(11,I k)]) (fun k=>[(B + 2,.box s.cells),(B + 3,.box s.cells)]) ?_ (Wk.keep hcl ?_ ?_ ?_) fun k hk hF=>?_;rotate_left 1;(focus (simp [Fr.get,newF,Fr.map,AV.kill,AV.mapN,SttD.av,SttD.cells,ints,BktD.row,AskD.row,VerD.row,UpD.row,PartD.row,feqA,feqB,bne_self_eq_false,beq_self_eq_true]<;>fail));(focus (simp [sto,newL,Loc.kill,Loc.set,AO.kill,AV.kill,AV.mapN,SttD.av,SttD.cells,ints,BktD.row,AskD.row,VerD.row,UpD.row,PartD.row,feqA,feqB,bne_self_eq_false,beq_self_eq_true]<;>fail));(focus (simp [newL,Loc.kill,Loc.set,SttD.av,SttD.cells,ints,BktD.row,AskD.row,VerD.row,UpD.row,PartD.row,feqA,feqB,bne_self_eq_false,beq_self_eq_true]<;>fail));(try have hw:IntKind.i64.wrap ((k:Int) + 1) = (k:Int) + 1:=IntWalk.i64_in _ (by omega))) | (refine EndX.plain ?_) | (refine nil_split (fun hn=>?_) (fun hn=>?_)) | (refine gcall_no not_false ?_) | (refine gdcall_no not_false ?_) | (refine GuardS_of _ _ _ _ _ _ (fun hg=>?_) (fun hg=>?_)) | (refine GuardD_of _ _ _ _ (fun hg=>?_) (fun hg=>?_)) | (refine CondB_of _ _ _ _ _ _ _ ?_ (fun hg=>?_) (fun hg=>?_)))
  all_goals (try (first | ((first | unfold noN | unfold Fr.below | unfold Loc.below);simp [Fr.allN,AV.allN,AV.allNL,AO.allN];done) | rfl | trivial | assumption | (intro row hrow;simp only [List.mem_map] at hrow;obtain ⟨x,_,rfl⟩:=hrow;rfl) | (refine Wk.keep hcl ?_ ?_ ?_;(focus (simp [Fr.get,SttD.av,SttD.cells,ints,BktD.row,AskD.row,VerD.row,UpD.row,PartD.row,feqA,feqB,bne_self_eq_false,beq_self_eq_true]<;>fail));(focus (simp [sto,SttD.av,SttD.cells,ints,BktD.row,AskD.row,VerD.row,UpD.row,PartD.row,feqA,feqB,bne_self_eq_false,beq_self_eq_true]<;>fail));(focus (simp<;>fail))) | (simp [allP,opd,Fr.get,Fr.below,Fr.allN,AV.allN,AV.allNL,Loc.below,AO.allN,noN,killO,killT,killD,mkNames,AO.kill,AV.kill,AV.mapN,AV.mapNL];done) | (with_reducible exact ltD (by assumption)) | omega | (simp only [decide_eq_true_eq,decide_eq_false_iff_not] at *;omega)))
  all_goals first
    | (have hk2:k < s.ups.length:=dltL (by assumption)
       have h7:=f7 k hk2
       have hj2:j < (s.ups[k]!).parts.length:=dltL (by assumption)
       have hwj:IntKind.i64.wrap ((j:Int) + 1) = (j:Int) + 1:=IntWalk.i64_in _ (by omega)
       rw [hwj]
       refine Wk.keep hcl (by simp [Fr.get]) (by simp [sto,ints,SttD.cells,VerD.row,UpD.row,PartD.row]) (by simp))
end Go.Proofs.Ytijpmidnclbhpaa
