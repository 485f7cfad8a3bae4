/- Searches in sorted lists. -/
import Derived.Test.YtijpmidnclbhpaaStD
import Derived.Test.YtijpmidnclbhpaaCmp
import Derived.Test.YtijpmidnclbhpaaTypes
namespace Go.Proofs.Ytijpmidnclbhpaa
open Go.RowKit
set_option maxRecDepth 100000
def c86_1:SC:=(.seq (.reg [SO.mk (some 5) (.faddr 47 (.tmp 2) 0) none,SO.mk (some 6) (.load 9 (.tmp 5)) none,SO.mk (some 7) (.move (.tmp 1)) none,SO.mk (some 8) (.call 87 [(.tmp 6),(.tmp 7)]) none,SO.mk (some 4) (.move (.tmp 8)) none]) (.keep [4] .ret))
theorem u86_1:type_of% (@swc _ _ c86_1.eq_1):=@swc _ _ c86_1.eq_1
def c86:SC:=(.seq (.reg [SO.mk (some 2) (.box 47 (.tmp 0)) none,SO.mk (some 4) (.move (.const (Value.int .i64 0))) none]) (.keep [2,1] c86_1))
theorem c86_eq:annC Try.f86 = some c86:=by kernel_rfl
theorem r86:Try.f86.results.toList = [.tmp 4]:=by kernel_rfl
theorem e86:enters Try.prog 86 = true:=by kernel_rfl
def c85_1:SC:=(.cond (.tmp 17) .skip (.exit 0))
theorem u85_1:type_of% (@swc _ _ c85_1.eq_1):=@swc _ _ c85_1.eq_1
def o85_2:List SO:=((SO.mk (some 22) (.bin .shr 104 (.tmp 21) (.const (Value.int .u64 1))) none) :: (SO.mk (some 23) (.conv 104 3 (.tmp 22)) none) :: (SO.mk (some 11) (.move (.tmp 23)) none) :: [])
theorem v85_2:type_of% (@swl _ _ o85_2.eq_1):=@swl _ _ o85_2.eq_1
def o85_3:List SO:=((SO.mk (some 28) (.load 47 (.tmp 27)) none) :: (SO.mk (some 29) (.move (.tmp 1)) none) :: (SO.mk (some 30) (.callv (.tmp 24) [(.tmp 28),(.tmp 29)]) none) :: (SO.mk (some 31) (.bin .lss 3 (.tmp 30) (.const (Value.int .i64 0))) none) :: [])
theorem v85_3:type_of% (@swl _ _ o85_3.eq_1):=@swl _ _ o85_3.eq_1
def c85_4:SC:=(.reg [SO.mk (some 32) (.move (.tmp 11)) none,SO.mk (some 33) (.bin .add 3 (.tmp 32) (.const (Value.int .i64 1))) none,SO.mk (some 9) (.move (.tmp 33)) none])
theorem u85_4:type_of% (@swc _ _ c85_4.eq_1):=@swc _ _ c85_4.eq_1
def c85_5:SC:=(.reg [SO.mk (some 34) (.move (.tmp 11)) none,SO.mk (some 10) (.move (.tmp 34)) none])
theorem u85_5:type_of% (@swc _ _ c85_5.eq_1):=@swc _ _ c85_5.eq_1
def c85_6:SC:=(.cond (.tmp 31) c85_4 c85_5)
theorem u85_6:type_of% (@swc _ _ c85_6.eq_1):=@swc _ _ c85_6.eq_1
def c85_7:SC:=(.seq (.reg ((SO.mk (some 24) (.move (.tmp 2)) none) :: (SO.mk (some 25) (.move (.tmp 0)) none) :: (SO.mk (some 26) (.move (.tmp 11)) none) :: (SO.mk (some 27) (.iaddr 22 (.tmp 25) (.tmp 26)) none) :: o85_3)) (.keep [31,10,11,8,2,0,9,1] c85_6))
theorem u85_7:type_of% (@swc _ _ c85_7.eq_1):=@swc _ _ c85_7.eq_1
def c85_8:SC:=(.block 1 (.seq (.reg ((SO.mk (some 18) (.move (.tmp 9)) none) :: (SO.mk (some 19) (.move (.tmp 10)) none) :: (SO.mk (some 20) (.bin .add 3 (.tmp 18) (.tmp 19)) none) :: (SO.mk (some 21) (.conv 3 104 (.tmp 20)) none) :: o85_2)) (.keep [10,11,8,2,0,9,1] c85_7)))
theorem u85_8:type_of% (@swc _ _ c85_8.eq_1):=@swc _ _ c85_8.eq_1
def c85_9:SC:=(.seq (.seq (.reg [SO.mk (some 15) (.move (.tmp 9)) none,SO.mk (some 16) (.move (.tmp 10)) none,SO.mk (some 17) (.bin .lss 3 (.tmp 15) (.tmp 16)) none]) (.keep [17,10,8,2,0,9,1] c85_1)) (.keep [10,8,2,0,9,1] c85_8))
theorem u85_9:type_of% (@swc _ _ c85_9.eq_1):=@swc _ _ c85_9.eq_1
def o85_10:List SO:=((SO.mk (some 47) (.bin .eql 3 (.tmp 46) (.const (Value.int .i64 0))) (some (39 ,true))) :: (SO.mk (some 48) (.pick (.tmp 39) (.tmp 47) (.const (Value.bool false))) none) :: (SO.mk (some 6) (.move (.tmp 35)) none) :: (SO.mk (some 7) (.move (.tmp 48)) none) :: [])
theorem v85_10:type_of% (@swl _ _ o85_10.eq_1):=@swl _ _ o85_10.eq_1
def o85_11:List SO:=((SO.mk (some 43) (.iaddr 22 (.tmp 41) (.tmp 42)) (some (39 ,true))) :: (SO.mk (some 44) (.load 47 (.tmp 43)) (some (39 ,true))) :: (SO.mk (some 45) (.move (.tmp 1)) (some (39 ,true))) :: (SO.mk (some 46) (.callv (.tmp 40) [(.tmp 44),(.tmp 45)]) (some (39 ,true))) :: o85_10)
theorem v85_11:type_of% (@swl _ _ o85_11.eq_1):=@swl _ _ o85_11.eq_1
def o85_12:List SO:=((SO.mk (some 39) (.move (.tmp 38)) none) :: (SO.mk (some 40) (.move (.tmp 2)) (some (39 ,true))) :: (SO.mk (some 41) (.move (.tmp 0)) (some (39 ,true))) :: (SO.mk (some 42) (.move (.tmp 9)) (some (39 ,true))) :: o85_11)
theorem v85_12:type_of% (@swl _ _ o85_12.eq_1):=@swl _ _ o85_12.eq_1
def c85_13:SC:=(.seq (.reg ((SO.mk (some 35) (.move (.tmp 9)) none) :: (SO.mk (some 36) (.move (.tmp 9)) none) :: (SO.mk (some 37) (.move (.tmp 8)) none) :: (SO.mk (some 38) (.bin .lss 3 (.tmp 36) (.tmp 37)) none) :: o85_12)) (.keep [6,7] .ret))
theorem u85_13:type_of% (@swc _ _ c85_13.eq_1):=@swc _ _ c85_13.eq_1
def c85_14:SC:=(.seq (.block 0 (.loop (.keep [10,8,2,0,9,1] c85_9))) (.keep [8,2,0,9,1] c85_13))
theorem u85_14:type_of% (@swc _ _ c85_14.eq_1):=@swc _ _ c85_14.eq_1
def c85_15:SC:=(.seq (.reg [SO.mk (some 14) (.move (.tmp 8)) none,SO.mk (some 9) (.move (.const (Value.int .i64 0))) none,SO.mk (some 10) (.move (.tmp 14)) none]) (.keep [10,8,2,0,9,1] c85_14))
theorem u85_15:type_of% (@swc _ _ c85_15.eq_1):=@swc _ _ c85_15.eq_1
def c85_16:SC:=(.seq (.reg [SO.mk (some 12) (.move (.tmp 0)) none,SO.mk (some 13) (.len 22 (.tmp 12)) none,SO.mk (some 8) (.move (.tmp 13)) none]) (.keep [8,2,0,1] c85_15))
theorem u85_16:type_of% (@swc _ _ c85_16.eq_1):=@swc _ _ c85_16.eq_1
def c85:SC:=(.seq (.reg [SO.mk (some 6) (.move (.const (Value.int .i64 0))) none,SO.mk (some 7) (.move (.const (Value.bool false))) none]) (.keep [2,0,1] c85_16))
theorem c85_eq:annC Try.f85 = some c85:=by kernel_rfl
theorem r85:Try.f85.results.toList = [.tmp 6,.tmp 7]:=by kernel_rfl
theorem e85:enters Try.prog 85 = true:=by kernel_rfl
def c95_1:SC:=(.seq (.reg [SO.mk (some 3) (.move (.tmp 0)) none,SO.mk (some 4) (.move (.tmp 0)) none,SO.mk (some 5) (.bin .neq 3 (.tmp 3) (.tmp 4)) none,SO.mk (some 2) (.move (.tmp 5)) none]) (.keep [2] .ret))
theorem u95_1:type_of% (@swc _ _ c95_1.eq_1):=@swc _ _ c95_1.eq_1
def c95:SC:=(.seq (.reg [SO.mk (some 2) (.move (.const (Value.bool false))) none]) (.keep [0] c95_1))
theorem c95_eq:annC Try.f95 = some c95:=by kernel_rfl
theorem r95:Try.f95.results.toList = [.tmp 2]:=by kernel_rfl
theorem e95:enters Try.prog 95 = true:=by kernel_rfl
def c91_1:SC:=(.seq (.reg [SO.mk (some 4) (.move (.const (Value.int .i64 0))) none]) (.keep [4] .ret))
theorem u91_1:type_of% (@swc _ _ c91_1.eq_1):=@swc _ _ c91_1.eq_1
def c91_2:SC:=(.cond (.tmp 12) c91_1 .skip)
theorem u91_2:type_of% (@swc _ _ c91_2.eq_1):=@swc _ _ c91_2.eq_1
def c91_3:SC:=(.seq (.reg [SO.mk (some 4) (.move (.const (Value.int .i64 (-1)))) none]) (.keep [4] .ret))
theorem u91_3:type_of% (@swc _ _ c91_3.eq_1):=@swc _ _ c91_3.eq_1
def c91_4:SC:=(.seq (.seq (.reg [SO.mk (some 12) (.move (.tmp 6)) none]) (.keep [12] c91_2)) (.keep [] c91_3))
theorem u91_4:type_of% (@swc _ _ c91_4.eq_1):=@swc _ _ c91_4.eq_1
def c91_5:SC:=(.cond (.tmp 11) c91_4 .skip)
theorem u91_5:type_of% (@swc _ _ c91_5.eq_1):=@swc _ _ c91_5.eq_1
def c91_6:SC:=(.seq (.reg [SO.mk (some 4) (.move (.const (Value.int .i64 1))) none]) (.keep [4] .ret))
theorem u91_6:type_of% (@swc _ _ c91_6.eq_1):=@swc _ _ c91_6.eq_1
def c91_7:SC:=(.cond (.tmp 13) c91_6 .skip)
theorem u91_7:type_of% (@swc _ _ c91_7.eq_1):=@swc _ _ c91_7.eq_1
def c91_8:SC:=(.seq (.reg [SO.mk (some 4) (.move (.const (Value.int .i64 (-1)))) none]) (.keep [4] .ret))
theorem u91_8:type_of% (@swc _ _ c91_8.eq_1):=@swc _ _ c91_8.eq_1
def c91_9:SC:=(.cond (.tmp 16) c91_8 .skip)
theorem u91_9:type_of% (@swc _ _ c91_9.eq_1):=@swc _ _ c91_9.eq_1
def c91_10:SC:=(.seq (.reg [SO.mk (some 4) (.move (.const (Value.int .i64 1))) none]) (.keep [4] .ret))
theorem u91_10:type_of% (@swc _ _ c91_10.eq_1):=@swc _ _ c91_10.eq_1
def c91_11:SC:=(.cond (.tmp 19) c91_10 .skip)
theorem u91_11:type_of% (@swc _ _ c91_11.eq_1):=@swc _ _ c91_11.eq_1
def c91_12:SC:=(.seq (.reg [SO.mk (some 4) (.move (.const (Value.int .i64 0))) none]) (.keep [4] .ret))
theorem u91_12:type_of% (@swc _ _ c91_12.eq_1):=@swc _ _ c91_12.eq_1
def c91_13:SC:=(.seq (.seq (.reg [SO.mk (some 17) (.move (.tmp 0)) none,SO.mk (some 18) (.move (.tmp 1)) none,SO.mk (some 19) (.bin .gtr 3 (.tmp 17) (.tmp 18)) none]) (.keep [19] c91_11)) (.keep [] c91_12))
theorem u91_13:type_of% (@swc _ _ c91_13.eq_1):=@swc _ _ c91_13.eq_1
def c91_14:SC:=(.seq (.seq (.reg [SO.mk (some 14) (.move (.tmp 0)) none,SO.mk (some 15) (.move (.tmp 1)) none,SO.mk (some 16) (.bin .lss 3 (.tmp 14) (.tmp 15)) none]) (.keep [16,0,1] c91_9)) (.keep [0,1] c91_13))
theorem u91_14:type_of% (@swc _ _ c91_14.eq_1):=@swc _ _ c91_14.eq_1
def c91_15:SC:=(.seq (.seq (.reg [SO.mk (some 13) (.move (.tmp 6)) none]) (.keep [13,0,1] c91_7)) (.keep [0,1] c91_14))
theorem u91_15:type_of% (@swc _ _ c91_15.eq_1):=@swc _ _ c91_15.eq_1
def c91_16:SC:=(.seq (.seq (.reg [SO.mk (some 11) (.move (.tmp 5)) none]) (.keep [11,6,0,1] c91_5)) (.keep [6,0,1] c91_15))
theorem u91_16:type_of% (@swc _ _ c91_16.eq_1):=@swc _ _ c91_16.eq_1
def c91_17:SC:=(.seq (.reg [SO.mk (some 9) (.move (.tmp 1)) none,SO.mk (some 10) (.call 95 [(.tmp 9)]) none,SO.mk (some 6) (.move (.tmp 10)) none]) (.keep [5,6,0,1] c91_16))
theorem u91_17:type_of% (@swc _ _ c91_17.eq_1):=@swc _ _ c91_17.eq_1
def c91_18:SC:=(.seq (.reg [SO.mk (some 7) (.move (.tmp 0)) none,SO.mk (some 8) (.call 95 [(.tmp 7)]) none,SO.mk (some 5) (.move (.tmp 8)) none]) (.keep [5,0,1] c91_17))
theorem u91_18:type_of% (@swc _ _ c91_18.eq_1):=@swc _ _ c91_18.eq_1
def c91:SC:=(.seq (.reg [SO.mk (some 4) (.move (.const (Value.int .i64 0))) none]) (.keep [0,1] c91_18))
theorem c91_eq:annC Try.f91 = some c91:=by kernel_rfl
theorem r91:Try.f91.results.toList = [.tmp 4]:=by kernel_rfl
theorem e91:enters Try.prog 91 = true:=by kernel_rfl
def c90_1:SC:=(.seq (.reg [SO.mk (some 5) (.faddr 51 (.tmp 2) 0) none,SO.mk (some 6) (.load 3 (.tmp 5)) none,SO.mk (some 7) (.move (.tmp 1)) none,SO.mk (some 8) (.call 91 [(.tmp 6),(.tmp 7)]) none,SO.mk (some 4) (.move (.tmp 8)) none]) (.keep [4] .ret))
theorem u90_1:type_of% (@swc _ _ c90_1.eq_1):=@swc _ _ c90_1.eq_1
def c90:SC:=(.seq (.reg [SO.mk (some 2) (.box 51 (.tmp 0)) none,SO.mk (some 4) (.move (.const (Value.int .i64 0))) none]) (.keep [2,1] c90_1))
theorem c90_eq:annC Try.f90 = some c90:=by kernel_rfl
theorem r90:Try.f90.results.toList = [.tmp 4]:=by kernel_rfl
theorem e90:enters Try.prog 90 = true:=by kernel_rfl
def c89_1:SC:=(.cond (.tmp 17) .skip (.exit 0))
theorem u89_1:type_of% (@swc _ _ c89_1.eq_1):=@swc _ _ c89_1.eq_1
def o89_2:List SO:=((SO.mk (some 22) (.bin .shr 104 (.tmp 21) (.const (Value.int .u64 1))) none) :: (SO.mk (some 23) (.conv 104 3 (.tmp 22)) none) :: (SO.mk (some 11) (.move (.tmp 23)) none) :: [])
theorem v89_2:type_of% (@swl _ _ o89_2.eq_1):=@swl _ _ o89_2.eq_1
def o89_3:List SO:=((SO.mk (some 28) (.load 51 (.tmp 27)) none) :: (SO.mk (some 29) (.move (.tmp 1)) none) :: (SO.mk (some 30) (.callv (.tmp 24) [(.tmp 28),(.tmp 29)]) none) :: (SO.mk (some 31) (.bin .lss 3 (.tmp 30) (.const (Value.int .i64 0))) none) :: [])
theorem v89_3:type_of% (@swl _ _ o89_3.eq_1):=@swl _ _ o89_3.eq_1
def c89_4:SC:=(.reg [SO.mk (some 32) (.move (.tmp 11)) none,SO.mk (some 33) (.bin .add 3 (.tmp 32) (.const (Value.int .i64 1))) none,SO.mk (some 9) (.move (.tmp 33)) none])
theorem u89_4:type_of% (@swc _ _ c89_4.eq_1):=@swc _ _ c89_4.eq_1
def c89_5:SC:=(.reg [SO.mk (some 34) (.move (.tmp 11)) none,SO.mk (some 10) (.move (.tmp 34)) none])
theorem u89_5:type_of% (@swc _ _ c89_5.eq_1):=@swc _ _ c89_5.eq_1
def c89_6:SC:=(.cond (.tmp 31) c89_4 c89_5)
theorem u89_6:type_of% (@swc _ _ c89_6.eq_1):=@swc _ _ c89_6.eq_1
def c89_7:SC:=(.seq (.reg ((SO.mk (some 24) (.move (.tmp 2)) none) :: (SO.mk (some 25) (.move (.tmp 0)) none) :: (SO.mk (some 26) (.move (.tmp 11)) none) :: (SO.mk (some 27) (.iaddr 23 (.tmp 25) (.tmp 26)) none) :: o89_3)) (.keep [31,10,11,8,2,0,9,1] c89_6))
theorem u89_7:type_of% (@swc _ _ c89_7.eq_1):=@swc _ _ c89_7.eq_1
def c89_8:SC:=(.block 1 (.seq (.reg ((SO.mk (some 18) (.move (.tmp 9)) none) :: (SO.mk (some 19) (.move (.tmp 10)) none) :: (SO.mk (some 20) (.bin .add 3 (.tmp 18) (.tmp 19)) none) :: (SO.mk (some 21) (.conv 3 104 (.tmp 20)) none) :: o89_2)) (.keep [10,11,8,2,0,9,1] c89_7)))
theorem u89_8:type_of% (@swc _ _ c89_8.eq_1):=@swc _ _ c89_8.eq_1
def c89_9:SC:=(.seq (.seq (.reg [SO.mk (some 15) (.move (.tmp 9)) none,SO.mk (some 16) (.move (.tmp 10)) none,SO.mk (some 17) (.bin .lss 3 (.tmp 15) (.tmp 16)) none]) (.keep [17,10,8,2,0,9,1] c89_1)) (.keep [10,8,2,0,9,1] c89_8))
theorem u89_9:type_of% (@swc _ _ c89_9.eq_1):=@swc _ _ c89_9.eq_1
def o89_10:List SO:=((SO.mk (some 47) (.bin .eql 3 (.tmp 46) (.const (Value.int .i64 0))) (some (39 ,true))) :: (SO.mk (some 48) (.pick (.tmp 39) (.tmp 47) (.const (Value.bool false))) none) :: (SO.mk (some 6) (.move (.tmp 35)) none) :: (SO.mk (some 7) (.move (.tmp 48)) none) :: [])
theorem v89_10:type_of% (@swl _ _ o89_10.eq_1):=@swl _ _ o89_10.eq_1
def o89_11:List SO:=((SO.mk (some 43) (.iaddr 23 (.tmp 41) (.tmp 42)) (some (39 ,true))) :: (SO.mk (some 44) (.load 51 (.tmp 43)) (some (39 ,true))) :: (SO.mk (some 45) (.move (.tmp 1)) (some (39 ,true))) :: (SO.mk (some 46) (.callv (.tmp 40) [(.tmp 44),(.tmp 45)]) (some (39 ,true))) :: o89_10)
theorem v89_11:type_of% (@swl _ _ o89_11.eq_1):=@swl _ _ o89_11.eq_1
def o89_12:List SO:=((SO.mk (some 39) (.move (.tmp 38)) none) :: (SO.mk (some 40) (.move (.tmp 2)) (some (39 ,true))) :: (SO.mk (some 41) (.move (.tmp 0)) (some (39 ,true))) :: (SO.mk (some 42) (.move (.tmp 9)) (some (39 ,true))) :: o89_11)
theorem v89_12:type_of% (@swl _ _ o89_12.eq_1):=@swl _ _ o89_12.eq_1
def c89_13:SC:=(.seq (.reg ((SO.mk (some 35) (.move (.tmp 9)) none) :: (SO.mk (some 36) (.move (.tmp 9)) none) :: (SO.mk (some 37) (.move (.tmp 8)) none) :: (SO.mk (some 38) (.bin .lss 3 (.tmp 36) (.tmp 37)) none) :: o89_12)) (.keep [6,7] .ret))
theorem u89_13:type_of% (@swc _ _ c89_13.eq_1):=@swc _ _ c89_13.eq_1
def c89_14:SC:=(.seq (.block 0 (.loop (.keep [10,8,2,0,9,1] c89_9))) (.keep [8,2,0,9,1] c89_13))
theorem u89_14:type_of% (@swc _ _ c89_14.eq_1):=@swc _ _ c89_14.eq_1
def c89_15:SC:=(.seq (.reg [SO.mk (some 14) (.move (.tmp 8)) none,SO.mk (some 9) (.move (.const (Value.int .i64 0))) none,SO.mk (some 10) (.move (.tmp 14)) none]) (.keep [10,8,2,0,9,1] c89_14))
theorem u89_15:type_of% (@swc _ _ c89_15.eq_1):=@swc _ _ c89_15.eq_1
def c89_16:SC:=(.seq (.reg [SO.mk (some 12) (.move (.tmp 0)) none,SO.mk (some 13) (.len 23 (.tmp 12)) none,SO.mk (some 8) (.move (.tmp 13)) none]) (.keep [8,2,0,1] c89_15))
theorem u89_16:type_of% (@swc _ _ c89_16.eq_1):=@swc _ _ c89_16.eq_1
def c89:SC:=(.seq (.reg [SO.mk (some 6) (.move (.const (Value.int .i64 0))) none,SO.mk (some 7) (.move (.const (Value.bool false))) none]) (.keep [2,0,1] c89_16))
theorem c89_eq:annC Try.f89 = some c89:=by kernel_rfl
theorem r89:Try.f89.results.toList = [.tmp 6,.tmp 7]:=by kernel_rfl
theorem e89:enters Try.prog 89 = true:=by kernel_rfl
def o74_1:List SO:=((SO.mk (some 10) (.extract (.tmp 9) 0) none) :: (SO.mk (some 11) (.extract (.tmp 9) 1) none) :: (SO.mk (some 4) (.move (.tmp 10)) none) :: (SO.mk (some 5) (.move (.tmp 11)) none) :: [])
theorem v74_1:type_of% (@swl _ _ o74_1.eq_1):=@swl _ _ o74_1.eq_1
def c74_2:SC:=(.seq (.reg ((SO.mk (some 6) (.faddr 28 (.tmp 2) 2) none) :: (SO.mk (some 7) (.load 22 (.tmp 6)) none) :: (SO.mk (some 8) (.move (.tmp 1)) none) :: (SO.mk (some 9) (.call 85 [(.tmp 7),(.tmp 8),(.func 86)]) none) :: o74_1)) (.keep [4,5] .ret))
theorem u74_2:type_of% (@swc _ _ c74_2.eq_1):=@swc _ _ c74_2.eq_1
def c74:SC:=(.seq (.reg [SO.mk (some 2) (.box 28 (.tmp 0)) none,SO.mk (some 4) (.move (.const (Value.int .i64 0))) none,SO.mk (some 5) (.move (.const (Value.bool false))) none]) (.keep [2,1] c74_2))
theorem c74_eq:annC Try.f74 = some c74:=by kernel_rfl
theorem r74:Try.f74.results.toList = [.tmp 4,.tmp 5]:=by kernel_rfl
theorem e74:enters Try.prog 74 = true:=by kernel_rfl
def o77_1:List SO:=((SO.mk (some 10) (.extract (.tmp 9) 0) none) :: (SO.mk (some 11) (.extract (.tmp 9) 1) none) :: (SO.mk (some 4) (.move (.tmp 10)) none) :: (SO.mk (some 5) (.move (.tmp 11)) none) :: [])
theorem v77_1:type_of% (@swl _ _ o77_1.eq_1):=@swl _ _ o77_1.eq_1
def c77_2:SC:=(.seq (.reg ((SO.mk (some 6) (.faddr 28 (.tmp 2) 3) none) :: (SO.mk (some 7) (.load 23 (.tmp 6)) none) :: (SO.mk (some 8) (.move (.tmp 1)) none) :: (SO.mk (some 9) (.call 89 [(.tmp 7),(.tmp 8),(.func 90)]) none) :: o77_1)) (.keep [4,5] .ret))
theorem u77_2:type_of% (@swc _ _ c77_2.eq_1):=@swc _ _ c77_2.eq_1
def c77:SC:=(.seq (.reg [SO.mk (some 2) (.box 28 (.tmp 0)) none,SO.mk (some 4) (.move (.const (Value.int .i64 0))) none,SO.mk (some 5) (.move (.const (Value.bool false))) none]) (.keep [2,1] c77_2))
theorem c77_eq:annC Try.f77 = some c77:=by kernel_rfl
theorem r77:Try.f77.results.toList = [.tmp 4,.tmp 5]:=by kernel_rfl
theorem e77:enters Try.prog 77 = true:=by kernel_rfl
end Go.Proofs.Ytijpmidnclbhpaa
namespace Go.Proofs.Ytijpmidnclbhpaa
open Go.RowKit
set_option maxHeartbeats 4000000
set_option maxRecDepth 20000
attribute [local irreducible] SW OSW SWL SWLn SWD SEcall SEcallv SDv SE SO1 SOg ACalls ACallv Wk EndV
set_option linter.unusedSimpArgs false
set_option linter.unusedVariables false
def bsS (c:Nat → Int) (p:Nat × Nat):Nat × Nat:=if p.1 < p.2 then (if c ((p.1 + p.2) / 2) < 0 then ((p.1 + p.2) / 2 + 1,p.2) else (p.1,(p.1 + p.2) / 2)) else p
def bsK (c:Nat → Int) (n:Nat):Nat → Nat × Nat
  | 0=>(0,n)
  | k + 1=>bsS c (bsK c n k)
def bsP (c:Nat → Int) (n:Nat):Nat:=(bsK c n n).1
theorem bsK_ok (c:Nat → Int) (n:Nat):∀ k,(bsK c n k).1 ≤ (bsK c n k).2 ∧ (bsK c n k).2 ≤ n ∧ (bsK c n k).2 - (bsK c n k).1 ≤ n - k
  | 0=>⟨Nat.zero_le _,Nat.le_refl _,Nat.le_refl _⟩
  | k + 1=>by
    obtain ⟨h1,h2,h3⟩:=bsK_ok c n k
    simp only [bsK,bsS]
    split
    · split<;>simp only<;>omega
    · exact ⟨h1,h2,by omega⟩
theorem bsK_done {c:Nat → Int} {n k:Nat} (h:(bsK c n k).1 = (bsK c n k).2):∀ j,bsK c n (k + j) = bsK c n k
  | 0=>rfl
  | j + 1=>by
    rw [← Nat.add_assoc,bsK,bsK_done h j,bsS,if_neg (by omega)]
theorem bsP_eq {c:Nat → Int} {n k:Nat} (hk:k ≤ n) (h:¬ (bsK c n k).1 < (bsK c n k).2):bsP c n = (bsK c n k).1:=by
  have:=(bsK_ok c n k).1
  have e:=bsK_done (show (bsK c n k).1 = (bsK c n k).2 by omega) (n - k)
  rw [show k + (n - k) = n by omega] at e
  unfold bsP;rw [e]
theorem bs_half (i j:Nat) (hi:i ≤ 2 ^ 47) (hj:j ≤ 2 ^ 47):IntKind.i64.wrap ((IntKind.u64.wrap (IntKind.i64.wrap ((i:Int) + j))).fdiv (2 ^ min 1 IntKind.u64.bits)) = (((i + j) / 2:Nat):Int):=by
  have e1:IntKind.i64.wrap ((i:Int) + j) = (i:Int) + j:=IntWalk.i64_in _ (by omega)
  have e2:IntKind.u64.wrap ((i:Int) + j) = (i:Int) + j:=by simp [IntKind.wrap,IntKind.bits,IntKind.signed];omega
  have e3:((2:Int) ^ min 1 IntKind.u64.bits) = 2:=by decide
  have e4:((i:Int) + j).fdiv 2 = (((i + j) / 2:Nat):Int):=by rw [Int.fdiv_eq_ediv_of_nonneg _ (by omega)];omega
  rw [e1,e2,e3,e4]
  exact IntWalk.i64_in _ (by omega)
theorem bucketF_p (b:BktD) (s:ByteArray):Pure Try.prog 86 [.agg (b.row.map .d),.d (.v (.string s))] (I (cmpB b.name s)):=by
  refine pure_of follows Try.func86 c86_eq r86 (Nat.le_of_ble_eq_true rfl) fun B σ hcl hsz=>?_
  clear hsz
  repeat' (first | (simp -implicitDefEqProofs only [*,Nat.reduceBEq,↓reduceIte,Nat.reduceEqDiff,Nat.reduceAdd,reduceCtorEq,AO.kill,AV.kill,Int.reduceLT,Int.reduceToNat,List.getElem?_nil,Nat.reduceMul,Nat.reducePow,Nat.reduceLeDiff,rowOf_mapD,rowOf_mapI,rowOf_mapA,List.getElem?_cons_zero,List.getElem?_cons_succ,take_map_len,take_map_app,List.getElem?_cons_zero,c86,r86,u86_1,ty47,ty9,BktD.row,mvcgen_simp]) | (with_reducible refine And.intro ?_ ?_) | (refine call_ro e87 ( cmp_p b.name s) rfl ?_ ?_ ?_ ?_) | (refine gcall_ro e87 ( cmp_p b.name s) rfl ?_ ?_ ?_ ?_) | (refine dcall_ro e87 ( cmp_p b.name s) rfl ?_ ?_ ?_ ?_) | (refine gdcall_ro rfl e87 ( cmp_p b.name s) rfl ?_ ?_ ?_ ?_) | (refine EndX.plain ?_) | (refine nil_split (fun hn=>?_) (fun hn=>?_)) | (refine gcall_no not_false ?_) | (refine gdcall_no not_false ?_) | (refine GuardS_of _ _ _ _ _ _ (fun hg=>?_) (fun hg=>?_)) | (refine GuardD_of _ _ _ _ (fun hg=>?_) (fun hg=>?_)) | (refine CondB_of _ _ _ _ _ _ _ ?_ (fun hg=>?_) (fun hg=>?_)))
  all_goals (try (first | ((first | unfold noN | unfold Fr.below | unfold Loc.below);simp [Fr.allN,AV.allN,AV.allNL,AO.allN];done) | rfl | trivial | assumption | (intro row hrow;simp only [List.mem_map] at hrow;obtain ⟨x,_,rfl⟩:=hrow;rfl) | (refine Wk.keep hcl ?_ ?_ ?_;(focus (simp [Fr.get,BktD.row]<;>fail));(focus (simp [sto,BktD.row]<;>fail));(focus (simp<;>fail))) | (simp [allP,opd,Fr.get,Fr.below,Fr.allN,AV.allN,AV.allNL,Loc.below,AO.allN,noN,killO,killT,killD,mkNames,AO.kill,AV.kill,AV.mapN,AV.mapNL];done) | (with_reducible exact ltD (by assumption)) | omega | (simp only [decide_eq_true_eq,decide_eq_false_iff_not] at *;omega)))
def cB (l:List BktD) (s:ByteArray) (k:Nat):Int:=cmpB l[k]!.name s
theorem bsB_p (l:List BktD) (s:ByteArray):Pure Try.prog 85 [.d (.ro (l.map BktD.row)),.d (.v (.string s)),.clo (.func 86) [] []] (.tup [I (bsP (cB l s) l.length),Bo (decide (bsP (cB l s) l.length < l.length) && (cB l s (bsP (cB l s) l.length) == 0))]):=by
  refine pure_of follows Try.func85 c85_eq r85 (Nat.le_of_ble_eq_true rfl) fun B σ hcl hsz=>?_
  have hlen:l.length ≤ 2 ^ 47:=by simpa using (show Sized (.ro (l.map BktD.row)) from hsz (.d (.ro (l.map BktD.row))) (by simp)).len
  clear hsz
  simp -implicitDefEqProofs only [contN,contC,Nat.reduceBEq,Bool.or_false,Bool.or_true,Bool.false_or,Bool.true_or,Bool.not_true,Bool.not_false,SEconv,w_skip,w_ret,w_exit,w_reg,w_dreg,w_oreg,HO_app,w_odone,w_onil,w_ofst,w_obr,w_seq,SK_n,SK_r,SK_x,w_keep,w_block,w_cond,w_nil,w_cons,w_consg,w_nnil,w_ncons,w_dnil,w_dcons,w_dconsg,HK_app,HD_app,HQ_n,HQ_r,HQ_x,HQ_bn,HQ_br,HQ_bx,HQ_en,HQ_er,HQ_ex,CondB_true,CondB_false,SO1,w_sdv,SDe_alloc,SDe_box,SDe_bslice,SDe_app,true_imp_iff,false_imp_iff,and_false,false_and,not_false_eq_true,not_true_eq_false,addN,mkNames,killT,killD,killO,List.foldl_nil,List.foldl_cons,List.append_nil,List.nil_append,List.cons_append,GuardS_true,GuardS_false,GuardD_true,GuardD_false,DK_true,DK_false,lt_self_add,le_self_add,decide_true,decide_false,Bool.false_eq_true,Bool.true_eq_false,Nat.add_left_cancel_iff,SE,SEalloc,SEbox,SEstore,w_bs,SEbl,SEfz,SEbs0,fzName,osOf,AV.fz1,w_app,w_mk,aev,opd,Fr.get,putO,Fr.norm,List.map_cons,List.map_nil,with1,with2,onInt,AV.lit,entry,↓reduceIte,Nat.reduceEqDiff,Nat.reduceAdd,reduceCtorEq,true_and,and_true,Option.map_some,Option.map_none,Option.bind_some,Option.bind_none,cond_true,cond_false,binV,unV,fieldV,loadV,sto,cellsAV,newF,newL,Fr.map,Loc.kill,Loc.set,AO.kill,AV.kill,AV.mapN,AV.mapNL,List.filter_nil,List.filter_cons,allP,EndV,retV,resV,resL,frz,dropL,AV.pick,nilV,tupV,imp_self,ne_eq,Int.cast_ofNat_Int,Int.reduceLT,Int.reduceToNat,List.getD_cons_zero,List.getD_cons_succ,bsliceV,buildV,afill,repl,chunk,rvs,AV.rv,RV.nrm,List.getElem?_nil,List.append_assoc,Nat.reduceMul,Nat.reducePow,Nat.zero_lt_succ,Nat.zero_add,Nat.add_zero,List.length_cons,List.length_nil,Nat.reduceLeDiff,Nat.le_refl,List.take_succ_cons,List.take_zero,List.drop_succ_cons,List.drop_zero,indexV,lenV,rowOf_mapD,rowOf_mapI,rowOf_mapA,List.length_map,Int.toNat_natCast,List.getElem?_cons_zero,List.getElem?_cons_succ,and_self,implies_true,if_true,if_false,HQ_zn,HQ_zr,HQ_wn,HQ_wr,AV.nz,AV.nzL,RV.nrm,SEbin,SEnil,nilK,srcV,dstV,appName,List.length_append,Nat.mul_one,take_map_len,take_map_app,List.getElem?_cons_zero,List.map_append,SEmkmap,SEmset,mgetV,kvOf,getM,setM,c85,r85,u85_1,v85_2,v85_3,u85_4,u85_5,u85_6,u85_7,u85_8,u85_9,v85_10,v85_11,v85_12,u85_13,u85_14,u85_15,u85_16,ty22,ty3,ty104,ty47]
  refine loop_nat l.length (fun k=>True) (fun k=>[(2,.clo (.func 86) [] []),(0,.d (.ro (l.map BktD.row))),(1,.d (.v (.string s))),(8,I l.length),(9,I (bsK (cB l s) l.length k).1),(10,I (bsK (cB l s) l.length k).2)]) (fun k=>[]) trivial (Wk.keep hcl (by simp [Fr.get,bsK]) (by simp) (by simp)) fun k hk hF=>?_
  obtain ⟨h1,h2,h3⟩:=bsK_ok (cB l s) l.length k
  generalize hb:bsK (cB l s) l.length k = p at h1 h2 h3
  obtain ⟨i,j⟩:=p
  simp only at h1 h2 h3
  have hh:=bs_half i j (by omega) (by omega)
  have hw:IntKind.i64.wrap ((((i + j) / 2:Nat):Int) + 1) = (((i + j) / 2:Nat):Int) + 1:=IntWalk.i64_in _ (by omega)
  have hlt:i < j → ((i + j) / 2 < l.length ∧ i < l.length):=fun h=>by omega
  have hrow:decide ((i:Int) < (j:Int)) = true → rowOf (l.map BktD.row) ((i + j) / 2) = BktD.row l[(i + j) / 2]!:=fun h=>by
    have h0:i < j:=by simpa using h
    exact rowOf_mapD _ _ _ (decide_eq_true (by omega))
  repeat' (first | (simp -implicitDefEqProofs only [*,Nat.reduceBEq,↓reduceIte,Nat.reduceEqDiff,Nat.reduceAdd,reduceCtorEq,AO.kill,AV.kill,Int.reduceLT,Int.reduceToNat,List.getElem?_nil,Nat.reduceMul,Nat.reducePow,Nat.reduceLeDiff,rowOf_mapD,rowOf_mapI,rowOf_mapA,List.getElem?_cons_zero,List.getElem?_cons_succ,take_map_len,take_map_app,List.getElem?_cons_zero,c85,r85,u85_1,v85_2,v85_3,u85_4,u85_5,u85_6,u85_7,u85_8,u85_9,v85_10,v85_11,v85_12,u85_13,u85_14,u85_15,u85_16,ty22,ty3,ty104,ty47,BktD.row,hb,convV,mvcgen_simp]) | (with_reducible refine And.intro ?_ ?_) | (refine callv_roC ( PureC.clo (C:=fun _=>True) e86 (bucketF_p l[(i + j) / 2]! s).c) rfl rfl ?_ ?_ ?_ ?_ ?_ ?_) | (refine gcallv_roC (D:=fun _=>True) (PureC.clo e86 (bucketF_p l[i]! s).c) rfl rfl ?_ ?_ ?_ ?_ ?_ ?_) | (refine EndX.plain ?_) | (refine nil_split (fun hn=>?_) (fun hn=>?_)) | (refine gcall_no not_false ?_) | (refine gdcall_no not_false ?_) | (refine GuardS_of _ _ _ _ _ _ (fun hg=>?_) (fun hg=>?_)) | (refine GuardD_of _ _ _ _ (fun hg=>?_) (fun hg=>?_)) | (refine CondB_of _ _ _ _ _ _ _ ?_ (fun hg=>?_) (fun hg=>?_)))
  all_goals (try (first | ((first | unfold noN | unfold Fr.below | unfold Loc.below);simp [Fr.allN,AV.allN,AV.allNL,AO.allN];done) | rfl | trivial | assumption | (intro row hrow;simp only [List.mem_map] at hrow;obtain ⟨x,_,rfl⟩:=hrow;rfl) | (refine Wk.keep hcl ?_ ?_ ?_;(focus (simp [Fr.get,BktD.row,hb,convV]<;>fail));(focus (simp [sto,BktD.row,hb,convV]<;>fail));(focus (simp<;>fail))) | (simp [allP,opd,Fr.get,Fr.below,Fr.allN,AV.allN,AV.allNL,Loc.below,AO.allN,noN,killO,killT,killD,mkNames,AO.kill,AV.kill,AV.mapN,AV.mapNL];done) | (with_reducible exact ltD (by assumption)) | omega | (simp only [decide_eq_true_eq,decide_eq_false_iff_not] at *;omega)))
  all_goals first
    | (have e:bsP (cB l s) l.length = i:=by
         rw [bsP_eq hk (by rw [hb];have:=of_decide_eq_false (by assumption:decide ((i:Int) < (j:Int)) = false);omega),hb]
       have e2:i < l.length:=by have:=of_decide_eq_true (by assumption:decide ((i:Int) < (l.length:Int)) = true);omega
       rw [e,decide_eq_true e2];rfl)
    | (have e:bsP (cB l s) l.length = i:=by
         rw [bsP_eq hk (by rw [hb];have:=of_decide_eq_false (by assumption:decide ((i:Int) < (j:Int)) = false);omega),hb]
       have e2:¬ i < l.length:=by have:=of_decide_eq_false (by assumption:decide ((i:Int) < (l.length:Int)) = false);omega
       rw [e,decide_eq_false e2];rfl)
    | (have hg1:i < j:=by have:=of_decide_eq_true (by assumption:decide ((i:Int) < (j:Int)) = true);omega
       have hg2:cB l s ((i + j) / 2) < 0:=of_decide_eq_true (by assumption)
       have e:bsK (cB l s) l.length (k + 1) = ((i + j) / 2 + 1,j):=by simp only [bsK,hb,bsS];rw [if_pos hg1,if_pos hg2]
       rw [e];exact Wk.keep hcl (by simp [Fr.get]) (by simp [sto]) (by simp))
    | (have hg1:i < j:=by have:=of_decide_eq_true (by assumption:decide ((i:Int) < (j:Int)) = true);omega
       have hg2:¬ cB l s ((i + j) / 2) < 0:=of_decide_eq_false (by assumption)
       have e:bsK (cB l s) l.length (k + 1) = (i,(i + j) / 2):=by simp only [bsK,hb,bsS];rw [if_pos hg1,if_neg hg2]
       rw [e];exact Wk.keep hcl (by simp [Fr.get]) (by simp [sto]) (by simp))
def cmpI (a b:Int):Int:=if a < b then -1 else if a > b then 1 else 0
theorem nan_p (a:Int):Pure Try.prog 95 [I a] (Bo false):=by
  refine pure_of follows Try.func95 c95_eq r95 (Nat.le_of_ble_eq_true rfl) fun B σ hcl hsz=>?_
  clear hsz
  repeat' (first | (simp -implicitDefEqProofs only [*,Nat.reduceBEq,↓reduceIte,Nat.reduceEqDiff,Nat.reduceAdd,reduceCtorEq,AO.kill,AV.kill,Int.reduceLT,Int.reduceToNat,List.getElem?_nil,Nat.reduceMul,Nat.reducePow,Nat.reduceLeDiff,rowOf_mapD,rowOf_mapI,rowOf_mapA,List.getElem?_cons_zero,List.getElem?_cons_succ,take_map_len,take_map_app,List.getElem?_cons_zero,c95,r95,u95_1,ty3,bne_self_eq_false,mvcgen_simp]) | (with_reducible refine And.intro ?_ ?_) | (refine EndX.plain ?_) | (refine nil_split (fun hn=>?_) (fun hn=>?_)) | (refine gcall_no not_false ?_) | (refine gdcall_no not_false ?_) | (refine GuardS_of _ _ _ _ _ _ (fun hg=>?_) (fun hg=>?_)) | (refine GuardD_of _ _ _ _ (fun hg=>?_) (fun hg=>?_)) | (refine CondB_of _ _ _ _ _ _ _ ?_ (fun hg=>?_) (fun hg=>?_)))
  all_goals (try (first | ((first | unfold noN | unfold Fr.below | unfold Loc.below);simp [Fr.allN,AV.allN,AV.allNL,AO.allN];done) | rfl | trivial | assumption | (intro row hrow;simp only [List.mem_map] at hrow;obtain ⟨x,_,rfl⟩:=hrow;rfl) | (refine Wk.keep hcl ?_ ?_ ?_;(focus (simp [Fr.get,bne_self_eq_false]<;>fail));(focus (simp [sto,bne_self_eq_false]<;>fail));(focus (simp<;>fail))) | (simp [allP,opd,Fr.get,Fr.below,Fr.allN,AV.allN,AV.allNL,Loc.below,AO.allN,noN,killO,killT,killD,mkNames,AO.kill,AV.kill,AV.mapN,AV.mapNL];done) | (with_reducible exact ltD (by assumption)) | omega | (simp only [decide_eq_true_eq,decide_eq_false_iff_not] at *;omega)))
theorem cmpI_p (a b:Int):Pure Try.prog 91 [I a,I b] (I (cmpI a b)):=by
  refine pure_of follows Try.func91 c91_eq r91 (Nat.le_of_ble_eq_true rfl) fun B σ hcl hsz=>?_
  clear hsz
  repeat' (first | (simp -implicitDefEqProofs only [*,Nat.reduceBEq,↓reduceIte,Nat.reduceEqDiff,Nat.reduceAdd,reduceCtorEq,AO.kill,AV.kill,Int.reduceLT,Int.reduceToNat,List.getElem?_nil,Nat.reduceMul,Nat.reducePow,Nat.reduceLeDiff,rowOf_mapD,rowOf_mapI,rowOf_mapA,List.getElem?_cons_zero,List.getElem?_cons_succ,take_map_len,take_map_app,List.getElem?_cons_zero,c91,r91,u91_1,u91_2,u91_3,u91_4,u91_5,u91_6,u91_7,u91_8,u91_9,u91_10,u91_11,u91_12,u91_13,u91_14,u91_15,u91_16,u91_17,u91_18,ty3,mvcgen_simp]) | (with_reducible refine And.intro ?_ ?_) | (refine call_ro e95 (nan_p a) rfl ?_ ?_ ?_ ?_) | (refine call_ro e95 (nan_p b) rfl ?_ ?_ ?_ ?_) | (refine EndX.plain ?_) | (refine nil_split (fun hn=>?_) (fun hn=>?_)) | (refine gcall_no not_false ?_) | (refine gdcall_no not_false ?_) | (refine GuardS_of _ _ _ _ _ _ (fun hg=>?_) (fun hg=>?_)) | (refine GuardD_of _ _ _ _ (fun hg=>?_) (fun hg=>?_)) | (refine CondB_of _ _ _ _ _ _ _ ?_ (fun hg=>?_) (fun hg=>?_)))
  all_goals (try (first | ((first | unfold noN | unfold Fr.below | unfold Loc.below);simp [Fr.allN,AV.allN,AV.allNL,AO.allN];done) | rfl | trivial | assumption | (intro row hrow;simp only [List.mem_map] at hrow;obtain ⟨x,_,rfl⟩:=hrow;rfl) | (refine Wk.keep hcl ?_ ?_ ?_;(focus (simp [Fr.get]<;>fail));(focus (simp [sto]<;>fail));(focus (simp<;>fail))) | (simp [allP,opd,Fr.get,Fr.below,Fr.allN,AV.allN,AV.allNL,Loc.below,AO.allN,noN,killO,killT,killD,mkNames,AO.kill,AV.kill,AV.mapN,AV.mapNL];done) | (with_reducible exact ltD (by assumption)) | omega | (simp only [decide_eq_true_eq,decide_eq_false_iff_not] at *;omega)))
  all_goals (unfold cmpI)
  all_goals (try (rw [if_pos (of_decide_eq_true (by assumption))]))
  all_goals (try (rw [if_neg (of_decide_eq_false (by assumption:decide (a < b) = false)),if_pos (of_decide_eq_true (by assumption))]))
  all_goals (try (rw [if_neg (of_decide_eq_false (by assumption:decide (a < b) = false)),if_neg (of_decide_eq_false (by assumption:decide (a > b) = false))]))
theorem versionF_p (b:VerD) (s:Int):Pure Try.prog 90 [.agg (b.row.map .d),I s] (I (cmpI b.id s)):=by
  refine pure_of follows Try.func90 c90_eq r90 (Nat.le_of_ble_eq_true rfl) fun B σ hcl hsz=>?_
  clear hsz
  repeat' (first | (simp -implicitDefEqProofs only [*,Nat.reduceBEq,↓reduceIte,Nat.reduceEqDiff,Nat.reduceAdd,reduceCtorEq,AO.kill,AV.kill,Int.reduceLT,Int.reduceToNat,List.getElem?_nil,Nat.reduceMul,Nat.reducePow,Nat.reduceLeDiff,rowOf_mapD,rowOf_mapI,rowOf_mapA,List.getElem?_cons_zero,List.getElem?_cons_succ,take_map_len,take_map_app,List.getElem?_cons_zero,c90,r90,u90_1,ty51,ty3,VerD.row,ints,mvcgen_simp]) | (with_reducible refine And.intro ?_ ?_) | (refine call_ro e91 ( cmpI_p b.id s) rfl ?_ ?_ ?_ ?_) | (refine gcall_ro e91 ( cmpI_p b.id s) rfl ?_ ?_ ?_ ?_) | (refine dcall_ro e91 ( cmpI_p b.id s) rfl ?_ ?_ ?_ ?_) | (refine gdcall_ro rfl e91 ( cmpI_p b.id s) rfl ?_ ?_ ?_ ?_) | (refine EndX.plain ?_) | (refine nil_split (fun hn=>?_) (fun hn=>?_)) | (refine gcall_no not_false ?_) | (refine gdcall_no not_false ?_) | (refine GuardS_of _ _ _ _ _ _ (fun hg=>?_) (fun hg=>?_)) | (refine GuardD_of _ _ _ _ (fun hg=>?_) (fun hg=>?_)) | (refine CondB_of _ _ _ _ _ _ _ ?_ (fun hg=>?_) (fun hg=>?_)))
  all_goals (try (first | ((first | unfold noN | unfold Fr.below | unfold Loc.below);simp [Fr.allN,AV.allN,AV.allNL,AO.allN];done) | rfl | trivial | assumption | (intro row hrow;simp only [List.mem_map] at hrow;obtain ⟨x,_,rfl⟩:=hrow;rfl) | (refine Wk.keep hcl ?_ ?_ ?_;(focus (simp [Fr.get,VerD.row,ints]<;>fail));(focus (simp [sto,VerD.row,ints]<;>fail));(focus (simp<;>fail))) | (simp [allP,opd,Fr.get,Fr.below,Fr.allN,AV.allN,AV.allNL,Loc.below,AO.allN,noN,killO,killT,killD,mkNames,AO.kill,AV.kill,AV.mapN,AV.mapNL];done) | (with_reducible exact ltD (by assumption)) | omega | (simp only [decide_eq_true_eq,decide_eq_false_iff_not] at *;omega)))
def cV (l:List VerD) (s:Int) (k:Nat):Int:=cmpI l[k]!.id s
theorem bsV_p (l:List VerD) (s:Int):Pure Try.prog 89 [.d (.ro (l.map VerD.row)),I s,.clo (.func 90) [] []] (.tup [I (bsP (cV l s) l.length),Bo (decide (bsP (cV l s) l.length < l.length) && (cV l s (bsP (cV l s) l.length) == 0))]):=by
  refine pure_of follows Try.func89 c89_eq r89 (Nat.le_of_ble_eq_true rfl) fun B σ hcl hsz=>?_
  have hlen:l.length ≤ 2 ^ 47:=by simpa using (show Sized (.ro (l.map VerD.row)) from hsz (.d (.ro (l.map VerD.row))) (by simp)).len
  clear hsz
  simp -implicitDefEqProofs only [contN,contC,Nat.reduceBEq,Bool.or_false,Bool.or_true,Bool.false_or,Bool.true_or,Bool.not_true,Bool.not_false,SEconv,w_skip,w_ret,w_exit,w_reg,w_dreg,w_oreg,HO_app,w_odone,w_onil,w_ofst,w_obr,w_seq,SK_n,SK_r,SK_x,w_keep,w_block,w_cond,w_nil,w_cons,w_consg,w_nnil,w_ncons,w_dnil,w_dcons,w_dconsg,HK_app,HD_app,HQ_n,HQ_r,HQ_x,HQ_bn,HQ_br,HQ_bx,HQ_en,HQ_er,HQ_ex,CondB_true,CondB_false,SO1,w_sdv,SDe_alloc,SDe_box,SDe_bslice,SDe_app,true_imp_iff,false_imp_iff,and_false,false_and,not_false_eq_true,not_true_eq_false,addN,mkNames,killT,killD,killO,List.foldl_nil,List.foldl_cons,List.append_nil,List.nil_append,List.cons_append,GuardS_true,GuardS_false,GuardD_true,GuardD_false,DK_true,DK_false,lt_self_add,le_self_add,decide_true,decide_false,Bool.false_eq_true,Bool.true_eq_false,Nat.add_left_cancel_iff,SE,SEalloc,SEbox,SEstore,w_bs,SEbl,SEfz,SEbs0,fzName,osOf,AV.fz1,w_app,w_mk,aev,opd,Fr.get,putO,Fr.norm,List.map_cons,List.map_nil,with1,with2,onInt,AV.lit,entry,↓reduceIte,Nat.reduceEqDiff,Nat.reduceAdd,reduceCtorEq,true_and,and_true,Option.map_some,Option.map_none,Option.bind_some,Option.bind_none,cond_true,cond_false,binV,unV,fieldV,loadV,sto,cellsAV,newF,newL,Fr.map,Loc.kill,Loc.set,AO.kill,AV.kill,AV.mapN,AV.mapNL,List.filter_nil,List.filter_cons,allP,EndV,retV,resV,resL,frz,dropL,AV.pick,nilV,tupV,imp_self,ne_eq,Int.cast_ofNat_Int,Int.reduceLT,Int.reduceToNat,List.getD_cons_zero,List.getD_cons_succ,bsliceV,buildV,afill,repl,chunk,rvs,AV.rv,RV.nrm,List.getElem?_nil,List.append_assoc,Nat.reduceMul,Nat.reducePow,Nat.zero_lt_succ,Nat.zero_add,Nat.add_zero,List.length_cons,List.length_nil,Nat.reduceLeDiff,Nat.le_refl,List.take_succ_cons,List.take_zero,List.drop_succ_cons,List.drop_zero,indexV,lenV,rowOf_mapD,rowOf_mapI,rowOf_mapA,List.length_map,Int.toNat_natCast,List.getElem?_cons_zero,List.getElem?_cons_succ,and_self,implies_true,if_true,if_false,HQ_zn,HQ_zr,HQ_wn,HQ_wr,AV.nz,AV.nzL,RV.nrm,SEbin,SEnil,nilK,srcV,dstV,appName,List.length_append,Nat.mul_one,take_map_len,take_map_app,List.getElem?_cons_zero,List.map_append,SEmkmap,SEmset,mgetV,kvOf,getM,setM,c89,r89,u89_1,v89_2,v89_3,u89_4,u89_5,u89_6,u89_7,u89_8,u89_9,v89_10,v89_11,v89_12,u89_13,u89_14,u89_15,u89_16,ty23,ty3,ty104,ty51]
  refine loop_nat l.length (fun k=>True) (fun k=>[(2,.clo (.func 90) [] []),(0,.d (.ro (l.map VerD.row))),(1,I s),(8,I l.length),(9,I (bsK (cV l s) l.length k).1),(10,I (bsK (cV l s) l.length k).2)]) (fun k=>[]) trivial (Wk.keep hcl (by simp [Fr.get,bsK]) (by simp) (by simp)) fun k hk hF=>?_
  obtain ⟨h1,h2,h3⟩:=bsK_ok (cV l s) l.length k
  generalize hb:bsK (cV l s) l.length k = p at h1 h2 h3
  obtain ⟨i,j⟩:=p
  simp only at h1 h2 h3
  have hh:=bs_half i j (by omega) (by omega)
  have hw:IntKind.i64.wrap ((((i + j) / 2:Nat):Int) + 1) = (((i + j) / 2:Nat):Int) + 1:=IntWalk.i64_in _ (by omega)
  have hlt:i < j → ((i + j) / 2 < l.length ∧ i < l.length):=fun h=>by omega
  have hrow:decide ((i:Int) < (j:Int)) = true → rowOf (l.map VerD.row) ((i + j) / 2) = VerD.row l[(i + j) / 2]!:=fun h=>by
    have h0:i < j:=by simpa using h
    exact rowOf_mapD _ _ _ (decide_eq_true (by omega))
  repeat' (first | (simp -implicitDefEqProofs only [*,Nat.reduceBEq,↓reduceIte,Nat.reduceEqDiff,Nat.reduceAdd,reduceCtorEq,AO.kill,AV.kill,Int.reduceLT,Int.reduceToNat,List.getElem?_nil,Nat.reduceMul,Nat.reducePow,Nat.reduceLeDiff,rowOf_mapD,rowOf_mapI,rowOf_mapA,List.getElem?_cons_zero,List.getElem?_cons_succ,take_map_len,take_map_app,List.getElem?_cons_zero,c89,r89,u89_1,v89_2,v89_3,u89_4,u89_5,u89_6,u89_7,u89_8,u89_9,v89_10,v89_11,v89_12,u89_13,u89_14,u89_15,u89_16,ty23,ty3,ty104,ty51,VerD.row,hb,convV,mvcgen_simp]) | (with_reducible refine And.intro ?_ ?_) | (refine callv_roC ( PureC.clo (C:=fun _=>True) e90 (versionF_p l[(i + j) / 2]! s).c) rfl rfl ?_ ?_ ?_ ?_ ?_ ?_) | (refine gcallv_roC (D:=fun _=>True) (PureC.clo e90 (versionF_p l[i]! s).c) rfl rfl ?_ ?_ ?_ ?_ ?_ ?_) | (refine EndX.plain ?_) | (refine nil_split (fun hn=>?_) (fun hn=>?_)) | (refine gcall_no not_false ?_) | (refine gdcall_no not_false ?_) | (refine GuardS_of _ _ _ _ _ _ (fun hg=>?_) (fun hg=>?_)) | (refine GuardD_of _ _ _ _ (fun hg=>?_) (fun hg=>?_)) | (refine CondB_of _ _ _ _ _ _ _ ?_ (fun hg=>?_) (fun hg=>?_)))
  all_goals (try (first | ((first | unfold noN | unfold Fr.below | unfold Loc.below);simp [Fr.allN,AV.allN,AV.allNL,AO.allN];done) | rfl | trivial | assumption | (intro row hrow;simp only [List.mem_map] at hrow;obtain ⟨x,_,rfl⟩:=hrow;rfl) | (refine Wk.keep hcl ?_ ?_ ?_;(focus (simp [Fr.get,VerD.row,hb,convV]<;>fail));(focus (simp [sto,VerD.row,hb,convV]<;>fail));(focus (simp<;>fail))) | (simp [allP,opd,Fr.get,Fr.below,Fr.allN,AV.allN,AV.allNL,Loc.below,AO.allN,noN,killO,killT,killD,mkNames,AO.kill,AV.kill,AV.mapN,AV.mapNL];done) | (with_reducible exact ltD (by assumption)) | omega | (simp only [decide_eq_true_eq,decide_eq_false_iff_not] at *;omega)))
  all_goals first
    | (have e:bsP (cV l s) l.length = i:=by
         rw [bsP_eq hk (by rw [hb];have:=of_decide_eq_false (by assumption:decide ((i:Int) < (j:Int)) = false);omega),hb]
       have e2:i < l.length:=by have:=of_decide_eq_true (by assumption:decide ((i:Int) < (l.length:Int)) = true);omega
       rw [e,decide_eq_true e2];rfl)
    | (have e:bsP (cV l s) l.length = i:=by
         rw [bsP_eq hk (by rw [hb];have:=of_decide_eq_false (by assumption:decide ((i:Int) < (j:Int)) = false);omega),hb]
       have e2:¬ i < l.length:=by have:=of_decide_eq_false (by assumption:decide ((i:Int) < (l.length:Int)) = false);omega
       rw [e,decide_eq_false e2];rfl)
    | (have hg1:i < j:=by have:=of_decide_eq_true (by assumption:decide ((i:Int) < (j:Int)) = true);omega
       have hg2:cV l s ((i + j) / 2) < 0:=of_decide_eq_true (by assumption)
       have e:bsK (cV l s) l.length (k + 1) = ((i + j) / 2 + 1,j):=by simp only [bsK,hb,bsS];rw [if_pos hg1,if_pos hg2]
       rw [e];exact Wk.keep hcl (by simp [Fr.get]) (by simp [sto]) (by simp))
    | (have hg1:i < j:=by have:=of_decide_eq_true (by assumption:decide ((i:Int) < (j:Int)) = true);omega
       have hg2:¬ cV l s ((i + j) / 2) < 0:=of_decide_eq_false (by assumption)
       have e:bsK (cV l s) l.length (k + 1) = (i,(i + j) / 2):=by simp only [bsK,hb,bsS];rw [if_pos hg1,if_neg hg2]
       rw [e];exact Wk.keep hcl (by simp [Fr.get]) (by simp [sto]) (by simp))
theorem bucket_p (st:SttD) (s:ByteArray):Pure Try.prog 74 [st.av,.d (.v (.string s))] (.tup [I (bsP (cB st.bkts s) st.bkts.length),Bo (decide (bsP (cB st.bkts s) st.bkts.length < st.bkts.length) && (cB st.bkts s (bsP (cB st.bkts s) st.bkts.length) == 0))]):=by
  refine pure_of follows Try.func74 c74_eq r74 (Nat.le_of_ble_eq_true rfl) fun B σ hcl hsz=>?_
  clear hsz
  repeat' (first | (simp -implicitDefEqProofs only [*,Nat.reduceBEq,↓reduceIte,Nat.reduceEqDiff,Nat.reduceAdd,reduceCtorEq,AO.kill,AV.kill,Int.reduceLT,Int.reduceToNat,List.getElem?_nil,Nat.reduceMul,Nat.reducePow,Nat.reduceLeDiff,rowOf_mapD,rowOf_mapI,rowOf_mapA,List.getElem?_cons_zero,List.getElem?_cons_succ,take_map_len,take_map_app,List.getElem?_cons_zero,c74,r74,v74_1,u74_2,ty28,ty22,ty47,SttD.av,SttD.cells,ints,mvcgen_simp]) | (with_reducible refine And.intro ?_ ?_) | (refine call_ro e85 ( bsB_p st.bkts s) rfl ?_ ?_ ?_ ?_) | (refine gcall_ro e85 ( bsB_p st.bkts s) rfl ?_ ?_ ?_ ?_) | (refine dcall_ro e85 ( bsB_p st.bkts s) rfl ?_ ?_ ?_ ?_) | (refine gdcall_ro rfl e85 ( bsB_p st.bkts s) rfl ?_ ?_ ?_ ?_) | (refine EndX.plain ?_) | (refine nil_split (fun hn=>?_) (fun hn=>?_)) | (refine gcall_no not_false ?_) | (refine gdcall_no not_false ?_) | (refine GuardS_of _ _ _ _ _ _ (fun hg=>?_) (fun hg=>?_)) | (refine GuardD_of _ _ _ _ (fun hg=>?_) (fun hg=>?_)) | (refine CondB_of _ _ _ _ _ _ _ ?_ (fun hg=>?_) (fun hg=>?_)))
  all_goals (try (first | ((first | unfold noN | unfold Fr.below | unfold Loc.below);simp [Fr.allN,AV.allN,AV.allNL,AO.allN];done) | rfl | trivial | assumption | (intro row hrow;simp only [List.mem_map] at hrow;obtain ⟨x,_,rfl⟩:=hrow;rfl) | (refine Wk.keep hcl ?_ ?_ ?_;(focus (simp [Fr.get,SttD.av,SttD.cells,ints]<;>fail));(focus (simp [sto,SttD.av,SttD.cells,ints]<;>fail));(focus (simp<;>fail))) | (simp [allP,opd,Fr.get,Fr.below,Fr.allN,AV.allN,AV.allNL,Loc.below,AO.allN,noN,killO,killT,killD,mkNames,AO.kill,AV.kill,AV.mapN,AV.mapNL];done) | (with_reducible exact ltD (by assumption)) | omega | (simp only [decide_eq_true_eq,decide_eq_false_iff_not] at *;omega)))
theorem version_p (st:SttD) (s:Int):Pure Try.prog 77 [st.av,I s] (.tup [I (bsP (cV st.vers s) st.vers.length),Bo (decide (bsP (cV st.vers s) st.vers.length < st.vers.length) && (cV st.vers s (bsP (cV st.vers s) st.vers.length) == 0))]):=by
  refine pure_of follows Try.func77 c77_eq r77 (Nat.le_of_ble_eq_true rfl) fun B σ hcl hsz=>?_
  clear hsz
  repeat' (first | (simp -implicitDefEqProofs only [*,Nat.reduceBEq,↓reduceIte,Nat.reduceEqDiff,Nat.reduceAdd,reduceCtorEq,AO.kill,AV.kill,Int.reduceLT,Int.reduceToNat,List.getElem?_nil,Nat.reduceMul,Nat.reducePow,Nat.reduceLeDiff,rowOf_mapD,rowOf_mapI,rowOf_mapA,List.getElem?_cons_zero,List.getElem?_cons_succ,take_map_len,take_map_app,List.getElem?_cons_zero,c77,r77,v77_1,u77_2,ty28,ty23,ty51,SttD.av,SttD.cells,ints,mvcgen_simp]) | (with_reducible refine And.intro ?_ ?_) | (refine call_ro e89 ( bsV_p st.vers s) rfl ?_ ?_ ?_ ?_) | (refine gcall_ro e89 ( bsV_p st.vers s) rfl ?_ ?_ ?_ ?_) | (refine dcall_ro e89 ( bsV_p st.vers s) rfl ?_ ?_ ?_ ?_) | (refine gdcall_ro rfl e89 ( bsV_p st.vers s) rfl ?_ ?_ ?_ ?_) | (refine EndX.plain ?_) | (refine nil_split (fun hn=>?_) (fun hn=>?_)) | (refine gcall_no not_false ?_) | (refine gdcall_no not_false ?_) | (refine GuardS_of _ _ _ _ _ _ (fun hg=>?_) (fun hg=>?_)) | (refine GuardD_of _ _ _ _ (fun hg=>?_) (fun hg=>?_)) | (refine CondB_of _ _ _ _ _ _ _ ?_ (fun hg=>?_) (fun hg=>?_)))
  all_goals (try (first | ((first | unfold noN | unfold Fr.below | unfold Loc.below);simp [Fr.allN,AV.allN,AV.allNL,AO.allN];done) | rfl | trivial | assumption | (intro row hrow;simp only [List.mem_map] at hrow;obtain ⟨x,_,rfl⟩:=hrow;rfl) | (refine Wk.keep hcl ?_ ?_ ?_;(focus (simp [Fr.get,SttD.av,SttD.cells,ints]<;>fail));(focus (simp [sto,SttD.av,SttD.cells,ints]<;>fail));(focus (simp<;>fail))) | (simp [allP,opd,Fr.get,Fr.below,Fr.allN,AV.allN,AV.allNL,Loc.below,AO.allN,noN,killO,killT,killD,mkNames,AO.kill,AV.kill,AV.mapN,AV.mapNL];done) | (with_reducible exact ltD (by assumption)) | omega | (simp only [decide_eq_true_eq,decide_eq_false_iff_not] at *;omega)))
end Go.Proofs.Ytijpmidnclbhpaa
