/- Searches in sorted lists. -/
import Derived.Test.YtikgiadbkjmabaaStD
import Derived.Test.YtikgiadbkjmabaaCmp
import Derived.Test.YtikgiadbkjmabaaTypes
namespace Go.Proofs.Ytikgiadbkjmabaa
open Go.RowKit
set_option maxRecDepth 100000
def c85_1:SC:=(.seq (.reg [SO.mk (some 5) (.faddr 54 (.tmp 2) 0) none,SO.mk (some 6) (.load 9 (.tmp 5)) none,SO.mk (some 7) (.move (.tmp 1)) none,SO.mk (some 8) (.call 29 [(.tmp 6),(.tmp 7)]) none,SO.mk (some 4) (.move (.tmp 8)) none]) (.keep [4] .ret))
theorem u85_1:type_of% (@swc _ _ c85_1.eq_1):=@swc _ _ c85_1.eq_1
def c85:SC:=(.seq (.reg [SO.mk (some 2) (.box 54 (.tmp 0)) none,SO.mk (some 4) (.move (.const (Value.int .i64 0))) none]) (.keep [2,1] c85_1))
theorem c85_eq:annC Try.f85 = some c85:=by kernel_rfl
theorem r85:Try.f85.results.toList = [.tmp 4]:=by kernel_rfl
theorem e85:enters Try.prog 85 = true:=by kernel_rfl
def c84_1:SC:=(.cond (.tmp 17) .skip (.exit 0))
theorem u84_1:type_of% (@swc _ _ c84_1.eq_1):=@swc _ _ c84_1.eq_1
def o84_2:List SO:=((SO.mk (some 22) (.bin .shr 77 (.tmp 21) (.const (Value.int .u64 1))) none) :: (SO.mk (some 23) (.conv 77 3 (.tmp 22)) none) :: (SO.mk (some 11) (.move (.tmp 23)) none) :: [])
theorem v84_2:type_of% (@swl _ _ o84_2.eq_1):=@swl _ _ o84_2.eq_1
def o84_3:List SO:=((SO.mk (some 28) (.load 54 (.tmp 27)) none) :: (SO.mk (some 29) (.move (.tmp 1)) none) :: (SO.mk (some 30) (.callv (.tmp 24) [(.tmp 28),(.tmp 29)]) none) :: (SO.mk (some 31) (.bin .lss 3 (.tmp 30) (.const (Value.int .i64 0))) none) :: [])
theorem v84_3:type_of% (@swl _ _ o84_3.eq_1):=@swl _ _ o84_3.eq_1
def c84_4:SC:=(.reg [SO.mk (some 32) (.move (.tmp 11)) none,SO.mk (some 33) (.bin .add 3 (.tmp 32) (.const (Value.int .i64 1))) none,SO.mk (some 9) (.move (.tmp 33)) none])
theorem u84_4:type_of% (@swc _ _ c84_4.eq_1):=@swc _ _ c84_4.eq_1
def c84_5:SC:=(.reg [SO.mk (some 34) (.move (.tmp 11)) none,SO.mk (some 10) (.move (.tmp 34)) none])
theorem u84_5:type_of% (@swc _ _ c84_5.eq_1):=@swc _ _ c84_5.eq_1
def c84_6:SC:=(.cond (.tmp 31) c84_4 c84_5)
theorem u84_6:type_of% (@swc _ _ c84_6.eq_1):=@swc _ _ c84_6.eq_1
def c84_7:SC:=(.seq (.reg ((SO.mk (some 24) (.move (.tmp 2)) none) :: (SO.mk (some 25) (.move (.tmp 0)) none) :: (SO.mk (some 26) (.move (.tmp 11)) none) :: (SO.mk (some 27) (.iaddr 22 (.tmp 25) (.tmp 26)) none) :: o84_3)) (.keep [31,10,11,8,2,0,9,1] c84_6))
theorem u84_7:type_of% (@swc _ _ c84_7.eq_1):=@swc _ _ c84_7.eq_1
def c84_8:SC:=(.block 1 (.seq (.reg ((SO.mk (some 18) (.move (.tmp 9)) none) :: (SO.mk (some 19) (.move (.tmp 10)) none) :: (SO.mk (some 20) (.bin .add 3 (.tmp 18) (.tmp 19)) none) :: (SO.mk (some 21) (.conv 3 77 (.tmp 20)) none) :: o84_2)) (.keep [10,11,8,2,0,9,1] c84_7)))
theorem u84_8:type_of% (@swc _ _ c84_8.eq_1):=@swc _ _ c84_8.eq_1
def c84_9:SC:=(.seq (.seq (.reg [SO.mk (some 15) (.move (.tmp 9)) none,SO.mk (some 16) (.move (.tmp 10)) none,SO.mk (some 17) (.bin .lss 3 (.tmp 15) (.tmp 16)) none]) (.keep [17,10,8,2,0,9,1] c84_1)) (.keep [10,8,2,0,9,1] c84_8))
theorem u84_9:type_of% (@swc _ _ c84_9.eq_1):=@swc _ _ c84_9.eq_1
def o84_10:List SO:=((SO.mk (some 47) (.bin .eql 3 (.tmp 46) (.const (Value.int .i64 0))) (some (39 ,true))) :: (SO.mk (some 48) (.pick (.tmp 39) (.tmp 47) (.const (Value.bool false))) none) :: (SO.mk (some 6) (.move (.tmp 35)) none) :: (SO.mk (some 7) (.move (.tmp 48)) none) :: [])
theorem v84_10:type_of% (@swl _ _ o84_10.eq_1):=@swl _ _ o84_10.eq_1
def o84_11:List SO:=((SO.mk (some 43) (.iaddr 22 (.tmp 41) (.tmp 42)) (some (39 ,true))) :: (SO.mk (some 44) (.load 54 (.tmp 43)) (some (39 ,true))) :: (SO.mk (some 45) (.move (.tmp 1)) (some (39 ,true))) :: (SO.mk (some 46) (.callv (.tmp 40) [(.tmp 44),(.tmp 45)]) (some (39 ,true))) :: o84_10)
theorem v84_11:type_of% (@swl _ _ o84_11.eq_1):=@swl _ _ o84_11.eq_1
def o84_12:List SO:=((SO.mk (some 39) (.move (.tmp 38)) none) :: (SO.mk (some 40) (.move (.tmp 2)) (some (39 ,true))) :: (SO.mk (some 41) (.move (.tmp 0)) (some (39 ,true))) :: (SO.mk (some 42) (.move (.tmp 9)) (some (39 ,true))) :: o84_11)
theorem v84_12:type_of% (@swl _ _ o84_12.eq_1):=@swl _ _ o84_12.eq_1
def c84_13:SC:=(.seq (.reg ((SO.mk (some 35) (.move (.tmp 9)) none) :: (SO.mk (some 36) (.move (.tmp 9)) none) :: (SO.mk (some 37) (.move (.tmp 8)) none) :: (SO.mk (some 38) (.bin .lss 3 (.tmp 36) (.tmp 37)) none) :: o84_12)) (.keep [6,7] .ret))
theorem u84_13:type_of% (@swc _ _ c84_13.eq_1):=@swc _ _ c84_13.eq_1
def c84_14:SC:=(.seq (.block 0 (.loop (.keep [10,8,2,0,9,1] c84_9))) (.keep [8,2,0,9,1] c84_13))
theorem u84_14:type_of% (@swc _ _ c84_14.eq_1):=@swc _ _ c84_14.eq_1
def c84_15:SC:=(.seq (.reg [SO.mk (some 14) (.move (.tmp 8)) none,SO.mk (some 9) (.move (.const (Value.int .i64 0))) none,SO.mk (some 10) (.move (.tmp 14)) none]) (.keep [10,8,2,0,9,1] c84_14))
theorem u84_15:type_of% (@swc _ _ c84_15.eq_1):=@swc _ _ c84_15.eq_1
def c84_16:SC:=(.seq (.reg [SO.mk (some 12) (.move (.tmp 0)) none,SO.mk (some 13) (.len 22 (.tmp 12)) none,SO.mk (some 8) (.move (.tmp 13)) none]) (.keep [8,2,0,1] c84_15))
theorem u84_16:type_of% (@swc _ _ c84_16.eq_1):=@swc _ _ c84_16.eq_1
def c84:SC:=(.seq (.reg [SO.mk (some 6) (.move (.const (Value.int .i64 0))) none,SO.mk (some 7) (.move (.const (Value.bool false))) none]) (.keep [2,0,1] c84_16))
theorem c84_eq:annC Try.f84 = some c84:=by kernel_rfl
theorem r84:Try.f84.results.toList = [.tmp 6,.tmp 7]:=by kernel_rfl
theorem e84:enters Try.prog 84 = true:=by kernel_rfl
def c48_1:SC:=(.seq (.reg [SO.mk (some 3) (.move (.tmp 0)) none,SO.mk (some 4) (.move (.tmp 0)) none,SO.mk (some 5) (.bin .neq 3 (.tmp 3) (.tmp 4)) none,SO.mk (some 2) (.move (.tmp 5)) none]) (.keep [2] .ret))
theorem u48_1:type_of% (@swc _ _ c48_1.eq_1):=@swc _ _ c48_1.eq_1
def c48:SC:=(.seq (.reg [SO.mk (some 2) (.move (.const (Value.bool false))) none]) (.keep [0] c48_1))
theorem c48_eq:annC Try.f48 = some c48:=by kernel_rfl
theorem r48:Try.f48.results.toList = [.tmp 2]:=by kernel_rfl
theorem e48:enters Try.prog 48 = true:=by kernel_rfl
def c30_1:SC:=(.seq (.reg [SO.mk (some 4) (.move (.const (Value.int .i64 0))) none]) (.keep [4] .ret))
theorem u30_1:type_of% (@swc _ _ c30_1.eq_1):=@swc _ _ c30_1.eq_1
def c30_2:SC:=(.cond (.tmp 12) c30_1 .skip)
theorem u30_2:type_of% (@swc _ _ c30_2.eq_1):=@swc _ _ c30_2.eq_1
def c30_3:SC:=(.seq (.reg [SO.mk (some 4) (.move (.const (Value.int .i64 (-1)))) none]) (.keep [4] .ret))
theorem u30_3:type_of% (@swc _ _ c30_3.eq_1):=@swc _ _ c30_3.eq_1
def c30_4:SC:=(.seq (.seq (.reg [SO.mk (some 12) (.move (.tmp 6)) none]) (.keep [12] c30_2)) (.keep [] c30_3))
theorem u30_4:type_of% (@swc _ _ c30_4.eq_1):=@swc _ _ c30_4.eq_1
def c30_5:SC:=(.cond (.tmp 11) c30_4 .skip)
theorem u30_5:type_of% (@swc _ _ c30_5.eq_1):=@swc _ _ c30_5.eq_1
def c30_6:SC:=(.seq (.reg [SO.mk (some 4) (.move (.const (Value.int .i64 1))) none]) (.keep [4] .ret))
theorem u30_6:type_of% (@swc _ _ c30_6.eq_1):=@swc _ _ c30_6.eq_1
def c30_7:SC:=(.cond (.tmp 13) c30_6 .skip)
theorem u30_7:type_of% (@swc _ _ c30_7.eq_1):=@swc _ _ c30_7.eq_1
def c30_8:SC:=(.seq (.reg [SO.mk (some 4) (.move (.const (Value.int .i64 (-1)))) none]) (.keep [4] .ret))
theorem u30_8:type_of% (@swc _ _ c30_8.eq_1):=@swc _ _ c30_8.eq_1
def c30_9:SC:=(.cond (.tmp 16) c30_8 .skip)
theorem u30_9:type_of% (@swc _ _ c30_9.eq_1):=@swc _ _ c30_9.eq_1
def c30_10:SC:=(.seq (.reg [SO.mk (some 4) (.move (.const (Value.int .i64 1))) none]) (.keep [4] .ret))
theorem u30_10:type_of% (@swc _ _ c30_10.eq_1):=@swc _ _ c30_10.eq_1
def c30_11:SC:=(.cond (.tmp 19) c30_10 .skip)
theorem u30_11:type_of% (@swc _ _ c30_11.eq_1):=@swc _ _ c30_11.eq_1
def c30_12:SC:=(.seq (.reg [SO.mk (some 4) (.move (.const (Value.int .i64 0))) none]) (.keep [4] .ret))
theorem u30_12:type_of% (@swc _ _ c30_12.eq_1):=@swc _ _ c30_12.eq_1
def c30_13:SC:=(.seq (.seq (.reg [SO.mk (some 17) (.move (.tmp 0)) none,SO.mk (some 18) (.move (.tmp 1)) none,SO.mk (some 19) (.bin .gtr 3 (.tmp 17) (.tmp 18)) none]) (.keep [19] c30_11)) (.keep [] c30_12))
theorem u30_13:type_of% (@swc _ _ c30_13.eq_1):=@swc _ _ c30_13.eq_1
def c30_14:SC:=(.seq (.seq (.reg [SO.mk (some 14) (.move (.tmp 0)) none,SO.mk (some 15) (.move (.tmp 1)) none,SO.mk (some 16) (.bin .lss 3 (.tmp 14) (.tmp 15)) none]) (.keep [16,0,1] c30_9)) (.keep [0,1] c30_13))
theorem u30_14:type_of% (@swc _ _ c30_14.eq_1):=@swc _ _ c30_14.eq_1
def c30_15:SC:=(.seq (.seq (.reg [SO.mk (some 13) (.move (.tmp 6)) none]) (.keep [13,0,1] c30_7)) (.keep [0,1] c30_14))
theorem u30_15:type_of% (@swc _ _ c30_15.eq_1):=@swc _ _ c30_15.eq_1
def c30_16:SC:=(.seq (.seq (.reg [SO.mk (some 11) (.move (.tmp 5)) none]) (.keep [11,6,0,1] c30_5)) (.keep [6,0,1] c30_15))
theorem u30_16:type_of% (@swc _ _ c30_16.eq_1):=@swc _ _ c30_16.eq_1
def c30_17:SC:=(.seq (.reg [SO.mk (some 9) (.move (.tmp 1)) none,SO.mk (some 10) (.call 48 [(.tmp 9)]) none,SO.mk (some 6) (.move (.tmp 10)) none]) (.keep [5,6,0,1] c30_16))
theorem u30_17:type_of% (@swc _ _ c30_17.eq_1):=@swc _ _ c30_17.eq_1
def c30_18:SC:=(.seq (.reg [SO.mk (some 7) (.move (.tmp 0)) none,SO.mk (some 8) (.call 48 [(.tmp 7)]) none,SO.mk (some 5) (.move (.tmp 8)) none]) (.keep [5,0,1] c30_17))
theorem u30_18:type_of% (@swc _ _ c30_18.eq_1):=@swc _ _ c30_18.eq_1
def c30:SC:=(.seq (.reg [SO.mk (some 4) (.move (.const (Value.int .i64 0))) none]) (.keep [0,1] c30_18))
theorem c30_eq:annC Try.f30 = some c30:=by kernel_rfl
theorem r30:Try.f30.results.toList = [.tmp 4]:=by kernel_rfl
theorem e30:enters Try.prog 30 = true:=by kernel_rfl
def c88_1:SC:=(.seq (.reg [SO.mk (some 5) (.faddr 41 (.tmp 2) 0) none,SO.mk (some 6) (.load 3 (.tmp 5)) none,SO.mk (some 7) (.move (.tmp 1)) none,SO.mk (some 8) (.call 30 [(.tmp 6),(.tmp 7)]) none,SO.mk (some 4) (.move (.tmp 8)) none]) (.keep [4] .ret))
theorem u88_1:type_of% (@swc _ _ c88_1.eq_1):=@swc _ _ c88_1.eq_1
def c88:SC:=(.seq (.reg [SO.mk (some 2) (.box 41 (.tmp 0)) none,SO.mk (some 4) (.move (.const (Value.int .i64 0))) none]) (.keep [2,1] c88_1))
theorem c88_eq:annC Try.f88 = some c88:=by kernel_rfl
theorem r88:Try.f88.results.toList = [.tmp 4]:=by kernel_rfl
theorem e88:enters Try.prog 88 = true:=by kernel_rfl
def c87_1:SC:=(.cond (.tmp 17) .skip (.exit 0))
theorem u87_1:type_of% (@swc _ _ c87_1.eq_1):=@swc _ _ c87_1.eq_1
def o87_2:List SO:=((SO.mk (some 22) (.bin .shr 77 (.tmp 21) (.const (Value.int .u64 1))) none) :: (SO.mk (some 23) (.conv 77 3 (.tmp 22)) none) :: (SO.mk (some 11) (.move (.tmp 23)) none) :: [])
theorem v87_2:type_of% (@swl _ _ o87_2.eq_1):=@swl _ _ o87_2.eq_1
def o87_3:List SO:=((SO.mk (some 28) (.load 41 (.tmp 27)) none) :: (SO.mk (some 29) (.move (.tmp 1)) none) :: (SO.mk (some 30) (.callv (.tmp 24) [(.tmp 28),(.tmp 29)]) none) :: (SO.mk (some 31) (.bin .lss 3 (.tmp 30) (.const (Value.int .i64 0))) none) :: [])
theorem v87_3:type_of% (@swl _ _ o87_3.eq_1):=@swl _ _ o87_3.eq_1
def c87_4:SC:=(.reg [SO.mk (some 32) (.move (.tmp 11)) none,SO.mk (some 33) (.bin .add 3 (.tmp 32) (.const (Value.int .i64 1))) none,SO.mk (some 9) (.move (.tmp 33)) none])
theorem u87_4:type_of% (@swc _ _ c87_4.eq_1):=@swc _ _ c87_4.eq_1
def c87_5:SC:=(.reg [SO.mk (some 34) (.move (.tmp 11)) none,SO.mk (some 10) (.move (.tmp 34)) none])
theorem u87_5:type_of% (@swc _ _ c87_5.eq_1):=@swc _ _ c87_5.eq_1
def c87_6:SC:=(.cond (.tmp 31) c87_4 c87_5)
theorem u87_6:type_of% (@swc _ _ c87_6.eq_1):=@swc _ _ c87_6.eq_1
def c87_7:SC:=(.seq (.reg ((SO.mk (some 24) (.move (.tmp 2)) none) :: (SO.mk (some 25) (.move (.tmp 0)) none) :: (SO.mk (some 26) (.move (.tmp 11)) none) :: (SO.mk (some 27) (.iaddr 23 (.tmp 25) (.tmp 26)) none) :: o87_3)) (.keep [31,10,11,8,2,0,9,1] c87_6))
theorem u87_7:type_of% (@swc _ _ c87_7.eq_1):=@swc _ _ c87_7.eq_1
def c87_8:SC:=(.block 1 (.seq (.reg ((SO.mk (some 18) (.move (.tmp 9)) none) :: (SO.mk (some 19) (.move (.tmp 10)) none) :: (SO.mk (some 20) (.bin .add 3 (.tmp 18) (.tmp 19)) none) :: (SO.mk (some 21) (.conv 3 77 (.tmp 20)) none) :: o87_2)) (.keep [10,11,8,2,0,9,1] c87_7)))
theorem u87_8:type_of% (@swc _ _ c87_8.eq_1):=@swc _ _ c87_8.eq_1
def c87_9:SC:=(.seq (.seq (.reg [SO.mk (some 15) (.move (.tmp 9)) none,SO.mk (some 16) (.move (.tmp 10)) none,SO.mk (some 17) (.bin .lss 3 (.tmp 15) (.tmp 16)) none]) (.keep [17,10,8,2,0,9,1] c87_1)) (.keep [10,8,2,0,9,1] c87_8))
theorem u87_9:type_of% (@swc _ _ c87_9.eq_1):=@swc _ _ c87_9.eq_1
def o87_10:List SO:=((SO.mk (some 47) (.bin .eql 3 (.tmp 46) (.const (Value.int .i64 0))) (some (39 ,true))) :: (SO.mk (some 48) (.pick (.tmp 39) (.tmp 47) (.const (Value.bool false))) none) :: (SO.mk (some 6) (.move (.tmp 35)) none) :: (SO.mk (some 7) (.move (.tmp 48)) none) :: [])
theorem v87_10:type_of% (@swl _ _ o87_10.eq_1):=@swl _ _ o87_10.eq_1
def o87_11:List SO:=((SO.mk (some 43) (.iaddr 23 (.tmp 41) (.tmp 42)) (some (39 ,true))) :: (SO.mk (some 44) (.load 41 (.tmp 43)) (some (39 ,true))) :: (SO.mk (some 45) (.move (.tmp 1)) (some (39 ,true))) :: (SO.mk (some 46) (.callv (.tmp 40) [(.tmp 44),(.tmp 45)]) (some (39 ,true))) :: o87_10)
theorem v87_11:type_of% (@swl _ _ o87_11.eq_1):=@swl _ _ o87_11.eq_1
def o87_12:List SO:=((SO.mk (some 39) (.move (.tmp 38)) none) :: (SO.mk (some 40) (.move (.tmp 2)) (some (39 ,true))) :: (SO.mk (some 41) (.move (.tmp 0)) (some (39 ,true))) :: (SO.mk (some 42) (.move (.tmp 9)) (some (39 ,true))) :: o87_11)
theorem v87_12:type_of% (@swl _ _ o87_12.eq_1):=@swl _ _ o87_12.eq_1
def c87_13:SC:=(.seq (.reg ((SO.mk (some 35) (.move (.tmp 9)) none) :: (SO.mk (some 36) (.move (.tmp 9)) none) :: (SO.mk (some 37) (.move (.tmp 8)) none) :: (SO.mk (some 38) (.bin .lss 3 (.tmp 36) (.tmp 37)) none) :: o87_12)) (.keep [6,7] .ret))
theorem u87_13:type_of% (@swc _ _ c87_13.eq_1):=@swc _ _ c87_13.eq_1
def c87_14:SC:=(.seq (.block 0 (.loop (.keep [10,8,2,0,9,1] c87_9))) (.keep [8,2,0,9,1] c87_13))
theorem u87_14:type_of% (@swc _ _ c87_14.eq_1):=@swc _ _ c87_14.eq_1
def c87_15:SC:=(.seq (.reg [SO.mk (some 14) (.move (.tmp 8)) none,SO.mk (some 9) (.move (.const (Value.int .i64 0))) none,SO.mk (some 10) (.move (.tmp 14)) none]) (.keep [10,8,2,0,9,1] c87_14))
theorem u87_15:type_of% (@swc _ _ c87_15.eq_1):=@swc _ _ c87_15.eq_1
def c87_16:SC:=(.seq (.reg [SO.mk (some 12) (.move (.tmp 0)) none,SO.mk (some 13) (.len 23 (.tmp 12)) none,SO.mk (some 8) (.move (.tmp 13)) none]) (.keep [8,2,0,1] c87_15))
theorem u87_16:type_of% (@swc _ _ c87_16.eq_1):=@swc _ _ c87_16.eq_1
def c87:SC:=(.seq (.reg [SO.mk (some 6) (.move (.const (Value.int .i64 0))) none,SO.mk (some 7) (.move (.const (Value.bool false))) none]) (.keep [2,0,1] c87_16))
theorem c87_eq:annC Try.f87 = some c87:=by kernel_rfl
theorem r87:Try.f87.results.toList = [.tmp 6,.tmp 7]:=by kernel_rfl
theorem e87:enters Try.prog 87 = true:=by kernel_rfl
def o62_1:List SO:=((SO.mk (some 10) (.extract (.tmp 9) 0) none) :: (SO.mk (some 11) (.extract (.tmp 9) 1) none) :: (SO.mk (some 4) (.move (.tmp 10)) none) :: (SO.mk (some 5) (.move (.tmp 11)) none) :: [])
theorem v62_1:type_of% (@swl _ _ o62_1.eq_1):=@swl _ _ o62_1.eq_1
def c62_2:SC:=(.seq (.reg ((SO.mk (some 6) (.faddr 28 (.tmp 2) 2) none) :: (SO.mk (some 7) (.load 22 (.tmp 6)) none) :: (SO.mk (some 8) (.move (.tmp 1)) none) :: (SO.mk (some 9) (.call 84 [(.tmp 7),(.tmp 8),(.func 85)]) none) :: o62_1)) (.keep [4,5] .ret))
theorem u62_2:type_of% (@swc _ _ c62_2.eq_1):=@swc _ _ c62_2.eq_1
def c62:SC:=(.seq (.reg [SO.mk (some 2) (.box 28 (.tmp 0)) none,SO.mk (some 4) (.move (.const (Value.int .i64 0))) none,SO.mk (some 5) (.move (.const (Value.bool false))) none]) (.keep [2,1] c62_2))
theorem c62_eq:annC Try.f62 = some c62:=by kernel_rfl
theorem r62:Try.f62.results.toList = [.tmp 4,.tmp 5]:=by kernel_rfl
theorem e62:enters Try.prog 62 = true:=by kernel_rfl
def o65_1:List SO:=((SO.mk (some 10) (.extract (.tmp 9) 0) none) :: (SO.mk (some 11) (.extract (.tmp 9) 1) none) :: (SO.mk (some 4) (.move (.tmp 10)) none) :: (SO.mk (some 5) (.move (.tmp 11)) none) :: [])
theorem v65_1:type_of% (@swl _ _ o65_1.eq_1):=@swl _ _ o65_1.eq_1
def c65_2:SC:=(.seq (.reg ((SO.mk (some 6) (.faddr 28 (.tmp 2) 3) none) :: (SO.mk (some 7) (.load 23 (.tmp 6)) none) :: (SO.mk (some 8) (.move (.tmp 1)) none) :: (SO.mk (some 9) (.call 87 [(.tmp 7),(.tmp 8),(.func 88)]) none) :: o65_1)) (.keep [4,5] .ret))
theorem u65_2:type_of% (@swc _ _ c65_2.eq_1):=@swc _ _ c65_2.eq_1
def c65:SC:=(.seq (.reg [SO.mk (some 2) (.box 28 (.tmp 0)) none,SO.mk (some 4) (.move (.const (Value.int .i64 0))) none,SO.mk (some 5) (.move (.const (Value.bool false))) none]) (.keep [2,1] c65_2))
theorem c65_eq:annC Try.f65 = some c65:=by kernel_rfl
theorem r65:Try.f65.results.toList = [.tmp 4,.tmp 5]:=by kernel_rfl
theorem e65:enters Try.prog 65 = true:=by kernel_rfl
end Go.Proofs.Ytikgiadbkjmabaa
namespace Go.Proofs.Ytikgiadbkjmabaa
open Go.RowKit
set_option maxHeartbeats 4000000
set_option maxRecDepth 20000
attribute [local irreducible] SW OSW SWL SWLn SWD SEcall SEcallv SDv SE SO1 SOg ACalls ACallv Wk EndV
set_option linter.unusedSimpArgs false
set_option linter.unusedVariables false
def bsS (c:Nat → Int) (p:Nat × Nat):Nat × Nat:=if p.1 < p.2 then (if c ((p.1 + p.2) / 2) < 0 then ((p.1 + p.2) / 2 + 1,p.2) else (p.1,(p.1 + p.2) / 2)) else p
def bsK (c:Nat → Int) (n:Nat):Nat → Nat × Nat
  | 0=>(0,n)
  | k + 1=>bsS c (bsK c n k)
def bsP (c:Nat → Int) (n:Nat):Nat:=(bsK c n n).1
theorem bsK_ok (c:Nat → Int) (n:Nat):∀ k,(bsK c n k).1 ≤ (bsK c n k).2 ∧ (bsK c n k).2 ≤ n ∧ (bsK c n k).2 - (bsK c n k).1 ≤ n - k
  | 0=>⟨Nat.zero_le _,Nat.le_refl _,Nat.le_refl _⟩
  | k + 1=>by
    obtain ⟨h1,h2,h3⟩:=bsK_ok c n k
    simp only [bsK,bsS]
    split
    · split<;>simp only<;>omega
    · exact ⟨h1,h2,by omega⟩
theorem bsK_done {c:Nat → Int} {n k:Nat} (h:(bsK c n k).1 = (bsK c n k).2):∀ j,bsK c n (k + j) = bsK c n k
  | 0=>rfl
  | j + 1=>by
    rw [← Nat.add_assoc,bsK,bsK_done h j,bsS,if_neg (by omega)]
theorem bsP_eq {c:Nat → Int} {n k:Nat} (hk:k ≤ n) (h:¬ (bsK c n k).1 < (bsK c n k).2):bsP c n = (bsK c n k).1:=by
  have:=(bsK_ok c n k).1
  have e:=bsK_done (show (bsK c n k).1 = (bsK c n k).2 by omega) (n - k)
  rw [show k + (n - k) = n by omega] at e
  unfold bsP;rw [e]
theorem bs_half (i j:Nat) (hi:i ≤ 2 ^ 47) (hj:j ≤ 2 ^ 47):IntKind.i64.wrap ((IntKind.u64.wrap (IntKind.i64.wrap ((i:Int) + j))).fdiv (2 ^ min 1 IntKind.u64.bits)) = (((i + j) / 2:Nat):Int):=by
  have e1:IntKind.i64.wrap ((i:Int) + j) = (i:Int) + j:=IntWalk.i64_in _ (by omega)
  have e2:IntKind.u64.wrap ((i:Int) + j) = (i:Int) + j:=by simp [IntKind.wrap,IntKind.bits,IntKind.signed];omega
  have e3:((2:Int) ^ min 1 IntKind.u64.bits) = 2:=by decide
  have e4:((i:Int) + j).fdiv 2 = (((i + j) / 2:Nat):Int):=by rw [Int.fdiv_eq_ediv_of_nonneg _ (by omega)];omega
  rw [e1,e2,e3,e4]
  exact IntWalk.i64_in _ (by omega)
theorem bucketF_p (b:BktD) (s:ByteArray):Pure Try.prog 85 [.agg (b.row.map .d),.d (.v (.string s))] (I (cmpB b.name s)):=by
  refine pure_of follows Try.func85 c85_eq r85 (Nat.le_of_ble_eq_true rfl) fun B σ hcl hsz=>?_
  clear hsz
  repeat' (first | (simp -implicitDefEqProofs only [*,Nat.reduceBEq,↓reduceIte,Nat.reduceEqDiff,Nat.reduceAdd,reduceCtorEq,AO.kill,Int.reduceLT,Int.reduceToNat,List.getElem?_nil,Nat.reduceMul,Nat.reducePow,Nat.reduceLeDiff,rowOf_mapD,rowOf_mapI,rowOf_mapA,List.getElem?_cons_zero,List.getElem?_cons_succ,take_map_len,take_map_app,List.getElem?_cons_zero,c85,r85,u85_1,ty54,ty9,BktD.row,mvcgen_simp]) | (with_reducible refine And.intro ?_ ?_) | (refine call_ro e29 ( cmp_p b.name s) rfl ?_ ?_ ?_ ?_) | (refine gcall_ro e29 ( cmp_p b.name s) rfl ?_ ?_ ?_ ?_) | (refine dcall_ro e29 ( cmp_p b.name s) rfl ?_ ?_ ?_ ?_) | (refine gdcall_ro rfl e29 ( cmp_p b.name s) rfl ?_ ?_ ?_ ?_) | (refine EndX.plain ?_) | (refine nil_split (fun hn=>?_) (fun hn=>?_)) | (refine gcall_no not_false ?_) | (refine gdcall_no not_false ?_) | (refine GuardS_of _ _ _ _ _ _ (fun hg=>?_) (fun hg=>?_)) | (refine GuardD_of _ _ _ _ (fun hg=>?_) (fun hg=>?_)) | (refine CondB_of _ _ _ _ _ _ _ ?_ (fun hg=>?_) (fun hg=>?_)))
  all_goals (try (first | ((first | unfold noN | unfold Fr.below | unfold Loc.below);simp [Fr.allN,AV.allN,AV.allNL,AO.allN];done) | rfl | trivial | assumption | (intro row hrow;simp only [List.mem_map] at hrow;obtain ⟨x,_,rfl⟩:=hrow;rfl) | (refine Wk.keep hcl ?_ ?_ ?_;(focus (simp [Fr.get,BktD.row]<;>fail));(focus (simp [sto,BktD.row]<;>fail));(focus (simp<;>fail))) | (simp [allP,opd,Fr.get,Fr.below,Fr.allN,AV.allN,AV.allNL,Loc.below,AO.allN,noN,killO,killT,killD,mkNames,AO.kill,AV.kill,AV.mapN,AV.mapNL];done) | (with_reducible exact ltD (by assumption)) | omega | (simp only [decide_eq_true_eq,decide_eq_false_iff_not] at *;omega)))
def cB (l:List BktD) (s:ByteArray) (k:Nat):Int:=cmpB l[k]!.name s
theorem bsB_p (l:List BktD) (s:ByteArray):Pure Try.prog 84 [.d (.ro (l.map BktD.row)),.d (.v (.string s)),.clo (.func 85) [] []] (.tup [I (bsP (cB l s) l.length),Bo (decide (bsP (cB l s) l.length < l.length) && (cB l s (bsP (cB l s) l.length) == 0))]):=by
  refine pure_of follows Try.func84 c84_eq r84 (Nat.le_of_ble_eq_true rfl) fun B σ hcl hsz=>?_
  have hlen:l.length ≤ 2 ^ 47:=by simpa using (show Sized (.ro (l.map BktD.row)) from hsz (.d (.ro (l.map BktD.row))) (by simp)).len
  clear hsz
  simp -implicitDefEqProofs only [contN,contC,Nat.reduceBEq,Bool.or_false,Bool.or_true,Bool.false_or,Bool.true_or,Bool.not_true,Bool.not_false,SEconv,w_skip,w_ret,w_exit,w_reg,w_dreg,w_oreg,HO_app,w_odone,w_onil,w_ofst,w_obr,w_seq,SK_n,SK_r,SK_x,w_keep,w_block,w_cond,w_nil,w_cons,w_consg,w_nnil,w_ncons,w_dnil,w_dcons,w_dconsg,HK_app,HD_app,HQ_n,HQ_r,HQ_x,HQ_bn,HQ_br,HQ_bx,HQ_en,HQ_er,HQ_ex,CondB_true,CondB_false,SO1,w_sdv,SDe_alloc,SDe_box,SDe_bslice,SDe_app,true_imp_iff,false_imp_iff,and_false,false_and,not_false_eq_true,not_true_eq_false,addN,mkNames,killT,killD,killO,List.foldl_nil,List.foldl_cons,List.append_nil,List.nil_append,List.cons_append,GuardS_true,GuardS_false,GuardD_true,GuardD_false,DK_true,DK_false,lt_self_add,le_self_add,decide_true,decide_false,Bool.false_eq_true,Bool.true_eq_false,Nat.add_left_cancel_iff,SE,SEalloc,SEbox,SEstore,w_bs,SEbl,SEfz,SEbs0,fzName,osOf,AV.fz1,w_app,w_mk,aev,opd,Fr.get,putO,Fr.norm,List.map_cons,List.map_nil,with1,with2,onInt,AV.lit,entry,↓reduceIte,Nat.reduceEqDiff,Nat.reduceAdd,reduceCtorEq,true_and,and_true,Option.map_some,Option.map_none,Option.bind_some,Option.bind_none,cond_true,cond_false,binV,unV,fieldV,loadV,sto,cellsAV,newF,newL,Fr.map,Loc.kill,Loc.set,AO.kill,AV.kill,AV.mapN,AV.mapNL,List.filter_nil,List.filter_cons,allP,EndV,retV,resV,resL,frz,dropL,AV.pick,nilV,tupV,imp_self,ne_eq,Int.cast_ofNat_Int,Int.reduceLT,Int.reduceToNat,List.getD_cons_zero,List.getD_cons_succ,bsliceV,buildV,afill,repl,chunk,rvs,AV.rv,RV.nrm,List.getElem?_nil,List.append_assoc,Nat.reduceMul,Nat.reducePow,Nat.zero_lt_succ,Nat.zero_add,Nat.add_zero,List.length_cons,List.length_nil,Nat.reduceLeDiff,Nat.le_refl,List.take_succ_cons,List.take_zero,List.drop_succ_cons,List.drop_zero,indexV,lenV,rowOf_mapD,rowOf_mapI,rowOf_mapA,List.length_map,Int.toNat_natCast,List.getElem?_cons_zero,List.getElem?_cons_succ,and_self,implies_true,if_true,if_false,HQ_zn,HQ_zr,HQ_wn,HQ_wr,AV.nz,AV.nzL,RV.nrm,SEbin,SEnil,nilK,srcV,dstV,appName,List.length_append,Nat.mul_one,take_map_len,take_map_app,List.getElem?_cons_zero,List.map_append,SEmkmap,SEmset,mgetV,kvOf,getM,setM,w_bsH,SEapA,SEapB,bsliceA,SEclr,nilIn,nilIn.nilC,c84,r84,u84_1,v84_2,v84_3,u84_4,u84_5,u84_6,u84_7,u84_8,u84_9,v84_10,v84_11,v84_12,u84_13,u84_14,u84_15,u84_16,ty22,ty3,ty77,ty54]
  refine loop_nat l.length (fun k=>True) (fun k=>[(2,.clo (.func 85) [] []),(0,.d (.ro (l.map BktD.row))),(1,.d (.v (.string s))),(8,I l.length),(9,I (bsK (cB l s) l.length k).1),(10,I (bsK (cB l s) l.length k).2)]) (fun k=>[]) trivial (Wk.keep hcl (by simp [Fr.get,bsK]) (by simp) (by simp)) fun k hk hF=>?_
  obtain ⟨h1,h2,h3⟩:=bsK_ok (cB l s) l.length k
  generalize hb:bsK (cB l s) l.length k = p at h1 h2 h3
  obtain ⟨i,j⟩:=p
  simp only at h1 h2 h3
  have hh:=bs_half i j (by omega) (by omega)
  have hw:IntKind.i64.wrap ((((i + j) / 2:Nat):Int) + 1) = (((i + j) / 2:Nat):Int) + 1:=IntWalk.i64_in _ (by omega)
  have hlt:i < j → ((i + j) / 2 < l.length ∧ i < l.length):=fun h=>by omega
  have hrow:decide ((i:Int) < (j:Int)) = true → rowOf (l.map BktD.row) ((i + j) / 2) = BktD.row l[(i + j) / 2]!:=fun h=>by
    have h0:i < j:=by simpa using h
    exact rowOf_mapD _ _ _ (decide_eq_true (by omega))
  repeat' (first | (simp -implicitDefEqProofs only [*,Nat.reduceBEq,↓reduceIte,Nat.reduceEqDiff,Nat.reduceAdd,reduceCtorEq,AO.kill,Int.reduceLT,Int.reduceToNat,List.getElem?_nil,Nat.reduceMul,Nat.reducePow,Nat.reduceLeDiff,rowOf_mapD,rowOf_mapI,rowOf_mapA,List.getElem?_cons_zero,List.getElem?_cons_succ,take_map_len,take_map_app,List.getElem?_cons_zero,c84,r84,u84_1,v84_2,v84_3,u84_4,u84_5,u84_6,u84_7,u84_8,u84_9,v84_10,v84_11,v84_12,u84_13,u84_14,u84_15,u84_16,ty22,ty3,ty77,ty54,BktD.row,hb,convV,mvcgen_simp]) | (with_reducible refine And.intro ?_ ?_) | (refine callv_roC ( PureC.clo (C:=fun _=>True) e85 (bucketF_p l[(i + j) / 2]! s).c) rfl rfl ?_ ?_ ?_ ?_ ?_ ?_) | (refine gcallv_roC (D:=fun _=>True) (PureC.clo e85 (bucketF_p l[i]! s).c) rfl rfl ?_ ?_ ?_ ?_ ?_ ?_) | (refine EndX.plain ?_) | (refine nil_split (fun hn=>?_) (fun hn=>?_)) | (refine gcall_no not_false ?_) | (refine gdcall_no not_false ?_) | (refine GuardS_of _ _ _ _ _ _ (fun hg=>?_) (fun hg=>?_)) | (refine GuardD_of _ _ _ _ (fun hg=>?_) (fun hg=>?_)) | (refine CondB_of _ _ _ _ _ _ _ ?_ (fun hg=>?_) (fun hg=>?_)))
  all_goals (try (first | ((first | unfold noN | unfold Fr.below | unfold Loc.below);simp [Fr.allN,AV.allN,AV.allNL,AO.allN];done) | rfl | trivial | assumption | (intro row hrow;simp only [List.mem_map] at hrow;obtain ⟨x,_,rfl⟩:=hrow;rfl) | (refine Wk.keep hcl ?_ ?_ ?_;(focus (simp [Fr.get,BktD.row,hb,convV]<;>fail));(focus (simp [sto,BktD.row,hb,convV]<;>fail));(focus (simp<;>fail))) | (simp [allP,opd,Fr.get,Fr.below,Fr.allN,AV.allN,AV.allNL,Loc.below,AO.allN,noN,killO,killT,killD,mkNames,AO.kill,AV.kill,AV.mapN,AV.mapNL];done) | (with_reducible exact ltD (by assumption)) | omega | (simp only [decide_eq_true_eq,decide_eq_false_iff_not] at *;omega)))
  all_goals first
    | (have e:bsP (cB l s) l.length = i:=by
         rw [bsP_eq hk (by rw [hb];have:=of_decide_eq_false (by assumption:decide ((i:Int) < (j:Int)) = false);omega),hb]
       have e2:i < l.length:=by have:=of_decide_eq_true (by assumption:decide ((i:Int) < (l.length:Int)) = true);omega
       rw [e,decide_eq_true e2];rfl)
    | (have e:bsP (cB l s) l.length = i:=by
         rw [bsP_eq hk (by rw [hb];have:=of_decide_eq_false (by assumption:decide ((i:Int) < (j:Int)) = false);omega),hb]
       have e2:¬ i < l.length:=by have:=of_decide_eq_false (by assumption:decide ((i:Int) < (l.length:Int)) = false);omega
       rw [e,decide_eq_false e2];rfl)
    | (have hg1:i < j:=by have:=of_decide_eq_true (by assumption:decide ((i:Int) < (j:Int)) = true);omega
       have hg2:cB l s ((i + j) / 2) < 0:=of_decide_eq_true (by assumption)
       have e:bsK (cB l s) l.length (k + 1) = ((i + j) / 2 + 1,j):=by simp only [bsK,hb,bsS];rw [if_pos hg1,if_pos hg2]
       rw [e];exact Wk.keep hcl (by simp [Fr.get]) (by simp [sto]) (by simp))
    | (have hg1:i < j:=by have:=of_decide_eq_true (by assumption:decide ((i:Int) < (j:Int)) = true);omega
       have hg2:¬ cB l s ((i + j) / 2) < 0:=of_decide_eq_false (by assumption)
       have e:bsK (cB l s) l.length (k + 1) = (i,(i + j) / 2):=by simp only [bsK,hb,bsS];rw [if_pos hg1,if_neg hg2]
       rw [e];exact Wk.keep hcl (by simp [Fr.get]) (by simp [sto]) (by simp))
def cmpI (a b:Int):Int:=if a < b then -1 else if a > b then 1 else 0
theorem nan_p (a:Int):Pure Try.prog 48 [I a] (Bo false):=by
  refine pure_of follows Try.func48 c48_eq r48 (Nat.le_of_ble_eq_true rfl) fun B σ hcl hsz=>?_
  clear hsz
  repeat' (first | (simp -implicitDefEqProofs only [*,Nat.reduceBEq,↓reduceIte,Nat.reduceEqDiff,Nat.reduceAdd,reduceCtorEq,AO.kill,Int.reduceLT,Int.reduceToNat,List.getElem?_nil,Nat.reduceMul,Nat.reducePow,Nat.reduceLeDiff,rowOf_mapD,rowOf_mapI,rowOf_mapA,List.getElem?_cons_zero,List.getElem?_cons_succ,take_map_len,take_map_app,List.getElem?_cons_zero,c48,r48,u48_1,ty3,bne_self_eq_false,mvcgen_simp]) | (with_reducible refine And.intro ?_ ?_) | (refine EndX.plain ?_) | (refine nil_split (fun hn=>?_) (fun hn=>?_)) | (refine gcall_no not_false ?_) | (refine gdcall_no not_false ?_) | (refine GuardS_of _ _ _ _ _ _ (fun hg=>?_) (fun hg=>?_)) | (refine GuardD_of _ _ _ _ (fun hg=>?_) (fun hg=>?_)) | (refine CondB_of _ _ _ _ _ _ _ ?_ (fun hg=>?_) (fun hg=>?_)))
  all_goals (try (first | ((first | unfold noN | unfold Fr.below | unfold Loc.below);simp [Fr.allN,AV.allN,AV.allNL,AO.allN];done) | rfl | trivial | assumption | (intro row hrow;simp only [List.mem_map] at hrow;obtain ⟨x,_,rfl⟩:=hrow;rfl) | (refine Wk.keep hcl ?_ ?_ ?_;(focus (simp [Fr.get,bne_self_eq_false]<;>fail));(focus (simp [sto,bne_self_eq_false]<;>fail));(focus (simp<;>fail))) | (simp [allP,opd,Fr.get,Fr.below,Fr.allN,AV.allN,AV.allNL,Loc.below,AO.allN,noN,killO,killT,killD,mkNames,AO.kill,AV.kill,AV.mapN,AV.mapNL];done) | (with_reducible exact ltD (by assumption)) | omega | (simp only [decide_eq_true_eq,decide_eq_false_iff_not] at *;omega)))
theorem cmpI_p (a b:Int):Pure Try.prog 30 [I a,I b] (I (cmpI a b)):=by
  refine pure_of follows Try.func30 c30_eq r30 (Nat.le_of_ble_eq_true rfl) fun B σ hcl hsz=>?_
  clear hsz
  repeat' (first | (simp -implicitDefEqProofs only [*,Nat.reduceBEq,↓reduceIte,Nat.reduceEqDiff,Nat.reduceAdd,reduceCtorEq,AO.kill,Int.reduceLT,Int.reduceToNat,List.getElem?_nil,Nat.reduceMul,Nat.reducePow,Nat.reduceLeDiff,rowOf_mapD,rowOf_mapI,rowOf_mapA,List.getElem?_cons_zero,List.getElem?_cons_succ,take_map_len,take_map_app,List.getElem?_cons_zero,c30,r30,u30_1,u30_2,u30_3,u30_4,u30_5,u30_6,u30_7,u30_8,u30_9,u30_10,u30_11,u30_12,u30_13,u30_14,u30_15,u30_16,u30_17,u30_18,ty3,mvcgen_simp]) | (with_reducible refine And.intro ?_ ?_) | (refine call_ro e48 (nan_p a) rfl ?_ ?_ ?_ ?_) | (refine call_ro e48 (nan_p b) rfl ?_ ?_ ?_ ?_) | (refine EndX.plain ?_) | (refine nil_split (fun hn=>?_) (fun hn=>?_)) | (refine gcall_no not_false ?_) | (refine gdcall_no not_false ?_) | (refine GuardS_of _ _ _ _ _ _ (fun hg=>?_) (fun hg=>?_)) | (refine GuardD_of _ _ _ _ (fun hg=>?_) (fun hg=>?_)) | (refine CondB_of _ _ _ _ _ _ _ ?_ (fun hg=>?_) (fun hg=>?_)))
  all_goals (try (first | ((first | unfold noN | unfold Fr.below | unfold Loc.below);simp [Fr.allN,AV.allN,AV.allNL,AO.allN];done) | rfl | trivial | assumption | (intro row hrow;simp only [List.mem_map] at hrow;obtain ⟨x,_,rfl⟩:=hrow;rfl) | (refine Wk.keep hcl ?_ ?_ ?_;(focus (simp [Fr.get]<;>fail));(focus (simp [sto]<;>fail));(focus (simp<;>fail))) | (simp [allP,opd,Fr.get,Fr.below,Fr.allN,AV.allN,AV.allNL,Loc.below,AO.allN,noN,killO,killT,killD,mkNames,AO.kill,AV.kill,AV.mapN,AV.mapNL];done) | (with_reducible exact ltD (by assumption)) | omega | (simp only [decide_eq_true_eq,decide_eq_false_iff_not] at *;omega)))
  all_goals (unfold cmpI)
  all_goals (try (rw [if_pos (of_decide_eq_true (by assumption))]))
  all_goals (try (rw [if_neg (of_decide_eq_false (by assumption:decide (a < b) = false)),if_pos (of_decide_eq_true (by assumption))]))
  all_goals (try (rw [if_neg (of_decide_eq_false (by assumption:decide (a < b) = false)),if_neg (of_decide_eq_false (by assumption:decide (a > b) = false))]))
theorem versionF_p (b:VerD) (s:Int):Pure Try.prog 88 [.agg (b.row.map .d),I s] (I (cmpI b.id s)):=by
  refine pure_of follows Try.func88 c88_eq r88 (Nat.le_of_ble_eq_true rfl) fun B σ hcl hsz=>?_
  clear hsz
  repeat' (first | (simp -implicitDefEqProofs only [*,Nat.reduceBEq,↓reduceIte,Nat.reduceEqDiff,Nat.reduceAdd,reduceCtorEq,AO.kill,Int.reduceLT,Int.reduceToNat,List.getElem?_nil,Nat.reduceMul,Nat.reducePow,Nat.reduceLeDiff,rowOf_mapD,rowOf_mapI,rowOf_mapA,List.getElem?_cons_zero,List.getElem?_cons_succ,take_map_len,take_map_app,List.getElem?_cons_zero,c88,r88,u88_1,ty41,ty3,VerD.row,ints,mvcgen_simp]) | (with_reducible refine And.intro ?_ ?_) | (refine call_ro e30 ( cmpI_p b.id s) rfl ?_ ?_ ?_ ?_) | (refine gcall_ro e30 ( cmpI_p b.id s) rfl ?_ ?_ ?_ ?_) | (refine dcall_ro e30 ( cmpI_p b.id s) rfl ?_ ?_ ?_ ?_) | (refine gdcall_ro rfl e30 ( cmpI_p b.id s) rfl ?_ ?_ ?_ ?_) | (refine EndX.plain ?_) | (refine nil_split (fun hn=>?_) (fun hn=>?_)) | (refine gcall_no not_false ?_) | (refine gdcall_no not_false ?_) | (refine GuardS_of _ _ _ _ _ _ (fun hg=>?_) (fun hg=>?_)) | (refine GuardD_of _ _ _ _ (fun hg=>?_) (fun hg=>?_)) | (refine CondB_of _ _ _ _ _ _ _ ?_ (fun hg=>?_) (fun hg=>?_)))
  all_goals (try (first | ((first | unfold noN | unfold Fr.below | unfold Loc.below);simp [Fr.allN,AV.allN,AV.allNL,AO.allN];done) | rfl | trivial | assumption | (intro row hrow;simp only [List.mem_map] at hrow;obtain ⟨x,_,rfl⟩:=hrow;rfl) | (refine Wk.keep hcl ?_ ?_ ?_;(focus (simp [Fr.get,VerD.row,ints]<;>fail));(focus (simp [sto,VerD.row,ints]<;>fail));(focus (simp<;>fail))) | (simp [allP,opd,Fr.get,Fr.below,Fr.allN,AV.allN,AV.allNL,Loc.below,AO.allN,noN,killO,killT,killD,mkNames,AO.kill,AV.kill,AV.mapN,AV.mapNL];done) | (with_reducible exact ltD (by assumption)) | omega | (simp only [decide_eq_true_eq,decide_eq_false_iff_not] at *;omega)))
def cV (l:List VerD) (s:Int) (k:Nat):Int:=cmpI l[k]!.id s
theorem bsV_p (l:List VerD) (s:Int):Pure Try.prog 87 [.d (.ro (l.map VerD.row)),I s,.clo (.func 88) [] []] (.tup [I (bsP (cV l s) l.length),Bo (decide (bsP (cV l s) l.length < l.length) && (cV l s (bsP (cV l s) l.length) == 0))]):=by
  refine pure_of follows Try.func87 c87_eq r87 (Nat.le_of_ble_eq_true rfl) fun B σ hcl hsz=>?_
  have hlen:l.length ≤ 2 ^ 47:=by simpa using (show Sized (.ro (l.map VerD.row)) from hsz (.d (.ro (l.map VerD.row))) (by simp)).len
  clear hsz
  simp -implicitDefEqProofs only [contN,contC,Nat.reduceBEq,Bool.or_false,Bool.or_true,Bool.false_or,Bool.true_or,Bool.not_true,Bool.not_false,SEconv,w_skip,w_ret,w_exit,w_reg,w_dreg,w_oreg,HO_app,w_odone,w_onil,w_ofst,w_obr,w_seq,SK_n,SK_r,SK_x,w_keep,w_block,w_cond,w_nil,w_cons,w_consg,w_nnil,w_ncons,w_dnil,w_dcons,w_dconsg,HK_app,HD_app,HQ_n,HQ_r,HQ_x,HQ_bn,HQ_br,HQ_bx,HQ_en,HQ_er,HQ_ex,CondB_true,CondB_false,SO1,w_sdv,SDe_alloc,SDe_box,SDe_bslice,SDe_app,true_imp_iff,false_imp_iff,and_false,false_and,not_false_eq_true,not_true_eq_false,addN,mkNames,killT,killD,killO,List.foldl_nil,List.foldl_cons,List.append_nil,List.nil_append,List.cons_append,GuardS_true,GuardS_false,GuardD_true,GuardD_false,DK_true,DK_false,lt_self_add,le_self_add,decide_true,decide_false,Bool.false_eq_true,Bool.true_eq_false,Nat.add_left_cancel_iff,SE,SEalloc,SEbox,SEstore,w_bs,SEbl,SEfz,SEbs0,fzName,osOf,AV.fz1,w_app,w_mk,aev,opd,Fr.get,putO,Fr.norm,List.map_cons,List.map_nil,with1,with2,onInt,AV.lit,entry,↓reduceIte,Nat.reduceEqDiff,Nat.reduceAdd,reduceCtorEq,true_and,and_true,Option.map_some,Option.map_none,Option.bind_some,Option.bind_none,cond_true,cond_false,binV,unV,fieldV,loadV,sto,cellsAV,newF,newL,Fr.map,Loc.kill,Loc.set,AO.kill,AV.kill,AV.mapN,AV.mapNL,List.filter_nil,List.filter_cons,allP,EndV,retV,resV,resL,frz,dropL,AV.pick,nilV,tupV,imp_self,ne_eq,Int.cast_ofNat_Int,Int.reduceLT,Int.reduceToNat,List.getD_cons_zero,List.getD_cons_succ,bsliceV,buildV,afill,repl,chunk,rvs,AV.rv,RV.nrm,List.getElem?_nil,List.append_assoc,Nat.reduceMul,Nat.reducePow,Nat.zero_lt_succ,Nat.zero_add,Nat.add_zero,List.length_cons,List.length_nil,Nat.reduceLeDiff,Nat.le_refl,List.take_succ_cons,List.take_zero,List.drop_succ_cons,List.drop_zero,indexV,lenV,rowOf_mapD,rowOf_mapI,rowOf_mapA,List.length_map,Int.toNat_natCast,List.getElem?_cons_zero,List.getElem?_cons_succ,and_self,implies_true,if_true,if_false,HQ_zn,HQ_zr,HQ_wn,HQ_wr,AV.nz,AV.nzL,RV.nrm,SEbin,SEnil,nilK,srcV,dstV,appName,List.length_append,Nat.mul_one,take_map_len,take_map_app,List.getElem?_cons_zero,List.map_append,SEmkmap,SEmset,mgetV,kvOf,getM,setM,w_bsH,SEapA,SEapB,bsliceA,SEclr,nilIn,nilIn.nilC,c87,r87,u87_1,v87_2,v87_3,u87_4,u87_5,u87_6,u87_7,u87_8,u87_9,v87_10,v87_11,v87_12,u87_13,u87_14,u87_15,u87_16,ty23,ty3,ty77,ty41]
  refine loop_nat l.length (fun k=>True) (fun k=>[(2,.clo (.func 88) [] []),(0,.d (.ro (l.map VerD.row))),(1,I s),(8,I l.length),(9,I (bsK (cV l s) l.length k).1),(10,I (bsK (cV l s) l.length k).2)]) (fun k=>[]) trivial (Wk.keep hcl (by simp [Fr.get,bsK]) (by simp) (by simp)) fun k hk hF=>?_
  obtain ⟨h1,h2,h3⟩:=bsK_ok (cV l s) l.length k
  generalize hb:bsK (cV l s) l.length k = p at h1 h2 h3
  obtain ⟨i,j⟩:=p
  simp only at h1 h2 h3
  have hh:=bs_half i j (by omega) (by omega)
  have hw:IntKind.i64.wrap ((((i + j) / 2:Nat):Int) + 1) = (((i + j) / 2:Nat):Int) + 1:=IntWalk.i64_in _ (by omega)
  have hlt:i < j → ((i + j) / 2 < l.length ∧ i < l.length):=fun h=>by omega
  have hrow:decide ((i:Int) < (j:Int)) = true → rowOf (l.map VerD.row) ((i + j) / 2) = VerD.row l[(i + j) / 2]!:=fun h=>by
    have h0:i < j:=by simpa using h
    exact rowOf_mapD _ _ _ (decide_eq_true (by omega))
  repeat' (first | (simp -implicitDefEqProofs only [*,Nat.reduceBEq,↓reduceIte,Nat.reduceEqDiff,Nat.reduceAdd,reduceCtorEq,AO.kill,Int.reduceLT,Int.reduceToNat,List.getElem?_nil,Nat.reduceMul,Nat.reducePow,Nat.reduceLeDiff,rowOf_mapD,rowOf_mapI,rowOf_mapA,List.getElem?_cons_zero,List.getElem?_cons_succ,take_map_len,take_map_app,List.getElem?_cons_zero,c87,r87,u87_1,v87_2,v87_3,u87_4,u87_5,u87_6,u87_7,u87_8,u87_9,v87_10,v87_11,v87_12,u87_13,u87_14,u87_15,u87_16,ty23,ty3,ty77,ty41,VerD.row,hb,convV,mvcgen_simp]) | (with_reducible refine And.intro ?_ ?_) | (refine callv_roC ( PureC.clo (C:=fun _=>True) e88 (versionF_p l[(i + j) / 2]! s).c) rfl rfl ?_ ?_ ?_ ?_ ?_ ?_) | (refine gcallv_roC (D:=fun _=>True) (PureC.clo e88 (versionF_p l[i]! s).c) rfl rfl ?_ ?_ ?_ ?_ ?_ ?_) | (refine EndX.plain ?_) | (refine nil_split (fun hn=>?_) (fun hn=>?_)) | (refine gcall_no not_false ?_) | (refine gdcall_no not_false ?_) | (refine GuardS_of _ _ _ _ _ _ (fun hg=>?_) (fun hg=>?_)) | (refine GuardD_of _ _ _ _ (fun hg=>?_) (fun hg=>?_)) | (refine CondB_of _ _ _ _ _ _ _ ?_ (fun hg=>?_) (fun hg=>?_)))
  all_goals (try (first | ((first | unfold noN | unfold Fr.below | unfold Loc.below);simp [Fr.allN,AV.allN,AV.allNL,AO.allN];done) | rfl | trivial | assumption | (intro row hrow;simp only [List.mem_map] at hrow;obtain ⟨x,_,rfl⟩:=hrow;rfl) | (refine Wk.keep hcl ?_ ?_ ?_;(focus (simp [Fr.get,VerD.row,hb,convV]<;>fail));(focus (simp [sto,VerD.row,hb,convV]<;>fail));(focus (simp<;>fail))) | (simp [allP,opd,Fr.get,Fr.below,Fr.allN,AV.allN,AV.allNL,Loc.below,AO.allN,noN,killO,killT,killD,mkNames,AO.kill,AV.kill,AV.mapN,AV.mapNL];done) | (with_reducible exact ltD (by assumption)) | omega | (simp only [decide_eq_true_eq,decide_eq_false_iff_not] at *;omega)))
  all_goals first
    | (have e:bsP (cV l s) l.length = i:=by
         rw [bsP_eq hk (by rw [hb];have:=of_decide_eq_false (by assumption:decide ((i:Int) < (j:Int)) = false);omega),hb]
       have e2:i < l.length:=by have:=of_decide_eq_true (by assumption:decide ((i:Int) < (l.length:Int)) = true);omega
       rw [e,decide_eq_true e2];rfl)
    | (have e:bsP (cV l s) l.length = i:=by
         rw [bsP_eq hk (by rw [hb];have:=of_decide_eq_false (by assumption:decide ((i:Int) < (j:Int)) = false);omega),hb]
       have e2:¬ i < l.length:=by have:=of_decide_eq_false (by assumption:decide ((i:Int) < (l.length:Int)) = false);omega
       rw [e,decide_eq_false e2];rfl)
    | (have hg1:i < j:=by have:=of_decide_eq_true (by assumption:decide ((i:Int) < (j:Int)) = true);omega
       have hg2:cV l s ((i + j) / 2) < 0:=of_decide_eq_true (by assumption)
       have e:bsK (cV l s) l.length (k + 1) = ((i + j) / 2 + 1,j):=by simp only [bsK,hb,bsS];rw [if_pos hg1,if_pos hg2]
       rw [e];exact Wk.keep hcl (by simp [Fr.get]) (by simp [sto]) (by simp))
    | (have hg1:i < j:=by have:=of_decide_eq_true (by assumption:decide ((i:Int) < (j:Int)) = true);omega
       have hg2:¬ cV l s ((i + j) / 2) < 0:=of_decide_eq_false (by assumption)
       have e:bsK (cV l s) l.length (k + 1) = (i,(i + j) / 2):=by simp only [bsK,hb,bsS];rw [if_pos hg1,if_neg hg2]
       rw [e];exact Wk.keep hcl (by simp [Fr.get]) (by simp [sto]) (by simp))
theorem bucket_p (st:SttD) (s:ByteArray):Pure Try.prog 62 [st.av,.d (.v (.string s))] (.tup [I (bsP (cB st.bkts s) st.bkts.length),Bo (decide (bsP (cB st.bkts s) st.bkts.length < st.bkts.length) && (cB st.bkts s (bsP (cB st.bkts s) st.bkts.length) == 0))]):=by
  refine pure_of follows Try.func62 c62_eq r62 (Nat.le_of_ble_eq_true rfl) fun B σ hcl hsz=>?_
  clear hsz
  repeat' (first | (simp -implicitDefEqProofs only [*,Nat.reduceBEq,↓reduceIte,Nat.reduceEqDiff,Nat.reduceAdd,reduceCtorEq,AO.kill,Int.reduceLT,Int.reduceToNat,List.getElem?_nil,Nat.reduceMul,Nat.reducePow,Nat.reduceLeDiff,rowOf_mapD,rowOf_mapI,rowOf_mapA,List.getElem?_cons_zero,List.getElem?_cons_succ,take_map_len,take_map_app,List.getElem?_cons_zero,c62,r62,v62_1,u62_2,ty28,ty22,ty54,SttD.av,SttD.cells,ints,mvcgen_simp]) | (with_reducible refine And.intro ?_ ?_) | (refine call_ro e84 ( bsB_p st.bkts s) rfl ?_ ?_ ?_ ?_) | (refine gcall_ro e84 ( bsB_p st.bkts s) rfl ?_ ?_ ?_ ?_) | (refine dcall_ro e84 ( bsB_p st.bkts s) rfl ?_ ?_ ?_ ?_) | (refine gdcall_ro rfl e84 ( bsB_p st.bkts s) rfl ?_ ?_ ?_ ?_) | (refine EndX.plain ?_) | (refine nil_split (fun hn=>?_) (fun hn=>?_)) | (refine gcall_no not_false ?_) | (refine gdcall_no not_false ?_) | (refine GuardS_of _ _ _ _ _ _ (fun hg=>?_) (fun hg=>?_)) | (refine GuardD_of _ _ _ _ (fun hg=>?_) (fun hg=>?_)) | (refine CondB_of _ _ _ _ _ _ _ ?_ (fun hg=>?_) (fun hg=>?_)))
  all_goals (try (first | ((first | unfold noN | unfold Fr.below | unfold Loc.below);simp [Fr.allN,AV.allN,AV.allNL,AO.allN];done) | rfl | trivial | assumption | (intro row hrow;simp only [List.mem_map] at hrow;obtain ⟨x,_,rfl⟩:=hrow;rfl) | (refine Wk.keep hcl ?_ ?_ ?_;(focus (simp [Fr.get,SttD.av,SttD.cells,ints]<;>fail));(focus (simp [sto,SttD.av,SttD.cells,ints]<;>fail));(focus (simp<;>fail))) | (simp [allP,opd,Fr.get,Fr.below,Fr.allN,AV.allN,AV.allNL,Loc.below,AO.allN,noN,killO,killT,killD,mkNames,AO.kill,AV.kill,AV.mapN,AV.mapNL];done) | (with_reducible exact ltD (by assumption)) | omega | (simp only [decide_eq_true_eq,decide_eq_false_iff_not] at *;omega)))
theorem version_p (st:SttD) (s:Int):Pure Try.prog 65 [st.av,I s] (.tup [I (bsP (cV st.vers s) st.vers.length),Bo (decide (bsP (cV st.vers s) st.vers.length < st.vers.length) && (cV st.vers s (bsP (cV st.vers s) st.vers.length) == 0))]):=by
  refine pure_of follows Try.func65 c65_eq r65 (Nat.le_of_ble_eq_true rfl) fun B σ hcl hsz=>?_
  clear hsz
  repeat' (first | (simp -implicitDefEqProofs only [*,Nat.reduceBEq,↓reduceIte,Nat.reduceEqDiff,Nat.reduceAdd,reduceCtorEq,AO.kill,Int.reduceLT,Int.reduceToNat,List.getElem?_nil,Nat.reduceMul,Nat.reducePow,Nat.reduceLeDiff,rowOf_mapD,rowOf_mapI,rowOf_mapA,List.getElem?_cons_zero,List.getElem?_cons_succ,take_map_len,take_map_app,List.getElem?_cons_zero,c65,r65,v65_1,u65_2,ty28,ty23,ty41,SttD.av,SttD.cells,ints,mvcgen_simp]) | (with_reducible refine And.intro ?_ ?_) | (refine call_ro e87 ( bsV_p st.vers s) rfl ?_ ?_ ?_ ?_) | (refine gcall_ro e87 ( bsV_p st.vers s) rfl ?_ ?_ ?_ ?_) | (refine dcall_ro e87 ( bsV_p st.vers s) rfl ?_ ?_ ?_ ?_) | (refine gdcall_ro rfl e87 ( bsV_p st.vers s) rfl ?_ ?_ ?_ ?_) | (refine EndX.plain ?_) | (refine nil_split (fun hn=>?_) (fun hn=>?_)) | (refine gcall_no not_false ?_) | (refine gdcall_no not_false ?_) | (refine GuardS_of _ _ _ _ _ _ (fun hg=>?_) (fun hg=>?_)) | (refine GuardD_of _ _ _ _ (fun hg=>?_) (fun hg=>?_)) | (refine CondB_of _ _ _ _ _ _ _ ?_ (fun hg=>?_) (fun hg=>?_)))
  all_goals (try (first | ((first | unfold noN | unfold Fr.below | unfold Loc.below);simp [Fr.allN,AV.allN,AV.allNL,AO.allN];done) | rfl | trivial | assumption | (intro row hrow;simp only [List.mem_map] at hrow;obtain ⟨x,_,rfl⟩:=hrow;rfl) | (refine Wk.keep hcl ?_ ?_ ?_;(focus (simp [Fr.get,SttD.av,SttD.cells,ints]<;>fail));(focus (simp [sto,SttD.av,SttD.cells,ints]<;>fail));(focus (simp<;>fail))) | (simp [allP,opd,Fr.get,Fr.below,Fr.allN,AV.allN,AV.allNL,Loc.below,AO.allN,noN,killO,killT,killD,mkNames,AO.kill,AV.kill,AV.mapN,AV.mapNL];done) | (with_reducible exact ltD (by assumption)) | omega | (simp only [decide_eq_true_eq,decide_eq_false_iff_not] at *;omega)))
end Go.Proofs.Ytikgiadbkjmabaa
