/- Names,keys and rules that may be. -/
import Derived.Test.YtijpmidnclbhpaaStD
import Derived.Test.YtijpmidnclbhpaaInB
import Derived.Test.YtijpmidnclbhpaaTypes
namespace Go.Proofs.Ytijpmidnclbhpaa
open Go.RowKit
set_option maxRecDepth 100000
def o83_1:List SO:=((SO.mk (some 17) (.bin .gtr 5 (.tmp 16) (.const (Value.int .u8 126))) (some (13 ,false))) :: (SO.mk (some 18) (.pick (.tmp 13) (.const (Value.bool true)) (.tmp 17)) none) :: [])
theorem v83_1:type_of% (@swl _ _ o83_1.eq_1):=@swl _ _ o83_1.eq_1
def o83_2:List SO:=((SO.mk (some 13) (.move (.tmp 12)) none) :: (SO.mk (some 14) (.move (.tmp 0)) (some (13 ,false))) :: (SO.mk (some 15) (.move (.tmp 3)) (some (13 ,false))) :: (SO.mk (some 16) (.idx 9 (.tmp 14) (.tmp 15)) (some (13 ,false))) :: o83_1)
theorem v83_2:type_of% (@swl _ _ o83_2.eq_1):=@swl _ _ o83_2.eq_1
def c83_3:SC:=(.seq (.reg [SO.mk (some 2) (.move (.const (Value.bool false))) none]) (.keep [2] .ret))
theorem u83_3:type_of% (@swc _ _ c83_3.eq_1):=@swc _ _ c83_3.eq_1
def c83_4:SC:=(.cond (.tmp 18) c83_3 .skip)
theorem u83_4:type_of% (@swc _ _ c83_4.eq_1):=@swc _ _ c83_4.eq_1
def c83_5:SC:=(.seq (.reg ((SO.mk (some 9) (.move (.tmp 0)) none) :: (SO.mk (some 10) (.move (.tmp 3)) none) :: (SO.mk (some 11) (.idx 9 (.tmp 9) (.tmp 10)) none) :: (SO.mk (some 12) (.bin .lss 5 (.tmp 11) (.const (Value.int .u8 33))) none) :: o83_2)) (.keep [18,6,5,0] c83_4))
theorem u83_5:type_of% (@swc _ _ c83_5.eq_1):=@swc _ _ c83_5.eq_1
def c83_6:SC:=(.reg [SO.mk (some 19) (.bin .add 3 (.tmp 6) (.const (Value.int .i64 1))) none,SO.mk (some 6) (.move (.tmp 19)) none])
theorem u83_6:type_of% (@swc _ _ c83_6.eq_1):=@swc _ _ c83_6.eq_1
def c83_7:SC:=(.seq (.block 1 (.seq (.reg [SO.mk (some 8) (.move (.tmp 6)) none,SO.mk (some 3) (.move (.tmp 8)) none]) (.keep [3,6,5,0] c83_5))) (.keep [6,5,0] c83_6))
theorem u83_7:type_of% (@swc _ _ c83_7.eq_1):=@swc _ _ c83_7.eq_1
def c83_8:SC:=(.seq (.cond (.tmp 7) .skip (.exit 0)) (.keep [6,5,0] c83_7))
theorem u83_8:type_of% (@swc _ _ c83_8.eq_1):=@swc _ _ c83_8.eq_1
def c83_9:SC:=(.seq (.reg [SO.mk (some 7) (.bin .lss 3 (.tmp 6) (.tmp 5)) none]) (.keep [7,0,5,6] c83_8))
theorem u83_9:type_of% (@swc _ _ c83_9.eq_1):=@swc _ _ c83_9.eq_1
def c83_10:SC:=(.block 0 (.loop (.keep [0,5,6] c83_9)))
theorem u83_10:type_of% (@swc _ _ c83_10.eq_1):=@swc _ _ c83_10.eq_1
def c83_11:SC:=(.seq (.reg [SO.mk (some 2) (.move (.const (Value.bool true))) none]) (.keep [2] .ret))
theorem u83_11:type_of% (@swc _ _ c83_11.eq_1):=@swc _ _ c83_11.eq_1
def c83_12:SC:=(.seq (.seq (.reg [SO.mk (some 4) (.move (.tmp 0)) none,SO.mk (some 5) (.len 9 (.tmp 4)) none,SO.mk (some 6) (.move (.const (Value.int .i64 0))) none]) (.keep [0,5,6] c83_10)) (.keep [] c83_11))
theorem u83_12:type_of% (@swc _ _ c83_12.eq_1):=@swc _ _ c83_12.eq_1
def c83:SC:=(.seq (.reg [SO.mk (some 2) (.move (.const (Value.bool false))) none]) (.keep [0] c83_12))
theorem c83_eq:annC Try.f83 = some c83:=by kernel_rfl
theorem r83:Try.f83.results.toList = [.tmp 2]:=by kernel_rfl
theorem e83:enters Try.prog 83 = true:=by kernel_rfl
def c81_1:SC:=(.cond (.tmp 7) .skip (.exit 0))
theorem u81_1:type_of% (@swc _ _ c81_1.eq_1):=@swc _ _ c81_1.eq_1
def o81_2:List SO:=((SO.mk (some 14) (.call 58 [(.tmp 13),(.const (Value.int .i64 33)),(.const (Value.int .i64 126))]) none) :: (SO.mk (some 15) (.un .not (.tmp 14)) none) :: [])
theorem v81_2:type_of% (@swl _ _ o81_2.eq_1):=@swl _ _ o81_2.eq_1
def c81_3:SC:=(.seq (.reg [SO.mk (some 2) (.move (.const (Value.bool false))) none]) (.keep [2] .ret))
theorem u81_3:type_of% (@swc _ _ c81_3.eq_1):=@swc _ _ c81_3.eq_1
def c81_4:SC:=(.cond (.tmp 15) c81_3 .skip)
theorem u81_4:type_of% (@swc _ _ c81_4.eq_1):=@swc _ _ c81_4.eq_1
def c81_5:SC:=(.reg [SO.mk (some 8) (.move (.tmp 3)) none,SO.mk (some 9) (.bin .add 3 (.tmp 8) (.const (Value.int .i64 1))) none,SO.mk (some 3) (.move (.tmp 9)) none])
theorem u81_5:type_of% (@swc _ _ c81_5.eq_1):=@swc _ _ c81_5.eq_1
def c81_6:SC:=(.seq (.block 1 (.seq (.reg ((SO.mk (some 10) (.move (.tmp 0)) none) :: (SO.mk (some 11) (.move (.tmp 3)) none) :: (SO.mk (some 12) (.idx 9 (.tmp 10) (.tmp 11)) none) :: (SO.mk (some 13) (.conv 5 3 (.tmp 12)) none) :: o81_2)) (.keep [15,3,0] c81_4))) (.keep [3,0] c81_5))
theorem u81_6:type_of% (@swc _ _ c81_6.eq_1):=@swc _ _ c81_6.eq_1
def c81_7:SC:=(.seq (.seq (.reg [SO.mk (some 4) (.move (.tmp 3)) none,SO.mk (some 5) (.move (.tmp 0)) none,SO.mk (some 6) (.len 9 (.tmp 5)) none,SO.mk (some 7) (.bin .lss 3 (.tmp 4) (.tmp 6)) none]) (.keep [7,0,3] c81_1)) (.keep [3,0] c81_6))
theorem u81_7:type_of% (@swc _ _ c81_7.eq_1):=@swc _ _ c81_7.eq_1
def c81_8:SC:=(.block 0 (.loop (.keep [0,3] c81_7)))
theorem u81_8:type_of% (@swc _ _ c81_8.eq_1):=@swc _ _ c81_8.eq_1
def c81_9:SC:=(.seq (.reg [SO.mk (some 2) (.move (.const (Value.bool true))) none]) (.keep [2] .ret))
theorem u81_9:type_of% (@swc _ _ c81_9.eq_1):=@swc _ _ c81_9.eq_1
def c81_10:SC:=(.seq (.seq (.reg [SO.mk (some 3) (.move (.const (Value.int .i64 0))) none]) (.keep [0,3] c81_8)) (.keep [] c81_9))
theorem u81_10:type_of% (@swc _ _ c81_10.eq_1):=@swc _ _ c81_10.eq_1
def c81:SC:=(.seq (.reg [SO.mk (some 2) (.move (.const (Value.bool false))) none]) (.keep [0] c81_10))
theorem c81_eq:annC Try.f81 = some c81:=by kernel_rfl
theorem r81:Try.f81.results.toList = [.tmp 2]:=by kernel_rfl
theorem e81:enters Try.prog 81 = true:=by kernel_rfl
def c80_1:SC:=(.seq (.reg [SO.mk (some 4) (.move (.const (Value.int .i64 1))) none]) (.keep [4] .ret))
theorem u80_1:type_of% (@swc _ _ c80_1.eq_1):=@swc _ _ c80_1.eq_1
def c80_2:SC:=(.cond (.tmp 9) c80_1 .skip)
theorem u80_2:type_of% (@swc _ _ c80_2.eq_1):=@swc _ _ c80_2.eq_1
def c80_3:SC:=(.seq (.reg [SO.mk (some 4) (.move (.const (Value.int .i64 4))) none]) (.keep [4] .ret))
theorem u80_3:type_of% (@swc _ _ c80_3.eq_1):=@swc _ _ c80_3.eq_1
def c80_4:SC:=(.cond (.tmp 12) c80_3 .skip)
theorem u80_4:type_of% (@swc _ _ c80_4.eq_1):=@swc _ _ c80_4.eq_1
def c80_5:SC:=(.seq (.reg [SO.mk (some 4) (.move (.const (Value.int .i64 0))) none]) (.keep [4] .ret))
theorem u80_5:type_of% (@swc _ _ c80_5.eq_1):=@swc _ _ c80_5.eq_1
def c80_6:SC:=(.seq (.seq (.reg [SO.mk (some 10) (.move (.tmp 0)) none,SO.mk (some 11) (.call 81 [(.tmp 10)]) none,SO.mk (some 12) (.un .not (.tmp 11)) none]) (.keep [12] c80_4)) (.keep [] c80_5))
theorem u80_6:type_of% (@swc _ _ c80_6.eq_1):=@swc _ _ c80_6.eq_1
def c80_7:SC:=(.seq (.seq (.reg [SO.mk (some 5) (.move (.tmp 0)) none,SO.mk (some 6) (.len 9 (.tmp 5)) none,SO.mk (some 7) (.move (.tmp 1)) none,SO.mk (some 8) (.call 58 [(.tmp 6),(.const (Value.int .i64 1)),(.tmp 7)]) none,SO.mk (some 9) (.un .not (.tmp 8)) none]) (.keep [9,0] c80_2)) (.keep [0] c80_6))
theorem u80_7:type_of% (@swc _ _ c80_7.eq_1):=@swc _ _ c80_7.eq_1
def c80:SC:=(.seq (.reg [SO.mk (some 4) (.move (.const (Value.int .i64 0))) none]) (.keep [1,0] c80_7))
theorem c80_eq:annC Try.f80 = some c80:=by kernel_rfl
theorem r80:Try.f80.results.toList = [.tmp 4]:=by kernel_rfl
theorem e80:enters Try.prog 80 = true:=by kernel_rfl
def o71_1:List SO:=((SO.mk (some 3) (.move (.tmp 11)) none) :: [])
theorem v71_1:type_of% (@swl _ _ o71_1.eq_1):=@swl _ _ o71_1.eq_1
def o71_2:List SO:=((SO.mk (some 8) (.move (.tmp 0)) (some (7 ,false))) :: (SO.mk (some 9) (.len 9 (.tmp 8)) (some (7 ,false))) :: (SO.mk (some 10) (.bin .gtr 3 (.tmp 9) (.const (Value.int .i64 8))) (some (7 ,false))) :: (SO.mk (some 11) (.pick (.tmp 7) (.const (Value.bool true)) (.tmp 10)) none) :: o71_1)
theorem v71_2:type_of% (@swl _ _ o71_2.eq_1):=@swl _ _ o71_2.eq_1
def c71_3:SC:=(.seq (.reg [SO.mk (some 2) (.move (.const (Value.int .i64 1))) none]) (.keep [2] .ret))
theorem u71_3:type_of% (@swc _ _ c71_3.eq_1):=@swc _ _ c71_3.eq_1
def c71_4:SC:=(.seq (.reg [SO.mk (some 2) (.move (.const (Value.int .i64 4))) none]) (.keep [2] .ret))
theorem u71_4:type_of% (@swc _ _ c71_4.eq_1):=@swc _ _ c71_4.eq_1
def c71_5:SC:=(.cond (.tmp 12) c71_4 .skip)
theorem u71_5:type_of% (@swc _ _ c71_5.eq_1):=@swc _ _ c71_5.eq_1
def c71_6:SC:=(.seq (.reg [SO.mk (some 13) (.move (.tmp 0)) none,SO.mk (some 14) (.call 83 [(.tmp 13)]) none,SO.mk (some 15) (.un .not (.tmp 14)) none,SO.mk (some 12) (.move (.tmp 15)) none]) (.keep [12] c71_5))
theorem u71_6:type_of% (@swc _ _ c71_6.eq_1):=@swc _ _ c71_6.eq_1
def c71_7:SC:=(.cond (.tmp 3) c71_3 c71_6)
theorem u71_7:type_of% (@swc _ _ c71_7.eq_1):=@swc _ _ c71_7.eq_1
def c71_8:SC:=(.seq (.reg [SO.mk (some 2) (.move (.const (Value.int .i64 0))) none]) (.keep [2] .ret))
theorem u71_8:type_of% (@swc _ _ c71_8.eq_1):=@swc _ _ c71_8.eq_1
def c71_9:SC:=(.seq (.block 0 (.seq (.reg ((SO.mk (some 4) (.move (.tmp 0)) none) :: (SO.mk (some 5) (.len 9 (.tmp 4)) none) :: (SO.mk (some 6) (.bin .lss 3 (.tmp 5) (.const (Value.int .i64 1))) none) :: (SO.mk (some 7) (.move (.tmp 6)) none) :: o71_2)) (.keep [3,0] c71_7))) (.keep [] c71_8))
theorem u71_9:type_of% (@swc _ _ c71_9.eq_1):=@swc _ _ c71_9.eq_1
def c71:SC:=(.seq (.reg [SO.mk (some 2) (.move (.const (Value.int .i64 0))) none]) (.keep [0] c71_9))
theorem c71_eq:annC Try.f71 = some c71:=by kernel_rfl
theorem r71:Try.f71.results.toList = [.tmp 2]:=by kernel_rfl
theorem e71:enters Try.prog 71 = true:=by kernel_rfl
def o75_1:List SO:=((SO.mk (some 3) (.move (.tmp 11)) none) :: [])
theorem v75_1:type_of% (@swl _ _ o75_1.eq_1):=@swl _ _ o75_1.eq_1
def o75_2:List SO:=((SO.mk (some 8) (.move (.tmp 0)) (some (7 ,false))) :: (SO.mk (some 9) (.len 9 (.tmp 8)) (some (7 ,false))) :: (SO.mk (some 10) (.bin .gtr 3 (.tmp 9) (.const (Value.int .i64 16))) (some (7 ,false))) :: (SO.mk (some 11) (.pick (.tmp 7) (.const (Value.bool true)) (.tmp 10)) none) :: o75_1)
theorem v75_2:type_of% (@swl _ _ o75_2.eq_1):=@swl _ _ o75_2.eq_1
def c75_3:SC:=(.seq (.reg [SO.mk (some 2) (.move (.const (Value.int .i64 1))) none]) (.keep [2] .ret))
theorem u75_3:type_of% (@swc _ _ c75_3.eq_1):=@swc _ _ c75_3.eq_1
def c75_4:SC:=(.seq (.reg [SO.mk (some 2) (.move (.const (Value.int .i64 4))) none]) (.keep [2] .ret))
theorem u75_4:type_of% (@swc _ _ c75_4.eq_1):=@swc _ _ c75_4.eq_1
def c75_5:SC:=(.cond (.tmp 12) c75_4 .skip)
theorem u75_5:type_of% (@swc _ _ c75_5.eq_1):=@swc _ _ c75_5.eq_1
def c75_6:SC:=(.seq (.reg [SO.mk (some 13) (.move (.tmp 0)) none,SO.mk (some 14) (.call 83 [(.tmp 13)]) none,SO.mk (some 15) (.un .not (.tmp 14)) none,SO.mk (some 12) (.move (.tmp 15)) none]) (.keep [12] c75_5))
theorem u75_6:type_of% (@swc _ _ c75_6.eq_1):=@swc _ _ c75_6.eq_1
def c75_7:SC:=(.cond (.tmp 3) c75_3 c75_6)
theorem u75_7:type_of% (@swc _ _ c75_7.eq_1):=@swc _ _ c75_7.eq_1
def c75_8:SC:=(.seq (.reg [SO.mk (some 2) (.move (.const (Value.int .i64 0))) none]) (.keep [2] .ret))
theorem u75_8:type_of% (@swc _ _ c75_8.eq_1):=@swc _ _ c75_8.eq_1
def c75_9:SC:=(.seq (.block 0 (.seq (.reg ((SO.mk (some 4) (.move (.tmp 0)) none) :: (SO.mk (some 5) (.len 9 (.tmp 4)) none) :: (SO.mk (some 6) (.bin .lss 3 (.tmp 5) (.const (Value.int .i64 1))) none) :: (SO.mk (some 7) (.move (.tmp 6)) none) :: o75_2)) (.keep [3,0] c75_7))) (.keep [] c75_8))
theorem u75_9:type_of% (@swc _ _ c75_9.eq_1):=@swc _ _ c75_9.eq_1
def c75:SC:=(.seq (.reg [SO.mk (some 2) (.move (.const (Value.int .i64 0))) none]) (.keep [0] c75_9))
theorem c75_eq:annC Try.f75 = some c75:=by kernel_rfl
theorem r75:Try.f75.results.toList = [.tmp 2]:=by kernel_rfl
theorem e75:enters Try.prog 75 = true:=by kernel_rfl
def c59_1:SC:=(.seq (.reg [SO.mk (some 3) (.move (.tmp 0)) none,SO.mk (some 4) (.call 80 [(.tmp 3),(.const (Value.int .i64 8))]) none,SO.mk (some 2) (.move (.tmp 4)) none]) (.keep [2] .ret))
theorem u59_1:type_of% (@swc _ _ c59_1.eq_1):=@swc _ _ c59_1.eq_1
def c59:SC:=(.seq (.reg [SO.mk (some 2) (.move (.const (Value.int .i64 0))) none]) (.keep [0] c59_1))
theorem c59_eq:annC Try.f59 = some c59:=by kernel_rfl
theorem r59:Try.f59.results.toList = [.tmp 2]:=by kernel_rfl
theorem e59:enters Try.prog 59 = true:=by kernel_rfl
def c63_1:SC:=(.seq (.reg [SO.mk (some 3) (.move (.tmp 0)) none,SO.mk (some 4) (.call 80 [(.tmp 3),(.const (Value.int .i64 16))]) none,SO.mk (some 2) (.move (.tmp 4)) none]) (.keep [2] .ret))
theorem u63_1:type_of% (@swc _ _ c63_1.eq_1):=@swc _ _ c63_1.eq_1
def c63:SC:=(.seq (.reg [SO.mk (some 2) (.move (.const (Value.int .i64 0))) none]) (.keep [0] c63_1))
theorem c63_eq:annC Try.f63 = some c63:=by kernel_rfl
theorem r63:Try.f63.results.toList = [.tmp 2]:=by kernel_rfl
theorem e63:enters Try.prog 63 = true:=by kernel_rfl
def c72_1:SC:=(.seq (.reg [SO.mk (some 2) (.move (.const (Value.int .i64 1))) none]) (.keep [2] .ret))
theorem u72_1:type_of% (@swc _ _ c72_1.eq_1):=@swc _ _ c72_1.eq_1
def c72_2:SC:=(.seq (.reg [SO.mk (some 2) (.move (.const (Value.int .i64 4))) none]) (.keep [2] .ret))
theorem u72_2:type_of% (@swc _ _ c72_2.eq_1):=@swc _ _ c72_2.eq_1
def o72_3:List SO:=((SO.mk (some 30) (.bin .gtr 3 (.tmp 29) (.const (Value.int .i64 1073741824))) (some (27 ,false))) :: (SO.mk (some 31) (.pick (.tmp 27) (.const (Value.bool true)) (.tmp 30)) none) :: (SO.mk (some 13) (.move (.tmp 31)) none) :: [])
theorem v72_3:type_of% (@swl _ _ o72_3.eq_1):=@swl _ _ o72_3.eq_1
def o72_4:List SO:=((SO.mk (some 26) (.pick (.tmp 22) (.const (Value.bool true)) (.tmp 25)) none) :: (SO.mk (some 27) (.move (.tmp 26)) none) :: (SO.mk (some 28) (.faddr 45 (.tmp 1) 2) (some (27 ,false))) :: (SO.mk (some 29) (.load 3 (.tmp 28)) (some (27 ,false))) :: o72_3)
theorem v72_4:type_of% (@swl _ _ o72_4.eq_1):=@swl _ _ o72_4.eq_1
def o72_5:List SO:=((SO.mk (some 22) (.move (.tmp 21)) none) :: (SO.mk (some 23) (.faddr 45 (.tmp 1) 2) (some (22 ,false))) :: (SO.mk (some 24) (.load 3 (.tmp 23)) (some (22 ,false))) :: (SO.mk (some 25) (.bin .lss 3 (.tmp 24) (.const (Value.int .i64 (-1)))) (some (22 ,false))) :: o72_4)
theorem v72_5:type_of% (@swl _ _ o72_5.eq_1):=@swl _ _ o72_5.eq_1
def o72_6:List SO:=((SO.mk (some 18) (.faddr 45 (.tmp 1) 1) (some (17 ,false))) :: (SO.mk (some 19) (.load 3 (.tmp 18)) (some (17 ,false))) :: (SO.mk (some 20) (.bin .gtr 3 (.tmp 19) (.const (Value.int .i64 1073741824))) (some (17 ,false))) :: (SO.mk (some 21) (.pick (.tmp 17) (.const (Value.bool true)) (.tmp 20)) none) :: o72_5)
theorem v72_6:type_of% (@swl _ _ o72_6.eq_1):=@swl _ _ o72_6.eq_1
def c72_7:SC:=(.seq (.reg [SO.mk (some 2) (.move (.const (Value.int .i64 2))) none]) (.keep [2] .ret))
theorem u72_7:type_of% (@swc _ _ c72_7.eq_1):=@swc _ _ c72_7.eq_1
def c72_8:SC:=(.cond (.tmp 13) c72_7 .skip)
theorem u72_8:type_of% (@swc _ _ c72_8.eq_1):=@swc _ _ c72_8.eq_1
def c72_9:SC:=(.seq (.reg ((SO.mk (some 14) (.faddr 45 (.tmp 1) 1) none) :: (SO.mk (some 15) (.load 3 (.tmp 14)) none) :: (SO.mk (some 16) (.bin .lss 3 (.tmp 15) (.const (Value.int .i64 (-1)))) none) :: (SO.mk (some 17) (.move (.tmp 16)) none) :: o72_6)) (.keep [13] c72_8))
theorem u72_9:type_of% (@swc _ _ c72_9.eq_1):=@swc _ _ c72_9.eq_1
def c72_10:SC:=(.cond (.tmp 8) c72_2 c72_9)
theorem u72_10:type_of% (@swc _ _ c72_10.eq_1):=@swc _ _ c72_10.eq_1
def c72_11:SC:=(.seq (.reg [SO.mk (some 9) (.faddr 45 (.tmp 1) 0) none,SO.mk (some 10) (.load 9 (.tmp 9)) none,SO.mk (some 11) (.call 83 [(.tmp 10)]) none,SO.mk (some 12) (.un .not (.tmp 11)) none,SO.mk (some 8) (.move (.tmp 12)) none]) (.keep [8,1] c72_10))
theorem u72_11:type_of% (@swc _ _ c72_11.eq_1):=@swc _ _ c72_11.eq_1
def c72_12:SC:=(.cond (.tmp 3) c72_1 c72_11)
theorem u72_12:type_of% (@swc _ _ c72_12.eq_1):=@swc _ _ c72_12.eq_1
def c72_13:SC:=(.seq (.reg [SO.mk (some 2) (.move (.const (Value.int .i64 0))) none]) (.keep [2] .ret))
theorem u72_13:type_of% (@swc _ _ c72_13.eq_1):=@swc _ _ c72_13.eq_1
def c72_14:SC:=(.seq (.block 0 (.seq (.reg [SO.mk (some 4) (.faddr 45 (.tmp 1) 0) none,SO.mk (some 5) (.load 9 (.tmp 4)) none,SO.mk (some 6) (.len 9 (.tmp 5)) none,SO.mk (some 7) (.bin .gtr 3 (.tmp 6) (.const (Value.int .i64 16))) none,SO.mk (some 3) (.move (.tmp 7)) none]) (.keep [3,1] c72_12))) (.keep [] c72_13))
theorem u72_14:type_of% (@swc _ _ c72_14.eq_1):=@swc _ _ c72_14.eq_1
def c72:SC:=(.seq (.reg [SO.mk (some 1) (.box 45 (.tmp 0)) none,SO.mk (some 2) (.move (.const (Value.int .i64 0))) none]) (.keep [1] c72_14))
theorem c72_eq:annC Try.f72 = some c72:=by kernel_rfl
theorem r72:Try.f72.results.toList = [.tmp 2]:=by kernel_rfl
theorem e72:enters Try.prog 72 = true:=by kernel_rfl
def c60_1:SC:=(.seq (.reg [SO.mk (some 2) (.move (.const (Value.int .i64 1))) none]) (.keep [2] .ret))
theorem u60_1:type_of% (@swc _ _ c60_1.eq_1):=@swc _ _ c60_1.eq_1
def c60_2:SC:=(.cond (.tmp 6) c60_1 .skip)
theorem u60_2:type_of% (@swc _ _ c60_2.eq_1):=@swc _ _ c60_2.eq_1
def c60_3:SC:=(.seq (.reg [SO.mk (some 2) (.move (.const (Value.int .i64 4))) none]) (.keep [2] .ret))
theorem u60_3:type_of% (@swc _ _ c60_3.eq_1):=@swc _ _ c60_3.eq_1
def c60_4:SC:=(.cond (.tmp 10) c60_3 .skip)
theorem u60_4:type_of% (@swc _ _ c60_4.eq_1):=@swc _ _ c60_4.eq_1
def o60_5:List SO:=((SO.mk (some 19) (.un .not (.tmp 18)) (some (15 ,false))) :: (SO.mk (some 20) (.pick (.tmp 15) (.const (Value.bool true)) (.tmp 19)) none) :: [])
theorem v60_5:type_of% (@swl _ _ o60_5.eq_1):=@swl _ _ o60_5.eq_1
def o60_6:List SO:=((SO.mk (some 15) (.move (.tmp 14)) none) :: (SO.mk (some 16) (.faddr 45 (.tmp 1) 2) (some (15 ,false))) :: (SO.mk (some 17) (.load 3 (.tmp 16)) (some (15 ,false))) :: (SO.mk (some 18) (.call 58 [(.tmp 17),(.const (Value.int .i64 (-1))),(.const (Value.int .i64 1073741824))]) (some (15 ,false))) :: o60_5)
theorem v60_6:type_of% (@swl _ _ o60_6.eq_1):=@swl _ _ o60_6.eq_1
def c60_7:SC:=(.seq (.reg [SO.mk (some 2) (.move (.const (Value.int .i64 2))) none]) (.keep [2] .ret))
theorem u60_7:type_of% (@swc _ _ c60_7.eq_1):=@swc _ _ c60_7.eq_1
def c60_8:SC:=(.cond (.tmp 20) c60_7 .skip)
theorem u60_8:type_of% (@swc _ _ c60_8.eq_1):=@swc _ _ c60_8.eq_1
def c60_9:SC:=(.seq (.reg [SO.mk (some 2) (.move (.const (Value.int .i64 0))) none]) (.keep [2] .ret))
theorem u60_9:type_of% (@swc _ _ c60_9.eq_1):=@swc _ _ c60_9.eq_1
def c60_10:SC:=(.seq (.seq (.reg ((SO.mk (some 11) (.faddr 45 (.tmp 1) 1) none) :: (SO.mk (some 12) (.load 3 (.tmp 11)) none) :: (SO.mk (some 13) (.call 58 [(.tmp 12),(.const (Value.int .i64 (-1))),(.const (Value.int .i64 1073741824))]) none) :: (SO.mk (some 14) (.un .not (.tmp 13)) none) :: o60_6)) (.keep [20] c60_8)) (.keep [] c60_9))
theorem u60_10:type_of% (@swc _ _ c60_10.eq_1):=@swc _ _ c60_10.eq_1
def c60_11:SC:=(.seq (.seq (.reg [SO.mk (some 7) (.faddr 45 (.tmp 1) 0) none,SO.mk (some 8) (.load 9 (.tmp 7)) none,SO.mk (some 9) (.call 81 [(.tmp 8)]) none,SO.mk (some 10) (.un .not (.tmp 9)) none]) (.keep [10,1] c60_4)) (.keep [1] c60_10))
theorem u60_11:type_of% (@swc _ _ c60_11.eq_1):=@swc _ _ c60_11.eq_1
def c60_12:SC:=(.seq (.seq (.reg [SO.mk (some 3) (.faddr 45 (.tmp 1) 0) none,SO.mk (some 4) (.load 9 (.tmp 3)) none,SO.mk (some 5) (.len 9 (.tmp 4)) none,SO.mk (some 6) (.bin .gtr 3 (.tmp 5) (.const (Value.int .i64 16))) none]) (.keep [6,1] c60_2)) (.keep [1] c60_11))
theorem u60_12:type_of% (@swc _ _ c60_12.eq_1):=@swc _ _ c60_12.eq_1
def c60:SC:=(.seq (.reg [SO.mk (some 1) (.box 45 (.tmp 0)) none,SO.mk (some 2) (.move (.const (Value.int .i64 0))) none]) (.keep [1] c60_12))
theorem c60_eq:annC Try.f60 = some c60:=by kernel_rfl
theorem r60:Try.f60.results.toList = [.tmp 2]:=by kernel_rfl
theorem e60:enters Try.prog 60 = true:=by kernel_rfl
end Go.Proofs.Ytijpmidnclbhpaa
namespace Go.Proofs.Ytijpmidnclbhpaa
open Go.RowKit
set_option maxHeartbeats 4000000
set_option maxRecDepth 20000
attribute [local irreducible] SW OSW SWL SWLn SWD SEcall SEcallv SDv SE SO1 SOg ACalls ACallv Wk EndV
set_option linter.unusedSimpArgs false
set_option linter.unusedVariables false
def chr (s:ByteArray) (k:Nat):Int:=((s.data.getD k 0).toNat:Int)
theorem chr_eq (s:ByteArray) (k:Nat):((s.data.getD k 0).toNat:Int) = chr s k:=rfl
def chrOk (s:ByteArray) (k:Nat):Bool:=!(decide (chr s k < 33) || decide (chr s k > 126))
def lettersF (s:ByteArray):Bool:=(List.range s.size).all (chrOk s)
theorem letters_all {s:ByteArray} (h:∀ i,i < s.size → chrOk s i = true):lettersF s = true:=by
  unfold lettersF;rw [List.all_eq_true];intro i hi;exact h i (List.mem_range.1 hi)
theorem letters_no {s:ByteArray} {k:Nat} (hk:k < s.size) (h:chrOk s k = false):lettersF s = false:=by
  unfold lettersF;rw [List.all_eq_false];exact ⟨k,List.mem_range.2 hk,by rw [h];decide⟩
theorem chr_1 {s:ByteArray} {k:Nat} (h:decide (chr s k < 33) = true):chrOk s k = false:=by unfold chrOk;rw [h];rfl
theorem chr_2 {s:ByteArray} {k:Nat} (h:decide (chr s k > 126) = true):chrOk s k = false:=by unfold chrOk;rw [h];cases decide (chr s k < 33)<;>rfl
theorem chr_3 {s:ByteArray} {k:Nat} (h:decide (chr s k < 33) = false) (h2:decide (chr s k > 126) = false):chrOk s k = true:=by unfold chrOk;rw [h,h2];rfl
theorem chr_in {s:ByteArray} {k:Nat}:inR (chr s k) 33 126 = chrOk s k:=by
  unfold inR chrOk
  rw [Bool.eq_iff_iff];simp
theorem chr_w (s:ByteArray) (k:Nat):IntKind.i64.wrap (chr s k) = chr s k:=by
  refine IntWalk.i64_in _ ?_
  have:=(s.data.getD k 0).toNat_lt
  unfold chr;omega
theorem allS {p:Nat → Bool} {k:Nat} (hF:∀ i,i < k → p i = true) (h:p k = true):∀ i,i < k + 1 → p i = true:=fun i hi=>by
  rcases Nat.lt_succ_iff_lt_or_eq.1 hi with h' | rfl
  · exact hF i h'
  · exact h
theorem ltS {k n:Nat} (h:decide ((k:Int) < (n:Int)) = true):k < n:=by simpa using h
theorem geS {k n:Nat} (h:decide ((k:Int) < (n:Int)) = false):n ≤ k:=by simpa using h
theorem szW {s:ByteArray} {m:Int} (h:(!inR (s.size:Int) 1 m) = false) (hm:m ≤ 2 ^ 47):s.size ≤ 2 ^ 47:=by
  have h1:inR (s.size:Int) 1 m = true:=by simpa using h
  have:=of_decide_eq_true (Bool.and_eq_true_iff.1 h1).2;omega
def wordF (s:ByteArray) (m:Int):Int:=bif inR s.size 1 m then (bif lettersF s then 0 else 4) else 1
def ruleF (x:ByteArray) (f d:Int):Int:=bif decide ((x.size:Int) > 16) then 1 else bif lettersF x then (bif inR f (-1) 1073741824 && inR d (-1) 1073741824 then 0 else 2) else 4
theorem inR_no1 {a b c:Int} (h:decide (a < b) = true):inR a b c = false:=by have:=of_decide_eq_true h;unfold inR;rw [Bool.and_eq_false_iff];left;simp;omega
theorem inR_no2 {a b c:Int} (h:decide (a > c) = true):inR a b c = false:=by have:=of_decide_eq_true h;unfold inR;rw [Bool.and_eq_false_iff];right;simp;omega
theorem inR_yes {a b c:Int} (h:decide (a < b) = false) (h2:decide (a > c) = false):inR a b c = true:=by have:=of_decide_eq_false h;have:=of_decide_eq_false h2;unfold inR;rw [Bool.and_eq_true];simp;omega
theorem letters_p (s:ByteArray) (hs:s.size ≤ 2 ^ 47):Pure Try.prog 83 [.d (.v (.string s))] (Bo (lettersF s)):=by
  refine pure_of follows Try.func83 c83_eq r83 (Nat.le_of_ble_eq_true rfl) fun B σ hcl hsz=>?_
  clear hsz
  repeat' (first | (simp -implicitDefEqProofs only [*,Nat.reduceBEq,↓reduceIte,Nat.reduceEqDiff,Nat.reduceAdd,reduceCtorEq,AO.kill,AV.kill,Int.reduceLT,Int.reduceToNat,List.getElem?_nil,Nat.reduceMul,Nat.reducePow,Nat.reduceLeDiff,rowOf_mapD,rowOf_mapI,rowOf_mapA,List.getElem?_cons_zero,List.getElem?_cons_succ,take_map_len,take_map_app,List.getElem?_cons_zero,c83,r83,v83_1,v83_2,u83_3,u83_4,u83_5,u83_6,u83_7,u83_8,u83_9,u83_10,u83_11,u83_12,ty9,ty3,ty5,idxV,chr_eq,mvcgen_simp]) | (with_reducible refine And.intro ?_ ?_) | (refine loop_nat (s.size) (fun k=>∀ i,i < k → chrOk s i = true) (fun k=>[(0,.d (.v (.string s))),(5,I s.size),(6,I k)]) (fun k=>[]) ?_ (Wk.keep hcl ?_ ?_ ?_) fun k hk hF=>?_;rotate_left 1;(focus (simp [Fr.get,newF,Fr.map,AV.kill,AV.mapN,idxV,chr_eq]<;>fail));(focus (simp [sto,newL,Loc.kill,Loc.set,AO.kill,AV.kill,AV.mapN,idxV,chr_eq]<;>fail));(focus (simp [newL,Loc.kill,Loc.set,idxV,chr_eq]<;>fail));(try have hw:IntKind.i64.wrap ((k:Int) + 1) = (k:Int) + 1:=IntWalk.i64_in _ (by omega))) | (refine EndX.plain ?_) | (refine nil_split (fun hn=>?_) (fun hn=>?_)) | (refine gcall_no not_false ?_) | (refine gdcall_no not_false ?_) | (refine GuardS_of _ _ _ _ _ _ (fun hg=>?_) (fun hg=>?_)) | (refine GuardD_of _ _ _ _ (fun hg=>?_) (fun hg=>?_)) | (refine CondB_of _ _ _ _ _ _ _ ?_ (fun hg=>?_) (fun hg=>?_)))
  all_goals (try (first | ((first | unfold noN | unfold Fr.below | unfold Loc.below);simp [Fr.allN,AV.allN,AV.allNL,AO.allN];done) | rfl | trivial | assumption | (intro row hrow;simp only [List.mem_map] at hrow;obtain ⟨x,_,rfl⟩:=hrow;rfl) | (refine Wk.keep hcl ?_ ?_ ?_;(focus (simp [Fr.get,idxV,chr_eq]<;>fail));(focus (simp [sto,idxV,chr_eq]<;>fail));(focus (simp<;>fail))) | (simp [allP,opd,Fr.get,Fr.below,Fr.allN,AV.allN,AV.allNL,Loc.below,AO.allN,noN,killO,killT,killD,mkNames,AO.kill,AV.kill,AV.mapN,AV.mapNL];done) | (with_reducible exact ltD (by assumption)) | omega | (simp only [decide_eq_true_eq,decide_eq_false_iff_not] at *;omega)))
  all_goals first
    | (rw [letters_no (ltS (by assumption)) (by first | exact chr_1 (by assumption) | exact chr_2 (by assumption))]<;>rfl)
    | (have e:k = s.size:=by have:=geS (by assumption);omega
       subst e
       rw [letters_all hF]<;>rfl)
    | exact allS hF (chr_3 (by assumption) (by assumption))
theorem plain_p (s:ByteArray) (hs:s.size ≤ 2 ^ 47):Pure Try.prog 81 [.d (.v (.string s))] (Bo (lettersF s)):=by
  refine pure_of follows Try.func81 c81_eq r81 (Nat.le_of_ble_eq_true rfl) fun B σ hcl hsz=>?_
  clear hsz
  repeat' (first | (simp -implicitDefEqProofs only [*,Nat.reduceBEq,↓reduceIte,Nat.reduceEqDiff,Nat.reduceAdd,reduceCtorEq,AO.kill,AV.kill,Int.reduceLT,Int.reduceToNat,List.getElem?_nil,Nat.reduceMul,Nat.reducePow,Nat.reduceLeDiff,rowOf_mapD,rowOf_mapI,rowOf_mapA,List.getElem?_cons_zero,List.getElem?_cons_succ,take_map_len,take_map_app,List.getElem?_cons_zero,c81,r81,u81_1,v81_2,u81_3,u81_4,u81_5,u81_6,u81_7,u81_8,u81_9,u81_10,ty9,ty3,ty5,idxV,chr_eq,chr_w,chr_in,convV,mvcgen_simp]) | (with_reducible refine And.intro ?_ ?_) | (refine call_ro e58 ( In_p (chr s k) 33 126) rfl ?_ ?_ ?_ ?_) | (refine gcall_ro e58 ( In_p (chr s k) 33 126) rfl ?_ ?_ ?_ ?_) | (refine dcall_ro e58 ( In_p (chr s k) 33 126) rfl ?_ ?_ ?_ ?_) | (refine gdcall_ro rfl e58 ( In_p (chr s k) 33 126) rfl ?_ ?_ ?_ ?_) | (refine loop_nat (s.size) (fun k=>∀ i,i < k → chrOk s i = true) (fun k=>[(0,.d (.v (.string s))),(3,I k)]) (fun k=>[]) ?_ (Wk.keep hcl ?_ ?_ ?_) fun k hk hF=>?_;rotate_left 1;(focus (simp [Fr.get,newF,Fr.map,AV.kill,AV.mapN,idxV,chr_eq,chr_w,chr_in,convV]<;>fail));(focus (simp [sto,newL,Loc.kill,Loc.set,AO.kill,AV.kill,AV.mapN,idxV,chr_eq,chr_w,chr_in,convV]<;>fail));(focus (simp [newL,Loc.kill,Loc.set,idxV,chr_eq,chr_w,chr_in,convV]<;>fail));(try have hw:IntKind.i64.wrap ((k:Int) + 1) = (k:Int) + 1:=IntWalk.i64_in _ (by omega))) | (refine EndX.plain ?_) | (refine nil_split (fun hn=>?_) (fun hn=>?_)) | (refine gcall_no not_false ?_) | (refine gdcall_no not_false ?_) | (refine GuardS_of _ _ _ _ _ _ (fun hg=>?_) (fun hg=>?_)) | (refine GuardD_of _ _ _ _ (fun hg=>?_) (fun hg=>?_)) | (refine CondB_of _ _ _ _ _ _ _ ?_ (fun hg=>?_) (fun hg=>?_)))
  all_goals (try (first | ((first | unfold noN | unfold Fr.below | unfold Loc.below);simp [Fr.allN,AV.allN,AV.allNL,AO.allN];done) | rfl | trivial | assumption | (intro row hrow;simp only [List.mem_map] at hrow;obtain ⟨x,_,rfl⟩:=hrow;rfl) | (refine Wk.keep hcl ?_ ?_ ?_;(focus (simp [Fr.get,idxV,chr_eq,chr_w,chr_in,convV]<;>fail));(focus (simp [sto,idxV,chr_eq,chr_w,chr_in,convV]<;>fail));(focus (simp<;>fail))) | (simp [allP,opd,Fr.get,Fr.below,Fr.allN,AV.allN,AV.allNL,Loc.below,AO.allN,noN,killO,killT,killD,mkNames,AO.kill,AV.kill,AV.mapN,AV.mapNL];done) | (with_reducible exact ltD (by assumption)) | omega | (simp only [decide_eq_true_eq,decide_eq_false_iff_not] at *;omega)))
  all_goals first
    | (rw [letters_no (ltS (by assumption)) (by first | assumption | simpa using (by assumption:(!chrOk s k) = true))]<;>rfl)
    | (have e:k = s.size:=by have:=geS (by assumption);omega
       subst e
       rw [letters_all hF]<;>rfl)
    | exact allS hF (by first | assumption | simpa using (by assumption:(!chrOk s k) = false))
theorem word_p (s:ByteArray) (m:Int) (hm:m ≤ 2 ^ 47):Pure Try.prog 80 [.d (.v (.string s)),I m] (I (wordF s m)):=by
  refine pure_of follows Try.func80 c80_eq r80 (Nat.le_of_ble_eq_true rfl) fun B σ hcl hsz=>?_
  clear hsz
  repeat' (first | (simp -implicitDefEqProofs only [*,Nat.reduceBEq,↓reduceIte,Nat.reduceEqDiff,Nat.reduceAdd,reduceCtorEq,AO.kill,AV.kill,Int.reduceLT,Int.reduceToNat,List.getElem?_nil,Nat.reduceMul,Nat.reducePow,Nat.reduceLeDiff,rowOf_mapD,rowOf_mapI,rowOf_mapA,List.getElem?_cons_zero,List.getElem?_cons_succ,take_map_len,take_map_app,List.getElem?_cons_zero,c80,r80,u80_1,u80_2,u80_3,u80_4,u80_5,u80_6,u80_7,ty9,mvcgen_simp]) | (with_reducible refine And.intro ?_ ?_) | (refine call_ro e58 ( In_p _ _ _) rfl ?_ ?_ ?_ ?_) | (refine gcall_ro e58 ( In_p _ _ _) rfl ?_ ?_ ?_ ?_) | (refine dcall_ro e58 ( In_p _ _ _) rfl ?_ ?_ ?_ ?_) | (refine gdcall_ro rfl e58 ( In_p _ _ _) rfl ?_ ?_ ?_ ?_) | (refine call_ro e81 (plain_p s (szW (by assumption) hm)) rfl ?_ ?_ ?_ ?_) | (refine EndX.plain ?_) | (refine nil_split (fun hn=>?_) (fun hn=>?_)) | (refine gcall_no not_false ?_) | (refine gdcall_no not_false ?_) | (refine GuardS_of _ _ _ _ _ _ (fun hg=>?_) (fun hg=>?_)) | (refine GuardD_of _ _ _ _ (fun hg=>?_) (fun hg=>?_)) | (refine CondB_of _ _ _ _ _ _ _ ?_ (fun hg=>?_) (fun hg=>?_)))
  all_goals (try (first | ((first | unfold noN | unfold Fr.below | unfold Loc.below);simp [Fr.allN,AV.allN,AV.allNL,AO.allN];done) | rfl | trivial | assumption | (intro row hrow;simp only [List.mem_map] at hrow;obtain ⟨x,_,rfl⟩:=hrow;rfl) | (refine Wk.keep hcl ?_ ?_ ?_;(focus (simp [Fr.get]<;>fail));(focus (simp [sto]<;>fail));(focus (simp<;>fail))) | (simp [allP,opd,Fr.get,Fr.below,Fr.allN,AV.allN,AV.allNL,Loc.below,AO.allN,noN,killO,killT,killD,mkNames,AO.kill,AV.kill,AV.mapN,AV.mapNL];done) | (with_reducible exact ltD (by assumption)) | omega | (simp only [decide_eq_true_eq,decide_eq_false_iff_not] at *;omega)))
  all_goals (try (simp only [Bool.not_eq_true',Bool.not_eq_false'] at *))
  all_goals (try (simp only [wordF, *,cond_true,cond_false];done))
theorem name_p (s:ByteArray):Pure Try.prog 71 [.d (.v (.string s))] (I (wordF s 8)):=by
  refine pure_of follows Try.func71 c71_eq r71 (Nat.le_of_ble_eq_true rfl) fun B σ hcl hsz=>?_
  clear hsz
  repeat' (first | (simp -implicitDefEqProofs only [*,Nat.reduceBEq,↓reduceIte,Nat.reduceEqDiff,Nat.reduceAdd,reduceCtorEq,AO.kill,AV.kill,Int.reduceLT,Int.reduceToNat,List.getElem?_nil,Nat.reduceMul,Nat.reducePow,Nat.reduceLeDiff,rowOf_mapD,rowOf_mapI,rowOf_mapA,List.getElem?_cons_zero,List.getElem?_cons_succ,take_map_len,take_map_app,List.getElem?_cons_zero,c71,r71,v71_1,v71_2,u71_3,u71_4,u71_5,u71_6,u71_7,u71_8,u71_9,ty9,ty3,mvcgen_simp]) | (with_reducible refine And.intro ?_ ?_) | (refine call_ro e83 (letters_p s (by have:=of_decide_eq_false (by assumption:decide ((s.size:Int) > 8) = false);omega)) rfl ?_ ?_ ?_ ?_) | (refine EndX.plain ?_) | (refine nil_split (fun hn=>?_) (fun hn=>?_)) | (refine gcall_no not_false ?_) | (refine gdcall_no not_false ?_) | (refine GuardS_of _ _ _ _ _ _ (fun hg=>?_) (fun hg=>?_)) | (refine GuardD_of _ _ _ _ (fun hg=>?_) (fun hg=>?_)) | (refine CondB_of _ _ _ _ _ _ _ ?_ (fun hg=>?_) (fun hg=>?_)))
  all_goals (try (first | ((first | unfold noN | unfold Fr.below | unfold Loc.below);simp [Fr.allN,AV.allN,AV.allNL,AO.allN];done) | rfl | trivial | assumption | (intro row hrow;simp only [List.mem_map] at hrow;obtain ⟨x,_,rfl⟩:=hrow;rfl) | (refine Wk.keep hcl ?_ ?_ ?_;(focus (simp [Fr.get]<;>fail));(focus (simp [sto]<;>fail));(focus (simp<;>fail))) | (simp [allP,opd,Fr.get,Fr.below,Fr.allN,AV.allN,AV.allNL,Loc.below,AO.allN,noN,killO,killT,killD,mkNames,AO.kill,AV.kill,AV.mapN,AV.mapNL];done) | (with_reducible exact ltD (by assumption)) | omega | (simp only [decide_eq_true_eq,decide_eq_false_iff_not] at *;omega)))
  all_goals (try (simp only [Bool.not_eq_true',Bool.not_eq_false'] at *))
  all_goals first
    | (rw [wordF,inR_no1 (by assumption)]<;>rfl)
    | (rw [wordF,inR_no2 (by assumption)]<;>rfl)
    | (simp only [wordF,inR_yes (by assumption:decide ((s.size:Int) < 1) = false) (by assumption:decide ((s.size:Int) > 8) = false), *,cond_true,cond_false];done)
theorem key_p (s:ByteArray):Pure Try.prog 75 [.d (.v (.string s))] (I (wordF s 16)):=by
  refine pure_of follows Try.func75 c75_eq r75 (Nat.le_of_ble_eq_true rfl) fun B σ hcl hsz=>?_
  clear hsz
  repeat' (first | (simp -implicitDefEqProofs only [*,Nat.reduceBEq,↓reduceIte,Nat.reduceEqDiff,Nat.reduceAdd,reduceCtorEq,AO.kill,AV.kill,Int.reduceLT,Int.reduceToNat,List.getElem?_nil,Nat.reduceMul,Nat.reducePow,Nat.reduceLeDiff,rowOf_mapD,rowOf_mapI,rowOf_mapA,List.getElem?_cons_zero,List.getElem?_cons_succ,take_map_len,take_map_app,List.getElem?_cons_zero,c75,r75,v75_1,v75_2,u75_3,u75_4,u75_5,u75_6,u75_7,u75_8,u75_9,ty9,ty3,mvcgen_simp]) | (with_reducible refine And.intro ?_ ?_) | (refine call_ro e83 (letters_p s (by have:=of_decide_eq_false (by assumption:decide ((s.size:Int) > 16) = false);omega)) rfl ?_ ?_ ?_ ?_) | (refine EndX.plain ?_) | (refine nil_split (fun hn=>?_) (fun hn=>?_)) | (refine gcall_no not_false ?_) | (refine gdcall_no not_false ?_) | (refine GuardS_of _ _ _ _ _ _ (fun hg=>?_) (fun hg=>?_)) | (refine GuardD_of _ _ _ _ (fun hg=>?_) (fun hg=>?_)) | (refine CondB_of _ _ _ _ _ _ _ ?_ (fun hg=>?_) (fun hg=>?_)))
  all_goals (try (first | ((first | unfold noN | unfold Fr.below | unfold Loc.below);simp [Fr.allN,AV.allN,AV.allNL,AO.allN];done) | rfl | trivial | assumption | (intro row hrow;simp only [List.mem_map] at hrow;obtain ⟨x,_,rfl⟩:=hrow;rfl) | (refine Wk.keep hcl ?_ ?_ ?_;(focus (simp [Fr.get]<;>fail));(focus (simp [sto]<;>fail));(focus (simp<;>fail))) | (simp [allP,opd,Fr.get,Fr.below,Fr.allN,AV.allN,AV.allNL,Loc.below,AO.allN,noN,killO,killT,killD,mkNames,AO.kill,AV.kill,AV.mapN,AV.mapNL];done) | (with_reducible exact ltD (by assumption)) | omega | (simp only [decide_eq_true_eq,decide_eq_false_iff_not] at *;omega)))
  all_goals (try (simp only [Bool.not_eq_true',Bool.not_eq_false'] at *))
  all_goals first
    | (rw [wordF,inR_no1 (by assumption)]<;>rfl)
    | (rw [wordF,inR_no2 (by assumption)]<;>rfl)
    | (simp only [wordF,inR_yes (by assumption:decide ((s.size:Int) < 1) = false) (by assumption:decide ((s.size:Int) > 16) = false), *,cond_true,cond_false];done)
theorem nameR_p (s:ByteArray):Pure Try.prog 59 [.d (.v (.string s))] (I (wordF s 8)):=by
  refine pure_of follows Try.func59 c59_eq r59 (Nat.le_of_ble_eq_true rfl) fun B σ hcl hsz=>?_
  clear hsz
  repeat' (first | (simp -implicitDefEqProofs only [*,Nat.reduceBEq,↓reduceIte,Nat.reduceEqDiff,Nat.reduceAdd,reduceCtorEq,AO.kill,AV.kill,Int.reduceLT,Int.reduceToNat,List.getElem?_nil,Nat.reduceMul,Nat.reducePow,Nat.reduceLeDiff,rowOf_mapD,rowOf_mapI,rowOf_mapA,List.getElem?_cons_zero,List.getElem?_cons_succ,take_map_len,take_map_app,List.getElem?_cons_zero,c59,r59,u59_1,mvcgen_simp]) | (with_reducible refine And.intro ?_ ?_) | (refine call_ro e80 ( word_p s 8 (by decide)) rfl ?_ ?_ ?_ ?_) | (refine gcall_ro e80 ( word_p s 8 (by decide)) rfl ?_ ?_ ?_ ?_) | (refine dcall_ro e80 ( word_p s 8 (by decide)) rfl ?_ ?_ ?_ ?_) | (refine gdcall_ro rfl e80 ( word_p s 8 (by decide)) rfl ?_ ?_ ?_ ?_) | (refine EndX.plain ?_) | (refine nil_split (fun hn=>?_) (fun hn=>?_)) | (refine gcall_no not_false ?_) | (refine gdcall_no not_false ?_) | (refine GuardS_of _ _ _ _ _ _ (fun hg=>?_) (fun hg=>?_)) | (refine GuardD_of _ _ _ _ (fun hg=>?_) (fun hg=>?_)) | (refine CondB_of _ _ _ _ _ _ _ ?_ (fun hg=>?_) (fun hg=>?_)))
  all_goals (try (first | ((first | unfold noN | unfold Fr.below | unfold Loc.below);simp [Fr.allN,AV.allN,AV.allNL,AO.allN];done) | rfl | trivial | assumption | (intro row hrow;simp only [List.mem_map] at hrow;obtain ⟨x,_,rfl⟩:=hrow;rfl) | (refine Wk.keep hcl ?_ ?_ ?_;(focus (simp [Fr.get]<;>fail));(focus (simp [sto]<;>fail));(focus (simp<;>fail))) | (simp [allP,opd,Fr.get,Fr.below,Fr.allN,AV.allN,AV.allNL,Loc.below,AO.allN,noN,killO,killT,killD,mkNames,AO.kill,AV.kill,AV.mapN,AV.mapNL];done) | (with_reducible exact ltD (by assumption)) | omega | (simp only [decide_eq_true_eq,decide_eq_false_iff_not] at *;omega)))
theorem keyR_p (s:ByteArray):Pure Try.prog 63 [.d (.v (.string s))] (I (wordF s 16)):=by
  refine pure_of follows Try.func63 c63_eq r63 (Nat.le_of_ble_eq_true rfl) fun B σ hcl hsz=>?_
  clear hsz
  repeat' (first | (simp -implicitDefEqProofs only [*,Nat.reduceBEq,↓reduceIte,Nat.reduceEqDiff,Nat.reduceAdd,reduceCtorEq,AO.kill,AV.kill,Int.reduceLT,Int.reduceToNat,List.getElem?_nil,Nat.reduceMul,Nat.reducePow,Nat.reduceLeDiff,rowOf_mapD,rowOf_mapI,rowOf_mapA,List.getElem?_cons_zero,List.getElem?_cons_succ,take_map_len,take_map_app,List.getElem?_cons_zero,c63,r63,u63_1,mvcgen_simp]) | (with_reducible refine And.intro ?_ ?_) | (refine call_ro e80 ( word_p s 16 (by decide)) rfl ?_ ?_ ?_ ?_) | (refine gcall_ro e80 ( word_p s 16 (by decide)) rfl ?_ ?_ ?_ ?_) | (refine dcall_ro e80 ( word_p s 16 (by decide)) rfl ?_ ?_ ?_ ?_) | (refine gdcall_ro rfl e80 ( word_p s 16 (by decide)) rfl ?_ ?_ ?_ ?_) | (refine EndX.plain ?_) | (refine nil_split (fun hn=>?_) (fun hn=>?_)) | (refine gcall_no not_false ?_) | (refine gdcall_no not_false ?_) | (refine GuardS_of _ _ _ _ _ _ (fun hg=>?_) (fun hg=>?_)) | (refine GuardD_of _ _ _ _ (fun hg=>?_) (fun hg=>?_)) | (refine CondB_of _ _ _ _ _ _ _ ?_ (fun hg=>?_) (fun hg=>?_)))
  all_goals (try (first | ((first | unfold noN | unfold Fr.below | unfold Loc.below);simp [Fr.allN,AV.allN,AV.allNL,AO.allN];done) | rfl | trivial | assumption | (intro row hrow;simp only [List.mem_map] at hrow;obtain ⟨x,_,rfl⟩:=hrow;rfl) | (refine Wk.keep hcl ?_ ?_ ?_;(focus (simp [Fr.get]<;>fail));(focus (simp [sto]<;>fail));(focus (simp<;>fail))) | (simp [allP,opd,Fr.get,Fr.below,Fr.allN,AV.allN,AV.allNL,Loc.below,AO.allN,noN,killO,killT,killD,mkNames,AO.kill,AV.kill,AV.mapN,AV.mapNL];done) | (with_reducible exact ltD (by assumption)) | omega | (simp only [decide_eq_true_eq,decide_eq_false_iff_not] at *;omega)))
theorem rule_p (x:ByteArray) (f d:Int):Pure Try.prog 72 [.agg [.d (.v (.string x)),I f,I d]] (I (ruleF x f d)):=by
  refine pure_of follows Try.func72 c72_eq r72 (Nat.le_of_ble_eq_true rfl) fun B σ hcl hsz=>?_
  clear hsz
  repeat' (first | (simp -implicitDefEqProofs only [*,Nat.reduceBEq,↓reduceIte,Nat.reduceEqDiff,Nat.reduceAdd,reduceCtorEq,AO.kill,AV.kill,Int.reduceLT,Int.reduceToNat,List.getElem?_nil,Nat.reduceMul,Nat.reducePow,Nat.reduceLeDiff,rowOf_mapD,rowOf_mapI,rowOf_mapA,List.getElem?_cons_zero,List.getElem?_cons_succ,take_map_len,take_map_app,List.getElem?_cons_zero,c72,r72,u72_1,u72_2,v72_3,v72_4,v72_5,v72_6,u72_7,u72_8,u72_9,u72_10,u72_11,u72_12,u72_13,u72_14,ty45,ty9,ty3,mvcgen_simp]) | (with_reducible refine And.intro ?_ ?_) | (refine call_ro e83 (letters_p x (by have:=of_decide_eq_false (by assumption:decide ((x.size:Int) > 16) = false);omega)) rfl ?_ ?_ ?_ ?_) | (refine EndX.plain ?_) | (refine nil_split (fun hn=>?_) (fun hn=>?_)) | (refine gcall_no not_false ?_) | (refine gdcall_no not_false ?_) | (refine GuardS_of _ _ _ _ _ _ (fun hg=>?_) (fun hg=>?_)) | (refine GuardD_of _ _ _ _ (fun hg=>?_) (fun hg=>?_)) | (refine CondB_of _ _ _ _ _ _ _ ?_ (fun hg=>?_) (fun hg=>?_)))
  all_goals (try (first | ((first | unfold noN | unfold Fr.below | unfold Loc.below);simp [Fr.allN,AV.allN,AV.allNL,AO.allN];done) | rfl | trivial | assumption | (intro row hrow;simp only [List.mem_map] at hrow;obtain ⟨x,_,rfl⟩:=hrow;rfl) | (refine Wk.keep hcl ?_ ?_ ?_;(focus (simp [Fr.get]<;>fail));(focus (simp [sto]<;>fail));(focus (simp<;>fail))) | (simp [allP,opd,Fr.get,Fr.below,Fr.allN,AV.allN,AV.allNL,Loc.below,AO.allN,noN,killO,killT,killD,mkNames,AO.kill,AV.kill,AV.mapN,AV.mapNL];done) | (with_reducible exact ltD (by assumption)) | omega | (simp only [decide_eq_true_eq,decide_eq_false_iff_not] at *;omega)))
  all_goals (try (simp only [Bool.not_eq_true',Bool.not_eq_false'] at *))
  all_goals (simp only [ruleF, *,cond_true,cond_false])
  all_goals first
    | done
    | (rw [inR_no1 (by assumption)]<;>rfl)
    | (rw [inR_no2 (by assumption)]<;>rfl)
    | (rw [inR_yes (by assumption:decide (f < -1) = false) (by assumption),inR_no1 (by assumption)]<;>rfl)
    | (rw [inR_yes (by assumption:decide (f < -1) = false) (by assumption),inR_no2 (by assumption)]<;>rfl)
    | (rw [inR_yes (by assumption:decide (f < -1) = false) (by assumption),inR_yes (by assumption:decide (d < -1) = false) (by assumption)]<;>rfl)
theorem ruleR_p (x:ByteArray) (f d:Int):Pure Try.prog 60 [.agg [.d (.v (.string x)),I f,I d]] (I (ruleF x f d)):=by
  refine pure_of follows Try.func60 c60_eq r60 (Nat.le_of_ble_eq_true rfl) fun B σ hcl hsz=>?_
  clear hsz
  repeat' (first | (simp -implicitDefEqProofs only [*,Nat.reduceBEq,↓reduceIte,Nat.reduceEqDiff,Nat.reduceAdd,reduceCtorEq,AO.kill,AV.kill,Int.reduceLT,Int.reduceToNat,List.getElem?_nil,Nat.reduceMul,Nat.reducePow,Nat.reduceLeDiff,rowOf_mapD,rowOf_mapI,rowOf_mapA,List.getElem?_cons_zero,List.getElem?_cons_succ,take_map_len,take_map_app,List.getElem?_cons_zero,c60,r60,u60_1,u60_2,u60_3,u60_4,v60_5,v60_6,u60_7,u60_8,u60_9,u60_10,u60_11,u60_12,ty45,ty9,ty3,mvcgen_simp]) | (with_reducible refine And.intro ?_ ?_) | (refine call_ro e58 ( In_p f _ _) rfl ?_ ?_ ?_ ?_) | (refine gcall_ro e58 ( In_p f _ _) rfl ?_ ?_ ?_ ?_) | (refine dcall_ro e58 ( In_p f _ _) rfl ?_ ?_ ?_ ?_) | (refine gdcall_ro rfl e58 ( In_p f _ _) rfl ?_ ?_ ?_ ?_) | (refine call_ro e58 ( In_p d _ _) rfl ?_ ?_ ?_ ?_) | (refine gcall_ro e58 ( In_p d _ _) rfl ?_ ?_ ?_ ?_) | (refine dcall_ro e58 ( In_p d _ _) rfl ?_ ?_ ?_ ?_) | (refine gdcall_ro rfl e58 ( In_p d _ _) rfl ?_ ?_ ?_ ?_) | (refine call_ro e81 (plain_p x (by have:=of_decide_eq_false (by assumption:decide ((x.size:Int) > 16) = false);omega)) rfl ?_ ?_ ?_ ?_) | (refine EndX.plain ?_) | (refine nil_split (fun hn=>?_) (fun hn=>?_)) | (refine gcall_no not_false ?_) | (refine gdcall_no not_false ?_) | (refine GuardS_of _ _ _ _ _ _ (fun hg=>?_) (fun hg=>?_)) | (refine GuardD_of _ _ _ _ (fun hg=>?_) (fun hg=>?_)) | (refine CondB_of _ _ _ _ _ _ _ ?_ (fun hg=>?_) (fun hg=>?_)))
  all_goals (try (first | ((first | unfold noN | unfold Fr.below | unfold Loc.below);simp [Fr.allN,AV.allN,AV.allNL,AO.allN];done) | rfl | trivial | assumption | (intro row hrow;simp only [List.mem_map] at hrow;obtain ⟨x,_,rfl⟩:=hrow;rfl) | (refine Wk.keep hcl ?_ ?_ ?_;(focus (simp [Fr.get]<;>fail));(focus (simp [sto]<;>fail));(focus (simp<;>fail))) | (simp [allP,opd,Fr.get,Fr.below,Fr.allN,AV.allN,AV.allNL,Loc.below,AO.allN,noN,killO,killT,killD,mkNames,AO.kill,AV.kill,AV.mapN,AV.mapNL];done) | (with_reducible exact ltD (by assumption)) | omega | (simp only [decide_eq_true_eq,decide_eq_false_iff_not] at *;omega)))
  all_goals (try (simp only [Bool.not_eq_true',Bool.not_eq_false'] at *))
  all_goals (try (simp only [ruleF, *,cond_true,cond_false,Bool.false_or,Bool.true_or,Bool.or_true,Bool.or_false,Bool.and_true,Bool.true_and,Bool.false_and,Bool.and_false,Bool.not_true,Bool.not_false,cond_true,cond_false];done))
end Go.Proofs.Ytijpmidnclbhpaa
