/- Names,keys and rules that may be. -/
import Derived.Test.YtikgiadbkjmabaaStD
import Derived.Test.YtikgiadbkjmabaaInB
import Derived.Test.YtikgiadbkjmabaaTypes
namespace Go.Proofs.Ytikgiadbkjmabaa
open Go.RowKit
set_option maxRecDepth 100000
def o42_1:List SO:=((SO.mk (some 17) (.bin .gtr 5 (.tmp 16) (.const (Value.int .u8 126))) (some (13 ,false))) :: (SO.mk (some 18) (.pick (.tmp 13) (.const (Value.bool true)) (.tmp 17)) none) :: [])
theorem v42_1:type_of% (@swl _ _ o42_1.eq_1):=@swl _ _ o42_1.eq_1
def o42_2:List SO:=((SO.mk (some 13) (.move (.tmp 12)) none) :: (SO.mk (some 14) (.move (.tmp 0)) (some (13 ,false))) :: (SO.mk (some 15) (.move (.tmp 3)) (some (13 ,false))) :: (SO.mk (some 16) (.idx 9 (.tmp 14) (.tmp 15)) (some (13 ,false))) :: o42_1)
theorem v42_2:type_of% (@swl _ _ o42_2.eq_1):=@swl _ _ o42_2.eq_1
def c42_3:SC:=(.seq (.reg [SO.mk (some 2) (.move (.const (Value.bool false))) none]) (.keep [2] .ret))
theorem u42_3:type_of% (@swc _ _ c42_3.eq_1):=@swc _ _ c42_3.eq_1
def c42_4:SC:=(.cond (.tmp 18) c42_3 .skip)
theorem u42_4:type_of% (@swc _ _ c42_4.eq_1):=@swc _ _ c42_4.eq_1
def c42_5:SC:=(.seq (.reg ((SO.mk (some 9) (.move (.tmp 0)) none) :: (SO.mk (some 10) (.move (.tmp 3)) none) :: (SO.mk (some 11) (.idx 9 (.tmp 9) (.tmp 10)) none) :: (SO.mk (some 12) (.bin .lss 5 (.tmp 11) (.const (Value.int .u8 33))) none) :: o42_2)) (.keep [18,6,5,0] c42_4))
theorem u42_5:type_of% (@swc _ _ c42_5.eq_1):=@swc _ _ c42_5.eq_1
def c42_6:SC:=(.reg [SO.mk (some 19) (.bin .add 3 (.tmp 6) (.const (Value.int .i64 1))) none,SO.mk (some 6) (.move (.tmp 19)) none])
theorem u42_6:type_of% (@swc _ _ c42_6.eq_1):=@swc _ _ c42_6.eq_1
def c42_7:SC:=(.seq (.block 1 (.seq (.reg [SO.mk (some 8) (.move (.tmp 6)) none,SO.mk (some 3) (.move (.tmp 8)) none]) (.keep [3,6,5,0] c42_5))) (.keep [6,5,0] c42_6))
theorem u42_7:type_of% (@swc _ _ c42_7.eq_1):=@swc _ _ c42_7.eq_1
def c42_8:SC:=(.seq (.cond (.tmp 7) .skip (.exit 0)) (.keep [6,5,0] c42_7))
theorem u42_8:type_of% (@swc _ _ c42_8.eq_1):=@swc _ _ c42_8.eq_1
def c42_9:SC:=(.seq (.reg [SO.mk (some 7) (.bin .lss 3 (.tmp 6) (.tmp 5)) none]) (.keep [7,0,5,6] c42_8))
theorem u42_9:type_of% (@swc _ _ c42_9.eq_1):=@swc _ _ c42_9.eq_1
def c42_10:SC:=(.block 0 (.loop (.keep [0,5,6] c42_9)))
theorem u42_10:type_of% (@swc _ _ c42_10.eq_1):=@swc _ _ c42_10.eq_1
def c42_11:SC:=(.seq (.reg [SO.mk (some 2) (.move (.const (Value.bool true))) none]) (.keep [2] .ret))
theorem u42_11:type_of% (@swc _ _ c42_11.eq_1):=@swc _ _ c42_11.eq_1
def c42_12:SC:=(.seq (.seq (.reg [SO.mk (some 4) (.move (.tmp 0)) none,SO.mk (some 5) (.len 9 (.tmp 4)) none,SO.mk (some 6) (.move (.const (Value.int .i64 0))) none]) (.keep [0,5,6] c42_10)) (.keep [] c42_11))
theorem u42_12:type_of% (@swc _ _ c42_12.eq_1):=@swc _ _ c42_12.eq_1
def c42:SC:=(.seq (.reg [SO.mk (some 2) (.move (.const (Value.bool false))) none]) (.keep [0] c42_12))
theorem c42_eq:annC Try.f42 = some c42:=by kernel_rfl
theorem r42:Try.f42.results.toList = [.tmp 2]:=by kernel_rfl
theorem e42:enters Try.prog 42 = true:=by kernel_rfl
def c33_1:SC:=(.cond (.tmp 7) .skip (.exit 0))
theorem u33_1:type_of% (@swc _ _ c33_1.eq_1):=@swc _ _ c33_1.eq_1
def o33_2:List SO:=((SO.mk (some 14) (.call 34 [(.tmp 13),(.const (Value.int .i64 33)),(.const (Value.int .i64 126))]) none) :: (SO.mk (some 15) (.un .not (.tmp 14)) none) :: [])
theorem v33_2:type_of% (@swl _ _ o33_2.eq_1):=@swl _ _ o33_2.eq_1
def c33_3:SC:=(.seq (.reg [SO.mk (some 2) (.move (.const (Value.bool false))) none]) (.keep [2] .ret))
theorem u33_3:type_of% (@swc _ _ c33_3.eq_1):=@swc _ _ c33_3.eq_1
def c33_4:SC:=(.cond (.tmp 15) c33_3 .skip)
theorem u33_4:type_of% (@swc _ _ c33_4.eq_1):=@swc _ _ c33_4.eq_1
def c33_5:SC:=(.reg [SO.mk (some 8) (.move (.tmp 3)) none,SO.mk (some 9) (.bin .add 3 (.tmp 8) (.const (Value.int .i64 1))) none,SO.mk (some 3) (.move (.tmp 9)) none])
theorem u33_5:type_of% (@swc _ _ c33_5.eq_1):=@swc _ _ c33_5.eq_1
def c33_6:SC:=(.seq (.block 1 (.seq (.reg ((SO.mk (some 10) (.move (.tmp 0)) none) :: (SO.mk (some 11) (.move (.tmp 3)) none) :: (SO.mk (some 12) (.idx 9 (.tmp 10) (.tmp 11)) none) :: (SO.mk (some 13) (.conv 5 3 (.tmp 12)) none) :: o33_2)) (.keep [15,3,0] c33_4))) (.keep [3,0] c33_5))
theorem u33_6:type_of% (@swc _ _ c33_6.eq_1):=@swc _ _ c33_6.eq_1
def c33_7:SC:=(.seq (.seq (.reg [SO.mk (some 4) (.move (.tmp 3)) none,SO.mk (some 5) (.move (.tmp 0)) none,SO.mk (some 6) (.len 9 (.tmp 5)) none,SO.mk (some 7) (.bin .lss 3 (.tmp 4) (.tmp 6)) none]) (.keep [7,0,3] c33_1)) (.keep [3,0] c33_6))
theorem u33_7:type_of% (@swc _ _ c33_7.eq_1):=@swc _ _ c33_7.eq_1
def c33_8:SC:=(.block 0 (.loop (.keep [0,3] c33_7)))
theorem u33_8:type_of% (@swc _ _ c33_8.eq_1):=@swc _ _ c33_8.eq_1
def c33_9:SC:=(.seq (.reg [SO.mk (some 2) (.move (.const (Value.bool true))) none]) (.keep [2] .ret))
theorem u33_9:type_of% (@swc _ _ c33_9.eq_1):=@swc _ _ c33_9.eq_1
def c33_10:SC:=(.seq (.seq (.reg [SO.mk (some 3) (.move (.const (Value.int .i64 0))) none]) (.keep [0,3] c33_8)) (.keep [] c33_9))
theorem u33_10:type_of% (@swc _ _ c33_10.eq_1):=@swc _ _ c33_10.eq_1
def c33:SC:=(.seq (.reg [SO.mk (some 2) (.move (.const (Value.bool false))) none]) (.keep [0] c33_10))
theorem c33_eq:annC Try.f33 = some c33:=by kernel_rfl
theorem r33:Try.f33.results.toList = [.tmp 2]:=by kernel_rfl
theorem e33:enters Try.prog 33 = true:=by kernel_rfl
def c79_1:SC:=(.seq (.reg [SO.mk (some 4) (.move (.const (Value.int .i64 1))) none]) (.keep [4] .ret))
theorem u79_1:type_of% (@swc _ _ c79_1.eq_1):=@swc _ _ c79_1.eq_1
def c79_2:SC:=(.cond (.tmp 9) c79_1 .skip)
theorem u79_2:type_of% (@swc _ _ c79_2.eq_1):=@swc _ _ c79_2.eq_1
def c79_3:SC:=(.seq (.reg [SO.mk (some 4) (.move (.const (Value.int .i64 4))) none]) (.keep [4] .ret))
theorem u79_3:type_of% (@swc _ _ c79_3.eq_1):=@swc _ _ c79_3.eq_1
def c79_4:SC:=(.cond (.tmp 12) c79_3 .skip)
theorem u79_4:type_of% (@swc _ _ c79_4.eq_1):=@swc _ _ c79_4.eq_1
def c79_5:SC:=(.seq (.reg [SO.mk (some 4) (.move (.const (Value.int .i64 0))) none]) (.keep [4] .ret))
theorem u79_5:type_of% (@swc _ _ c79_5.eq_1):=@swc _ _ c79_5.eq_1
def c79_6:SC:=(.seq (.seq (.reg [SO.mk (some 10) (.move (.tmp 0)) none,SO.mk (some 11) (.call 33 [(.tmp 10)]) none,SO.mk (some 12) (.un .not (.tmp 11)) none]) (.keep [12] c79_4)) (.keep [] c79_5))
theorem u79_6:type_of% (@swc _ _ c79_6.eq_1):=@swc _ _ c79_6.eq_1
def c79_7:SC:=(.seq (.seq (.reg [SO.mk (some 5) (.move (.tmp 0)) none,SO.mk (some 6) (.len 9 (.tmp 5)) none,SO.mk (some 7) (.move (.tmp 1)) none,SO.mk (some 8) (.call 34 [(.tmp 6),(.const (Value.int .i64 1)),(.tmp 7)]) none,SO.mk (some 9) (.un .not (.tmp 8)) none]) (.keep [9,0] c79_2)) (.keep [0] c79_6))
theorem u79_7:type_of% (@swc _ _ c79_7.eq_1):=@swc _ _ c79_7.eq_1
def c79:SC:=(.seq (.reg [SO.mk (some 4) (.move (.const (Value.int .i64 0))) none]) (.keep [1,0] c79_7))
theorem c79_eq:annC Try.f79 = some c79:=by kernel_rfl
theorem r79:Try.f79.results.toList = [.tmp 4]:=by kernel_rfl
theorem e79:enters Try.prog 79 = true:=by kernel_rfl
def o60_1:List SO:=((SO.mk (some 3) (.move (.tmp 11)) none) :: [])
theorem v60_1:type_of% (@swl _ _ o60_1.eq_1):=@swl _ _ o60_1.eq_1
def o60_2:List SO:=((SO.mk (some 8) (.move (.tmp 0)) (some (7 ,false))) :: (SO.mk (some 9) (.len 9 (.tmp 8)) (some (7 ,false))) :: (SO.mk (some 10) (.bin .gtr 3 (.tmp 9) (.const (Value.int .i64 8))) (some (7 ,false))) :: (SO.mk (some 11) (.pick (.tmp 7) (.const (Value.bool true)) (.tmp 10)) none) :: o60_1)
theorem v60_2:type_of% (@swl _ _ o60_2.eq_1):=@swl _ _ o60_2.eq_1
def c60_3:SC:=(.seq (.reg [SO.mk (some 2) (.move (.const (Value.int .i64 1))) none]) (.keep [2] .ret))
theorem u60_3:type_of% (@swc _ _ c60_3.eq_1):=@swc _ _ c60_3.eq_1
def c60_4:SC:=(.seq (.reg [SO.mk (some 2) (.move (.const (Value.int .i64 4))) none]) (.keep [2] .ret))
theorem u60_4:type_of% (@swc _ _ c60_4.eq_1):=@swc _ _ c60_4.eq_1
def c60_5:SC:=(.cond (.tmp 12) c60_4 .skip)
theorem u60_5:type_of% (@swc _ _ c60_5.eq_1):=@swc _ _ c60_5.eq_1
def c60_6:SC:=(.seq (.reg [SO.mk (some 13) (.move (.tmp 0)) none,SO.mk (some 14) (.call 42 [(.tmp 13)]) none,SO.mk (some 15) (.un .not (.tmp 14)) none,SO.mk (some 12) (.move (.tmp 15)) none]) (.keep [12] c60_5))
theorem u60_6:type_of% (@swc _ _ c60_6.eq_1):=@swc _ _ c60_6.eq_1
def c60_7:SC:=(.cond (.tmp 3) c60_3 c60_6)
theorem u60_7:type_of% (@swc _ _ c60_7.eq_1):=@swc _ _ c60_7.eq_1
def c60_8:SC:=(.seq (.reg [SO.mk (some 2) (.move (.const (Value.int .i64 0))) none]) (.keep [2] .ret))
theorem u60_8:type_of% (@swc _ _ c60_8.eq_1):=@swc _ _ c60_8.eq_1
def c60_9:SC:=(.seq (.block 0 (.seq (.reg ((SO.mk (some 4) (.move (.tmp 0)) none) :: (SO.mk (some 5) (.len 9 (.tmp 4)) none) :: (SO.mk (some 6) (.bin .lss 3 (.tmp 5) (.const (Value.int .i64 1))) none) :: (SO.mk (some 7) (.move (.tmp 6)) none) :: o60_2)) (.keep [3,0] c60_7))) (.keep [] c60_8))
theorem u60_9:type_of% (@swc _ _ c60_9.eq_1):=@swc _ _ c60_9.eq_1
def c60:SC:=(.seq (.reg [SO.mk (some 2) (.move (.const (Value.int .i64 0))) none]) (.keep [0] c60_9))
theorem c60_eq:annC Try.f60 = some c60:=by kernel_rfl
theorem r60:Try.f60.results.toList = [.tmp 2]:=by kernel_rfl
theorem e60:enters Try.prog 60 = true:=by kernel_rfl
def o63_1:List SO:=((SO.mk (some 3) (.move (.tmp 11)) none) :: [])
theorem v63_1:type_of% (@swl _ _ o63_1.eq_1):=@swl _ _ o63_1.eq_1
def o63_2:List SO:=((SO.mk (some 8) (.move (.tmp 0)) (some (7 ,false))) :: (SO.mk (some 9) (.len 9 (.tmp 8)) (some (7 ,false))) :: (SO.mk (some 10) (.bin .gtr 3 (.tmp 9) (.const (Value.int .i64 16))) (some (7 ,false))) :: (SO.mk (some 11) (.pick (.tmp 7) (.const (Value.bool true)) (.tmp 10)) none) :: o63_1)
theorem v63_2:type_of% (@swl _ _ o63_2.eq_1):=@swl _ _ o63_2.eq_1
def c63_3:SC:=(.seq (.reg [SO.mk (some 2) (.move (.const (Value.int .i64 1))) none]) (.keep [2] .ret))
theorem u63_3:type_of% (@swc _ _ c63_3.eq_1):=@swc _ _ c63_3.eq_1
def c63_4:SC:=(.seq (.reg [SO.mk (some 2) (.move (.const (Value.int .i64 4))) none]) (.keep [2] .ret))
theorem u63_4:type_of% (@swc _ _ c63_4.eq_1):=@swc _ _ c63_4.eq_1
def c63_5:SC:=(.cond (.tmp 12) c63_4 .skip)
theorem u63_5:type_of% (@swc _ _ c63_5.eq_1):=@swc _ _ c63_5.eq_1
def c63_6:SC:=(.seq (.reg [SO.mk (some 13) (.move (.tmp 0)) none,SO.mk (some 14) (.call 42 [(.tmp 13)]) none,SO.mk (some 15) (.un .not (.tmp 14)) none,SO.mk (some 12) (.move (.tmp 15)) none]) (.keep [12] c63_5))
theorem u63_6:type_of% (@swc _ _ c63_6.eq_1):=@swc _ _ c63_6.eq_1
def c63_7:SC:=(.cond (.tmp 3) c63_3 c63_6)
theorem u63_7:type_of% (@swc _ _ c63_7.eq_1):=@swc _ _ c63_7.eq_1
def c63_8:SC:=(.seq (.reg [SO.mk (some 2) (.move (.const (Value.int .i64 0))) none]) (.keep [2] .ret))
theorem u63_8:type_of% (@swc _ _ c63_8.eq_1):=@swc _ _ c63_8.eq_1
def c63_9:SC:=(.seq (.block 0 (.seq (.reg ((SO.mk (some 4) (.move (.tmp 0)) none) :: (SO.mk (some 5) (.len 9 (.tmp 4)) none) :: (SO.mk (some 6) (.bin .lss 3 (.tmp 5) (.const (Value.int .i64 1))) none) :: (SO.mk (some 7) (.move (.tmp 6)) none) :: o63_2)) (.keep [3,0] c63_7))) (.keep [] c63_8))
theorem u63_9:type_of% (@swc _ _ c63_9.eq_1):=@swc _ _ c63_9.eq_1
def c63:SC:=(.seq (.reg [SO.mk (some 2) (.move (.const (Value.int .i64 0))) none]) (.keep [0] c63_9))
theorem c63_eq:annC Try.f63 = some c63:=by kernel_rfl
theorem r63:Try.f63.results.toList = [.tmp 2]:=by kernel_rfl
theorem e63:enters Try.prog 63 = true:=by kernel_rfl
def c49_1:SC:=(.seq (.reg [SO.mk (some 3) (.move (.tmp 0)) none,SO.mk (some 4) (.call 79 [(.tmp 3),(.const (Value.int .i64 8))]) none,SO.mk (some 2) (.move (.tmp 4)) none]) (.keep [2] .ret))
theorem u49_1:type_of% (@swc _ _ c49_1.eq_1):=@swc _ _ c49_1.eq_1
def c49:SC:=(.seq (.reg [SO.mk (some 2) (.move (.const (Value.int .i64 0))) none]) (.keep [0] c49_1))
theorem c49_eq:annC Try.f49 = some c49:=by kernel_rfl
theorem r49:Try.f49.results.toList = [.tmp 2]:=by kernel_rfl
theorem e49:enters Try.prog 49 = true:=by kernel_rfl
def c52_1:SC:=(.seq (.reg [SO.mk (some 3) (.move (.tmp 0)) none,SO.mk (some 4) (.call 79 [(.tmp 3),(.const (Value.int .i64 16))]) none,SO.mk (some 2) (.move (.tmp 4)) none]) (.keep [2] .ret))
theorem u52_1:type_of% (@swc _ _ c52_1.eq_1):=@swc _ _ c52_1.eq_1
def c52:SC:=(.seq (.reg [SO.mk (some 2) (.move (.const (Value.int .i64 0))) none]) (.keep [0] c52_1))
theorem c52_eq:annC Try.f52 = some c52:=by kernel_rfl
theorem r52:Try.f52.results.toList = [.tmp 2]:=by kernel_rfl
theorem e52:enters Try.prog 52 = true:=by kernel_rfl
def c21_1:SC:=(.seq (.reg [SO.mk (some 2) (.move (.const (Value.int .i64 1))) none]) (.keep [2] .ret))
theorem u21_1:type_of% (@swc _ _ c21_1.eq_1):=@swc _ _ c21_1.eq_1
def c21_2:SC:=(.seq (.reg [SO.mk (some 2) (.move (.const (Value.int .i64 4))) none]) (.keep [2] .ret))
theorem u21_2:type_of% (@swc _ _ c21_2.eq_1):=@swc _ _ c21_2.eq_1
def o21_3:List SO:=((SO.mk (some 30) (.bin .gtr 3 (.tmp 29) (.const (Value.int .i64 1073741824))) (some (27 ,false))) :: (SO.mk (some 31) (.pick (.tmp 27) (.const (Value.bool true)) (.tmp 30)) none) :: (SO.mk (some 13) (.move (.tmp 31)) none) :: [])
theorem v21_3:type_of% (@swl _ _ o21_3.eq_1):=@swl _ _ o21_3.eq_1
def o21_4:List SO:=((SO.mk (some 26) (.pick (.tmp 22) (.const (Value.bool true)) (.tmp 25)) none) :: (SO.mk (some 27) (.move (.tmp 26)) none) :: (SO.mk (some 28) (.faddr 52 (.tmp 1) 2) (some (27 ,false))) :: (SO.mk (some 29) (.load 3 (.tmp 28)) (some (27 ,false))) :: o21_3)
theorem v21_4:type_of% (@swl _ _ o21_4.eq_1):=@swl _ _ o21_4.eq_1
def o21_5:List SO:=((SO.mk (some 22) (.move (.tmp 21)) none) :: (SO.mk (some 23) (.faddr 52 (.tmp 1) 2) (some (22 ,false))) :: (SO.mk (some 24) (.load 3 (.tmp 23)) (some (22 ,false))) :: (SO.mk (some 25) (.bin .lss 3 (.tmp 24) (.const (Value.int .i64 (-1)))) (some (22 ,false))) :: o21_4)
theorem v21_5:type_of% (@swl _ _ o21_5.eq_1):=@swl _ _ o21_5.eq_1
def o21_6:List SO:=((SO.mk (some 18) (.faddr 52 (.tmp 1) 1) (some (17 ,false))) :: (SO.mk (some 19) (.load 3 (.tmp 18)) (some (17 ,false))) :: (SO.mk (some 20) (.bin .gtr 3 (.tmp 19) (.const (Value.int .i64 1073741824))) (some (17 ,false))) :: (SO.mk (some 21) (.pick (.tmp 17) (.const (Value.bool true)) (.tmp 20)) none) :: o21_5)
theorem v21_6:type_of% (@swl _ _ o21_6.eq_1):=@swl _ _ o21_6.eq_1
def c21_7:SC:=(.seq (.reg [SO.mk (some 2) (.move (.const (Value.int .i64 2))) none]) (.keep [2] .ret))
theorem u21_7:type_of% (@swc _ _ c21_7.eq_1):=@swc _ _ c21_7.eq_1
def c21_8:SC:=(.cond (.tmp 13) c21_7 .skip)
theorem u21_8:type_of% (@swc _ _ c21_8.eq_1):=@swc _ _ c21_8.eq_1
def c21_9:SC:=(.seq (.reg ((SO.mk (some 14) (.faddr 52 (.tmp 1) 1) none) :: (SO.mk (some 15) (.load 3 (.tmp 14)) none) :: (SO.mk (some 16) (.bin .lss 3 (.tmp 15) (.const (Value.int .i64 (-1)))) none) :: (SO.mk (some 17) (.move (.tmp 16)) none) :: o21_6)) (.keep [13] c21_8))
theorem u21_9:type_of% (@swc _ _ c21_9.eq_1):=@swc _ _ c21_9.eq_1
def c21_10:SC:=(.cond (.tmp 8) c21_2 c21_9)
theorem u21_10:type_of% (@swc _ _ c21_10.eq_1):=@swc _ _ c21_10.eq_1
def c21_11:SC:=(.seq (.reg [SO.mk (some 9) (.faddr 52 (.tmp 1) 0) none,SO.mk (some 10) (.load 9 (.tmp 9)) none,SO.mk (some 11) (.call 42 [(.tmp 10)]) none,SO.mk (some 12) (.un .not (.tmp 11)) none,SO.mk (some 8) (.move (.tmp 12)) none]) (.keep [8,1] c21_10))
theorem u21_11:type_of% (@swc _ _ c21_11.eq_1):=@swc _ _ c21_11.eq_1
def c21_12:SC:=(.cond (.tmp 3) c21_1 c21_11)
theorem u21_12:type_of% (@swc _ _ c21_12.eq_1):=@swc _ _ c21_12.eq_1
def c21_13:SC:=(.seq (.reg [SO.mk (some 2) (.move (.const (Value.int .i64 0))) none]) (.keep [2] .ret))
theorem u21_13:type_of% (@swc _ _ c21_13.eq_1):=@swc _ _ c21_13.eq_1
def c21_14:SC:=(.seq (.block 0 (.seq (.reg [SO.mk (some 4) (.faddr 52 (.tmp 1) 0) none,SO.mk (some 5) (.load 9 (.tmp 4)) none,SO.mk (some 6) (.len 9 (.tmp 5)) none,SO.mk (some 7) (.bin .gtr 3 (.tmp 6) (.const (Value.int .i64 16))) none,SO.mk (some 3) (.move (.tmp 7)) none]) (.keep [3,1] c21_12))) (.keep [] c21_13))
theorem u21_14:type_of% (@swc _ _ c21_14.eq_1):=@swc _ _ c21_14.eq_1
def c21:SC:=(.seq (.reg [SO.mk (some 1) (.box 52 (.tmp 0)) none,SO.mk (some 2) (.move (.const (Value.int .i64 0))) none]) (.keep [1] c21_14))
theorem c21_eq:annC Try.f21 = some c21:=by kernel_rfl
theorem r21:Try.f21.results.toList = [.tmp 2]:=by kernel_rfl
theorem e21:enters Try.prog 21 = true:=by kernel_rfl
def c50_1:SC:=(.seq (.reg [SO.mk (some 2) (.move (.const (Value.int .i64 1))) none]) (.keep [2] .ret))
theorem u50_1:type_of% (@swc _ _ c50_1.eq_1):=@swc _ _ c50_1.eq_1
def c50_2:SC:=(.cond (.tmp 6) c50_1 .skip)
theorem u50_2:type_of% (@swc _ _ c50_2.eq_1):=@swc _ _ c50_2.eq_1
def c50_3:SC:=(.seq (.reg [SO.mk (some 2) (.move (.const (Value.int .i64 4))) none]) (.keep [2] .ret))
theorem u50_3:type_of% (@swc _ _ c50_3.eq_1):=@swc _ _ c50_3.eq_1
def c50_4:SC:=(.cond (.tmp 10) c50_3 .skip)
theorem u50_4:type_of% (@swc _ _ c50_4.eq_1):=@swc _ _ c50_4.eq_1
def o50_5:List SO:=((SO.mk (some 19) (.un .not (.tmp 18)) (some (15 ,false))) :: (SO.mk (some 20) (.pick (.tmp 15) (.const (Value.bool true)) (.tmp 19)) none) :: [])
theorem v50_5:type_of% (@swl _ _ o50_5.eq_1):=@swl _ _ o50_5.eq_1
def o50_6:List SO:=((SO.mk (some 15) (.move (.tmp 14)) none) :: (SO.mk (some 16) (.faddr 52 (.tmp 1) 2) (some (15 ,false))) :: (SO.mk (some 17) (.load 3 (.tmp 16)) (some (15 ,false))) :: (SO.mk (some 18) (.call 34 [(.tmp 17),(.const (Value.int .i64 (-1))),(.const (Value.int .i64 1073741824))]) (some (15 ,false))) :: o50_5)
theorem v50_6:type_of% (@swl _ _ o50_6.eq_1):=@swl _ _ o50_6.eq_1
def c50_7:SC:=(.seq (.reg [SO.mk (some 2) (.move (.const (Value.int .i64 2))) none]) (.keep [2] .ret))
theorem u50_7:type_of% (@swc _ _ c50_7.eq_1):=@swc _ _ c50_7.eq_1
def c50_8:SC:=(.cond (.tmp 20) c50_7 .skip)
theorem u50_8:type_of% (@swc _ _ c50_8.eq_1):=@swc _ _ c50_8.eq_1
def c50_9:SC:=(.seq (.reg [SO.mk (some 2) (.move (.const (Value.int .i64 0))) none]) (.keep [2] .ret))
theorem u50_9:type_of% (@swc _ _ c50_9.eq_1):=@swc _ _ c50_9.eq_1
def c50_10:SC:=(.seq (.seq (.reg ((SO.mk (some 11) (.faddr 52 (.tmp 1) 1) none) :: (SO.mk (some 12) (.load 3 (.tmp 11)) none) :: (SO.mk (some 13) (.call 34 [(.tmp 12),(.const (Value.int .i64 (-1))),(.const (Value.int .i64 1073741824))]) none) :: (SO.mk (some 14) (.un .not (.tmp 13)) none) :: o50_6)) (.keep [20] c50_8)) (.keep [] c50_9))
theorem u50_10:type_of% (@swc _ _ c50_10.eq_1):=@swc _ _ c50_10.eq_1
def c50_11:SC:=(.seq (.seq (.reg [SO.mk (some 7) (.faddr 52 (.tmp 1) 0) none,SO.mk (some 8) (.load 9 (.tmp 7)) none,SO.mk (some 9) (.call 33 [(.tmp 8)]) none,SO.mk (some 10) (.un .not (.tmp 9)) none]) (.keep [10,1] c50_4)) (.keep [1] c50_10))
theorem u50_11:type_of% (@swc _ _ c50_11.eq_1):=@swc _ _ c50_11.eq_1
def c50_12:SC:=(.seq (.seq (.reg [SO.mk (some 3) (.faddr 52 (.tmp 1) 0) none,SO.mk (some 4) (.load 9 (.tmp 3)) none,SO.mk (some 5) (.len 9 (.tmp 4)) none,SO.mk (some 6) (.bin .gtr 3 (.tmp 5) (.const (Value.int .i64 16))) none]) (.keep [6,1] c50_2)) (.keep [1] c50_11))
theorem u50_12:type_of% (@swc _ _ c50_12.eq_1):=@swc _ _ c50_12.eq_1
def c50:SC:=(.seq (.reg [SO.mk (some 1) (.box 52 (.tmp 0)) none,SO.mk (some 2) (.move (.const (Value.int .i64 0))) none]) (.keep [1] c50_12))
theorem c50_eq:annC Try.f50 = some c50:=by kernel_rfl
theorem r50:Try.f50.results.toList = [.tmp 2]:=by kernel_rfl
theorem e50:enters Try.prog 50 = true:=by kernel_rfl
end Go.Proofs.Ytikgiadbkjmabaa
namespace Go.Proofs.Ytikgiadbkjmabaa
open Go.RowKit
set_option maxHeartbeats 4000000
set_option maxRecDepth 20000
attribute [local irreducible] SW OSW SWL SWLn SWD SEcall SEcallv SDv SE SO1 SOg ACalls ACallv Wk EndV
set_option linter.unusedSimpArgs false
set_option linter.unusedVariables false
def chr (s:ByteArray) (k:Nat):Int:=((s.data.getD k 0).toNat:Int)
theorem chr_eq (s:ByteArray) (k:Nat):((s.data.getD k 0).toNat:Int) = chr s k:=rfl
def chrOk (s:ByteArray) (k:Nat):Bool:=!(decide (chr s k < 33) || decide (chr s k > 126))
def lettersF (s:ByteArray):Bool:=(List.range s.size).all (chrOk s)
theorem letters_all {s:ByteArray} (h:∀ i,i < s.size → chrOk s i = true):lettersF s = true:=by
  unfold lettersF;rw [List.all_eq_true];intro i hi;exact h i (List.mem_range.1 hi)
theorem letters_no {s:ByteArray} {k:Nat} (hk:k < s.size) (h:chrOk s k = false):lettersF s = false:=by
  unfold lettersF;rw [List.all_eq_false];exact ⟨k,List.mem_range.2 hk,by rw [h];decide⟩
theorem chr_1 {s:ByteArray} {k:Nat} (h:decide (chr s k < 33) = true):chrOk s k = false:=by unfold chrOk;rw [h];rfl
theorem chr_2 {s:ByteArray} {k:Nat} (h:decide (chr s k > 126) = true):chrOk s k = false:=by unfold chrOk;rw [h];cases decide (chr s k < 33)<;>rfl
theorem chr_3 {s:ByteArray} {k:Nat} (h:decide (chr s k < 33) = false) (h2:decide (chr s k > 126) = false):chrOk s k = true:=by unfold chrOk;rw [h,h2];rfl
theorem chr_in {s:ByteArray} {k:Nat}:inR (chr s k) 33 126 = chrOk s k:=by
  unfold inR chrOk
  rw [Bool.eq_iff_iff];simp
theorem chr_w (s:ByteArray) (k:Nat):IntKind.i64.wrap (chr s k) = chr s k:=by
  refine IntWalk.i64_in _ ?_
  have:=(s.data.getD k 0).toNat_lt
  unfold chr;omega
theorem allS {p:Nat → Bool} {k:Nat} (hF:∀ i,i < k → p i = true) (h:p k = true):∀ i,i < k + 1 → p i = true:=fun i hi=>by
  rcases Nat.lt_succ_iff_lt_or_eq.1 hi with h' | rfl
  · exact hF i h'
  · exact h
theorem ltS {k n:Nat} (h:decide ((k:Int) < (n:Int)) = true):k < n:=by simpa using h
theorem geS {k n:Nat} (h:decide ((k:Int) < (n:Int)) = false):n ≤ k:=by simpa using h
theorem szW {s:ByteArray} {m:Int} (h:(!inR (s.size:Int) 1 m) = false) (hm:m ≤ 2 ^ 47):s.size ≤ 2 ^ 47:=by
  have h1:inR (s.size:Int) 1 m = true:=by simpa using h
  have:=of_decide_eq_true (Bool.and_eq_true_iff.1 h1).2;omega
def wordF (s:ByteArray) (m:Int):Int:=bif inR s.size 1 m then (bif lettersF s then 0 else 4) else 1
def ruleF (x:ByteArray) (f d:Int):Int:=bif decide ((x.size:Int) > 16) then 1 else bif lettersF x then (bif inR f (-1) 1073741824 && inR d (-1) 1073741824 then 0 else 2) else 4
theorem inR_no1 {a b c:Int} (h:decide (a < b) = true):inR a b c = false:=by have:=of_decide_eq_true h;unfold inR;rw [Bool.and_eq_false_iff];left;simp;omega
theorem inR_no2 {a b c:Int} (h:decide (a > c) = true):inR a b c = false:=by have:=of_decide_eq_true h;unfold inR;rw [Bool.and_eq_false_iff];right;simp;omega
theorem inR_yes {a b c:Int} (h:decide (a < b) = false) (h2:decide (a > c) = false):inR a b c = true:=by have:=of_decide_eq_false h;have:=of_decide_eq_false h2;unfold inR;rw [Bool.and_eq_true];simp;omega
theorem letters_p (s:ByteArray) (hs:s.size ≤ 2 ^ 47):Pure Try.prog 42 [.d (.v (.string s))] (Bo (lettersF s)):=by
  refine pure_of follows Try.func42 c42_eq r42 (Nat.le_of_ble_eq_true rfl) fun B σ hcl hsz=>?_
  clear hsz
  repeat' (first | (simp -implicitDefEqProofs only [*,Nat.reduceBEq,↓reduceIte,Nat.reduceEqDiff,Nat.reduceAdd,reduceCtorEq,AO.kill,Int.reduceLT,Int.reduceToNat,List.getElem?_nil,Nat.reduceMul,Nat.reducePow,Nat.reduceLeDiff,rowOf_mapD,rowOf_mapI,rowOf_mapA,List.getElem?_cons_zero,List.getElem?_cons_succ,take_map_len,take_map_app,List.getElem?_cons_zero,c42,r42,v42_1,v42_2,u42_3,u42_4,u42_5,u42_6,u42_7,u42_8,u42_9,u42_10,u42_11,u42_12,ty9,ty3,ty5,idxV,chr_eq,mvcgen_simp]) | (with_reducible refine And.intro ?_ ?_) | (refine loop_nat (s.size) (fun k=>∀ i,i < k → chrOk s i = true) (fun k=>[(0,.d (.v (.string s))),(5,I s.size),(6,I k)]) (fun k=>[]) ?_ (Wk.keep hcl ?_ ?_ ?_) fun k hk hF=>?_;rotate_left 1;(focus (simp [Fr.get,newF,Fr.map,AV.kill,AV.mapN,idxV,chr_eq]<;>fail));(focus (simp [sto,newL,Loc.kill,Loc.set,AO.kill,AV.kill,AV.mapN,idxV,chr_eq]<;>fail));(focus (simp [newL,Loc.kill,Loc.set,idxV,chr_eq]<;>fail));(try have hw:IntKind.i64.wrap ((k:Int) + 1) = (k:Int) + 1:=IntWalk.i64_in _ (by omega))) | (refine EndX.plain ?_) | (refine nil_split (fun hn=>?_) (fun hn=>?_)) | (refine gcall_no not_false ?_) | (refine gdcall_no not_false ?_) | (refine GuardS_of _ _ _ _ _ _ (fun hg=>?_) (fun hg=>?_)) | (refine GuardD_of _ _ _ _ (fun hg=>?_) (fun hg=>?_)) | (refine CondB_of _ _ _ _ _ _ _ ?_ (fun hg=>?_) (fun hg=>?_)))
  all_goals (try (first | ((first | unfold noN | unfold Fr.below | unfold Loc.below);simp [Fr.allN,AV.allN,AV.allNL,AO.allN];done) | rfl | trivial | assumption | (intro row hrow;simp only [List.mem_map] at hrow;obtain ⟨x,_,rfl⟩:=hrow;rfl) | (refine Wk.keep hcl ?_ ?_ ?_;(focus (simp [Fr.get,idxV,chr_eq]<;>fail));(focus (simp [sto,idxV,chr_eq]<;>fail));(focus (simp<;>fail))) | (simp [allP,opd,Fr.get,Fr.below,Fr.allN,AV.allN,AV.allNL,Loc.below,AO.allN,noN,killO,killT,killD,mkNames,AO.kill,AV.kill,AV.mapN,AV.mapNL];done) | (with_reducible exact ltD (by assumption)) | omega | (simp only [decide_eq_true_eq,decide_eq_false_iff_not] at *;omega)))
  all_goals first
    | (rw [letters_no (ltS (by assumption)) (by first | exact chr_1 (by assumption) | exact chr_2 (by assumption))]<;>rfl)
    | (have e:k = s.size:=by have:=geS (by assumption);omega
       subst e
       rw [letters_all hF]<;>rfl)
    | exact allS hF (chr_3 (by assumption) (by assumption))
theorem plain_p (s:ByteArray) (hs:s.size ≤ 2 ^ 47):Pure Try.prog 33 [.d (.v (.string s))] (Bo (lettersF s)):=by
  refine pure_of follows Try.func33 c33_eq r33 (Nat.le_of_ble_eq_true rfl) fun B σ hcl hsz=>?_
  clear hsz
  repeat' (first | (simp -implicitDefEqProofs only [*,Nat.reduceBEq,↓reduceIte,Nat.reduceEqDiff,Nat.reduceAdd,reduceCtorEq,AO.kill,Int.reduceLT,Int.reduceToNat,List.getElem?_nil,Nat.reduceMul,Nat.reducePow,Nat.reduceLeDiff,rowOf_mapD,rowOf_mapI,rowOf_mapA,List.getElem?_cons_zero,List.getElem?_cons_succ,take_map_len,take_map_app,List.getElem?_cons_zero,c33,r33,u33_1,v33_2,u33_3,u33_4,u33_5,u33_6,u33_7,u33_8,u33_9,u33_10,ty9,ty3,ty5,idxV,chr_eq,chr_w,chr_in,convV,mvcgen_simp]) | (with_reducible refine And.intro ?_ ?_) | (refine call_ro e34 ( In_p (chr s k) 33 126) rfl ?_ ?_ ?_ ?_) | (refine gcall_ro e34 ( In_p (chr s k) 33 126) rfl ?_ ?_ ?_ ?_) | (refine dcall_ro e34 ( In_p (chr s k) 33 126) rfl ?_ ?_ ?_ ?_) | (refine gdcall_ro rfl e34 ( In_p (chr s k) 33 126) rfl ?_ ?_ ?_ ?_) | (refine loop_nat (s.size) (fun k=>∀ i,i < k → chrOk s i = true) (fun k=>[(0,.d (.v (.string s))),(3,I k)]) (fun k=>[]) ?_ (Wk.keep hcl ?_ ?_ ?_) fun k hk hF=>?_;rotate_left 1;(focus (simp [Fr.get,newF,Fr.map,AV.kill,AV.mapN,idxV,chr_eq,chr_w,chr_in,convV]<;>fail));(focus (simp [sto,newL,Loc.kill,Loc.set,AO.kill,AV.kill,AV.mapN,idxV,chr_eq,chr_w,chr_in,convV]<;>fail));(focus (simp [newL,Loc.kill,Loc.set,idxV,chr_eq,chr_w,chr_in,convV]<;>fail));(try have hw:IntKind.i64.wrap ((k:Int) + 1) = (k:Int) + 1:=IntWalk.i64_in _ (by omega))) | (refine EndX.plain ?_) | (refine nil_split (fun hn=>?_) (fun hn=>?_)) | (refine gcall_no not_false ?_) | (refine gdcall_no not_false ?_) | (refine GuardS_of _ _ _ _ _ _ (fun hg=>?_) (fun hg=>?_)) | (refine GuardD_of _ _ _ _ (fun hg=>?_) (fun hg=>?_)) | (refine CondB_of _ _ _ _ _ _ _ ?_ (fun hg=>?_) (fun hg=>?_)))
  all_goals (try (first | ((first | unfold noN | unfold Fr.below | unfold Loc.below);simp [Fr.allN,AV.allN,AV.allNL,AO.allN];done) | rfl | trivial | assumption | (intro row hrow;simp only [List.mem_map] at hrow;obtain ⟨x,_,rfl⟩:=hrow;rfl) | (refine Wk.keep hcl ?_ ?_ ?_;(focus (simp [Fr.get,idxV,chr_eq,chr_w,chr_in,convV]<;>fail));(focus (simp [sto,idxV,chr_eq,chr_w,chr_in,convV]<;>fail));(focus (simp<;>fail))) | (simp [allP,opd,Fr.get,Fr.below,Fr.allN,AV.allN,AV.allNL,Loc.below,AO.allN,noN,killO,killT,killD,mkNames,AO.kill,AV.kill,AV.mapN,AV.mapNL];done) | (with_reducible exact ltD (by assumption)) | omega | (simp only [decide_eq_true_eq,decide_eq_false_iff_not] at *;omega)))
  all_goals first
    | (rw [letters_no (ltS (by assumption)) (by first | assumption | simpa using (by assumption:(!chrOk s k) = true))]<;>rfl)
    | (have e:k = s.size:=by have:=geS (by assumption);omega
       subst e
       rw [letters_all hF]<;>rfl)
    | exact allS hF (by first | assumption | simpa using (by assumption:(!chrOk s k) = false))
theorem word_p (s:ByteArray) (m:Int) (hm:m ≤ 2 ^ 47):Pure Try.prog 79 [.d (.v (.string s)),I m] (I (wordF s m)):=by
  refine pure_of follows Try.func79 c79_eq r79 (Nat.le_of_ble_eq_true rfl) fun B σ hcl hsz=>?_
  clear hsz
  repeat' (first | (simp -implicitDefEqProofs only [*,Nat.reduceBEq,↓reduceIte,Nat.reduceEqDiff,Nat.reduceAdd,reduceCtorEq,AO.kill,Int.reduceLT,Int.reduceToNat,List.getElem?_nil,Nat.reduceMul,Nat.reducePow,Nat.reduceLeDiff,rowOf_mapD,rowOf_mapI,rowOf_mapA,List.getElem?_cons_zero,List.getElem?_cons_succ,take_map_len,take_map_app,List.getElem?_cons_zero,c79,r79,u79_1,u79_2,u79_3,u79_4,u79_5,u79_6,u79_7,ty9,mvcgen_simp]) | (with_reducible refine And.intro ?_ ?_) | (refine call_ro e34 ( In_p _ _ _) rfl ?_ ?_ ?_ ?_) | (refine gcall_ro e34 ( In_p _ _ _) rfl ?_ ?_ ?_ ?_) | (refine dcall_ro e34 ( In_p _ _ _) rfl ?_ ?_ ?_ ?_) | (refine gdcall_ro rfl e34 ( In_p _ _ _) rfl ?_ ?_ ?_ ?_) | (refine call_ro e33 (plain_p s (szW (by assumption) hm)) rfl ?_ ?_ ?_ ?_) | (refine EndX.plain ?_) | (refine nil_split (fun hn=>?_) (fun hn=>?_)) | (refine gcall_no not_false ?_) | (refine gdcall_no not_false ?_) | (refine GuardS_of _ _ _ _ _ _ (fun hg=>?_) (fun hg=>?_)) | (refine GuardD_of _ _ _ _ (fun hg=>?_) (fun hg=>?_)) | (refine CondB_of _ _ _ _ _ _ _ ?_ (fun hg=>?_) (fun hg=>?_)))
  all_goals (try (first | ((first | unfold noN | unfold Fr.below | unfold Loc.below);simp [Fr.allN,AV.allN,AV.allNL,AO.allN];done) | rfl | trivial | assumption | (intro row hrow;simp only [List.mem_map] at hrow;obtain ⟨x,_,rfl⟩:=hrow;rfl) | (refine Wk.keep hcl ?_ ?_ ?_;(focus (simp [Fr.get]<;>fail));(focus (simp [sto]<;>fail));(focus (simp<;>fail))) | (simp [allP,opd,Fr.get,Fr.below,Fr.allN,AV.allN,AV.allNL,Loc.below,AO.allN,noN,killO,killT,killD,mkNames,AO.kill,AV.kill,AV.mapN,AV.mapNL];done) | (with_reducible exact ltD (by assumption)) | omega | (simp only [decide_eq_true_eq,decide_eq_false_iff_not] at *;omega)))
  all_goals (try (simp only [Bool.not_eq_true',Bool.not_eq_false'] at *))
  all_goals (try (simp only [wordF, *,cond_true,cond_false];done))
theorem name_p (s:ByteArray):Pure Try.prog 60 [.d (.v (.string s))] (I (wordF s 8)):=by
  refine pure_of follows Try.func60 c60_eq r60 (Nat.le_of_ble_eq_true rfl) fun B σ hcl hsz=>?_
  clear hsz
  repeat' (first | (simp -implicitDefEqProofs only [*,Nat.reduceBEq,↓reduceIte,Nat.reduceEqDiff,Nat.reduceAdd,reduceCtorEq,AO.kill,Int.reduceLT,Int.reduceToNat,List.getElem?_nil,Nat.reduceMul,Nat.reducePow,Nat.reduceLeDiff,rowOf_mapD,rowOf_mapI,rowOf_mapA,List.getElem?_cons_zero,List.getElem?_cons_succ,take_map_len,take_map_app,List.getElem?_cons_zero,c60,r60,v60_1,v60_2,u60_3,u60_4,u60_5,u60_6,u60_7,u60_8,u60_9,ty9,ty3,mvcgen_simp]) | (with_reducible refine And.intro ?_ ?_) | (refine call_ro e42 (letters_p s (by have:=of_decide_eq_false (by assumption:decide ((s.size:Int) > 8) = false);omega)) rfl ?_ ?_ ?_ ?_) | (refine EndX.plain ?_) | (refine nil_split (fun hn=>?_) (fun hn=>?_)) | (refine gcall_no not_false ?_) | (refine gdcall_no not_false ?_) | (refine GuardS_of _ _ _ _ _ _ (fun hg=>?_) (fun hg=>?_)) | (refine GuardD_of _ _ _ _ (fun hg=>?_) (fun hg=>?_)) | (refine CondB_of _ _ _ _ _ _ _ ?_ (fun hg=>?_) (fun hg=>?_)))
  all_goals (try (first | ((first | unfold noN | unfold Fr.below | unfold Loc.below);simp [Fr.allN,AV.allN,AV.allNL,AO.allN];done) | rfl | trivial | assumption | (intro row hrow;simp only [List.mem_map] at hrow;obtain ⟨x,_,rfl⟩:=hrow;rfl) | (refine Wk.keep hcl ?_ ?_ ?_;(focus (simp [Fr.get]<;>fail));(focus (simp [sto]<;>fail));(focus (simp<;>fail))) | (simp [allP,opd,Fr.get,Fr.below,Fr.allN,AV.allN,AV.allNL,Loc.below,AO.allN,noN,killO,killT,killD,mkNames,AO.kill,AV.kill,AV.mapN,AV.mapNL];done) | (with_reducible exact ltD (by assumption)) | omega | (simp only [decide_eq_true_eq,decide_eq_false_iff_not] at *;omega)))
  all_goals (try (simp only [Bool.not_eq_true',Bool.not_eq_false'] at *))
  all_goals first
    | (rw [wordF,inR_no1 (by assumption)]<;>rfl)
    | (rw [wordF,inR_no2 (by assumption)]<;>rfl)
    | (simp only [wordF,inR_yes (by assumption:decide ((s.size:Int) < 1) = false) (by assumption:decide ((s.size:Int) > 8) = false), *,cond_true,cond_false];done)
theorem key_p (s:ByteArray):Pure Try.prog 63 [.d (.v (.string s))] (I (wordF s 16)):=by
  refine pure_of follows Try.func63 c63_eq r63 (Nat.le_of_ble_eq_true rfl) fun B σ hcl hsz=>?_
  clear hsz
  repeat' (first | (simp -implicitDefEqProofs only [*,Nat.reduceBEq,↓reduceIte,Nat.reduceEqDiff,Nat.reduceAdd,reduceCtorEq,AO.kill,Int.reduceLT,Int.reduceToNat,List.getElem?_nil,Nat.reduceMul,Nat.reducePow,Nat.reduceLeDiff,rowOf_mapD,rowOf_mapI,rowOf_mapA,List.getElem?_cons_zero,List.getElem?_cons_succ,take_map_len,take_map_app,List.getElem?_cons_zero,c63,r63,v63_1,v63_2,u63_3,u63_4,u63_5,u63_6,u63_7,u63_8,u63_9,ty9,ty3,mvcgen_simp]) | (with_reducible refine And.intro ?_ ?_) | (refine call_ro e42 (letters_p s (by have:=of_decide_eq_false (by assumption:decide ((s.size:Int) > 16) = false);omega)) rfl ?_ ?_ ?_ ?_) | (refine EndX.plain ?_) | (refine nil_split (fun hn=>?_) (fun hn=>?_)) | (refine gcall_no not_false ?_) | (refine gdcall_no not_false ?_) | (refine GuardS_of _ _ _ _ _ _ (fun hg=>?_) (fun hg=>?_)) | (refine GuardD_of _ _ _ _ (fun hg=>?_) (fun hg=>?_)) | (refine CondB_of _ _ _ _ _ _ _ ?_ (fun hg=>?_) (fun hg=>?_)))
  all_goals (try (first | ((first | unfold noN | unfold Fr.below | unfold Loc.below);simp [Fr.allN,AV.allN,AV.allNL,AO.allN];done) | rfl | trivial | assumption | (intro row hrow;simp only [List.mem_map] at hrow;obtain ⟨x,_,rfl⟩:=hrow;rfl) | (refine Wk.keep hcl ?_ ?_ ?_;(focus (simp [Fr.get]<;>fail));(focus (simp [sto]<;>fail));(focus (simp<;>fail))) | (simp [allP,opd,Fr.get,Fr.below,Fr.allN,AV.allN,AV.allNL,Loc.below,AO.allN,noN,killO,killT,killD,mkNames,AO.kill,AV.kill,AV.mapN,AV.mapNL];done) | (with_reducible exact ltD (by assumption)) | omega | (simp only [decide_eq_true_eq,decide_eq_false_iff_not] at *;omega)))
  all_goals (try (simp only [Bool.not_eq_true',Bool.not_eq_false'] at *))
  all_goals first
    | (rw [wordF,inR_no1 (by assumption)]<;>rfl)
    | (rw [wordF,inR_no2 (by assumption)]<;>rfl)
    | (simp only [wordF,inR_yes (by assumption:decide ((s.size:Int) < 1) = false) (by assumption:decide ((s.size:Int) > 16) = false), *,cond_true,cond_false];done)
theorem nameR_p (s:ByteArray):Pure Try.prog 49 [.d (.v (.string s))] (I (wordF s 8)):=by
  refine pure_of follows Try.func49 c49_eq r49 (Nat.le_of_ble_eq_true rfl) fun B σ hcl hsz=>?_
  clear hsz
  repeat' (first | (simp -implicitDefEqProofs only [*,Nat.reduceBEq,↓reduceIte,Nat.reduceEqDiff,Nat.reduceAdd,reduceCtorEq,AO.kill,Int.reduceLT,Int.reduceToNat,List.getElem?_nil,Nat.reduceMul,Nat.reducePow,Nat.reduceLeDiff,rowOf_mapD,rowOf_mapI,rowOf_mapA,List.getElem?_cons_zero,List.getElem?_cons_succ,take_map_len,take_map_app,List.getElem?_cons_zero,c49,r49,u49_1,mvcgen_simp]) | (with_reducible refine And.intro ?_ ?_) | (refine call_ro e79 ( word_p s 8 (by decide)) rfl ?_ ?_ ?_ ?_) | (refine gcall_ro e79 ( word_p s 8 (by decide)) rfl ?_ ?_ ?_ ?_) | (refine dcall_ro e79 ( word_p s 8 (by decide)) rfl ?_ ?_ ?_ ?_) | (refine gdcall_ro rfl e79 ( word_p s 8 (by decide)) rfl ?_ ?_ ?_ ?_) | (refine EndX.plain ?_) | (refine nil_split (fun hn=>?_) (fun hn=>?_)) | (refine gcall_no not_false ?_) | (refine gdcall_no not_false ?_) | (refine GuardS_of _ _ _ _ _ _ (fun hg=>?_) (fun hg=>?_)) | (refine GuardD_of _ _ _ _ (fun hg=>?_) (fun hg=>?_)) | (refine CondB_of _ _ _ _ _ _ _ ?_ (fun hg=>?_) (fun hg=>?_)))
  all_goals (try (first | ((first | unfold noN | unfold Fr.below | unfold Loc.below);simp [Fr.allN,AV.allN,AV.allNL,AO.allN];done) | rfl | trivial | assumption | (intro row hrow;simp only [List.mem_map] at hrow;obtain ⟨x,_,rfl⟩:=hrow;rfl) | (refine Wk.keep hcl ?_ ?_ ?_;(focus (simp [Fr.get]<;>fail));(focus (simp [sto]<;>fail));(focus (simp<;>fail))) | (simp [allP,opd,Fr.get,Fr.below,Fr.allN,AV.allN,AV.allNL,Loc.below,AO.allN,noN,killO,killT,killD,mkNames,AO.kill,AV.kill,AV.mapN,AV.mapNL];done) | (with_reducible exact ltD (by assumption)) | omega | (simp only [decide_eq_true_eq,decide_eq_false_iff_not] at *;omega)))
theorem keyR_p (s:ByteArray):Pure Try.prog 52 [.d (.v (.string s))] (I (wordF s 16)):=by
  refine pure_of follows Try.func52 c52_eq r52 (Nat.le_of_ble_eq_true rfl) fun B σ hcl hsz=>?_
  clear hsz
  repeat' (first | (simp -implicitDefEqProofs only [*,Nat.reduceBEq,↓reduceIte,Nat.reduceEqDiff,Nat.reduceAdd,reduceCtorEq,AO.kill,Int.reduceLT,Int.reduceToNat,List.getElem?_nil,Nat.reduceMul,Nat.reducePow,Nat.reduceLeDiff,rowOf_mapD,rowOf_mapI,rowOf_mapA,List.getElem?_cons_zero,List.getElem?_cons_succ,take_map_len,take_map_app,List.getElem?_cons_zero,c52,r52,u52_1,mvcgen_simp]) | (with_reducible refine And.intro ?_ ?_) | (refine call_ro e79 ( word_p s 16 (by decide)) rfl ?_ ?_ ?_ ?_) | (refine gcall_ro e79 ( word_p s 16 (by decide)) rfl ?_ ?_ ?_ ?_) | (refine dcall_ro e79 ( word_p s 16 (by decide)) rfl ?_ ?_ ?_ ?_) | (refine gdcall_ro rfl e79 ( word_p s 16 (by decide)) rfl ?_ ?_ ?_ ?_) | (refine EndX.plain ?_) | (refine nil_split (fun hn=>?_) (fun hn=>?_)) | (refine gcall_no not_false ?_) | (refine gdcall_no not_false ?_) | (refine GuardS_of _ _ _ _ _ _ (fun hg=>?_) (fun hg=>?_)) | (refine GuardD_of _ _ _ _ (fun hg=>?_) (fun hg=>?_)) | (refine CondB_of _ _ _ _ _ _ _ ?_ (fun hg=>?_) (fun hg=>?_)))
  all_goals (try (first | ((first | unfold noN | unfold Fr.below | unfold Loc.below);simp [Fr.allN,AV.allN,AV.allNL,AO.allN];done) | rfl | trivial | assumption | (intro row hrow;simp only [List.mem_map] at hrow;obtain ⟨x,_,rfl⟩:=hrow;rfl) | (refine Wk.keep hcl ?_ ?_ ?_;(focus (simp [Fr.get]<;>fail));(focus (simp [sto]<;>fail));(focus (simp<;>fail))) | (simp [allP,opd,Fr.get,Fr.below,Fr.allN,AV.allN,AV.allNL,Loc.below,AO.allN,noN,killO,killT,killD,mkNames,AO.kill,AV.kill,AV.mapN,AV.mapNL];done) | (with_reducible exact ltD (by assumption)) | omega | (simp only [decide_eq_true_eq,decide_eq_false_iff_not] at *;omega)))
theorem rule_p (x:ByteArray) (f d:Int):Pure Try.prog 21 [.agg [.d (.v (.string x)),I f,I d]] (I (ruleF x f d)):=by
  refine pure_of follows Try.func21 c21_eq r21 (Nat.le_of_ble_eq_true rfl) fun B σ hcl hsz=>?_
  clear hsz
  repeat' (first | (simp -implicitDefEqProofs only [*,Nat.reduceBEq,↓reduceIte,Nat.reduceEqDiff,Nat.reduceAdd,reduceCtorEq,AO.kill,Int.reduceLT,Int.reduceToNat,List.getElem?_nil,Nat.reduceMul,Nat.reducePow,Nat.reduceLeDiff,rowOf_mapD,rowOf_mapI,rowOf_mapA,List.getElem?_cons_zero,List.getElem?_cons_succ,take_map_len,take_map_app,List.getElem?_cons_zero,c21,r21,u21_1,u21_2,v21_3,v21_4,v21_5,v21_6,u21_7,u21_8,u21_9,u21_10,u21_11,u21_12,u21_13,u21_14,ty52,ty9,ty3,mvcgen_simp]) | (with_reducible refine And.intro ?_ ?_) | (refine call_ro e42 (letters_p x (by have:=of_decide_eq_false (by assumption:decide ((x.size:Int) > 16) = false);omega)) rfl ?_ ?_ ?_ ?_) | (refine EndX.plain ?_) | (refine nil_split (fun hn=>?_) (fun hn=>?_)) | (refine gcall_no not_false ?_) | (refine gdcall_no not_false ?_) | (refine GuardS_of _ _ _ _ _ _ (fun hg=>?_) (fun hg=>?_)) | (refine GuardD_of _ _ _ _ (fun hg=>?_) (fun hg=>?_)) | (refine CondB_of _ _ _ _ _ _ _ ?_ (fun hg=>?_) (fun hg=>?_)))
  all_goals (try (first | ((first | unfold noN | unfold Fr.below | unfold Loc.below);simp [Fr.allN,AV.allN,AV.allNL,AO.allN];done) | rfl | trivial | assumption | (intro row hrow;simp only [List.mem_map] at hrow;obtain ⟨x,_,rfl⟩:=hrow;rfl) | (refine Wk.keep hcl ?_ ?_ ?_;(focus (simp [Fr.get]<;>fail));(focus (simp [sto]<;>fail));(focus (simp<;>fail))) | (simp [allP,opd,Fr.get,Fr.below,Fr.allN,AV.allN,AV.allNL,Loc.below,AO.allN,noN,killO,killT,killD,mkNames,AO.kill,AV.kill,AV.mapN,AV.mapNL];done) | (with_reducible exact ltD (by assumption)) | omega | (simp only [decide_eq_true_eq,decide_eq_false_iff_not] at *;omega)))
  all_goals (try (simp only [Bool.not_eq_true',Bool.not_eq_false'] at *))
  all_goals (simp only [ruleF, *,cond_true,cond_false])
  all_goals first
    | done
    | (rw [inR_no1 (by assumption)]<;>rfl)
    | (rw [inR_no2 (by assumption)]<;>rfl)
    | (rw [inR_yes (by assumption:decide (f < -1) = false) (by assumption),inR_no1 (by assumption)]<;>rfl)
    | (rw [inR_yes (by assumption:decide (f < -1) = false) (by assumption),inR_no2 (by assumption)]<;>rfl)
    | (rw [inR_yes (by assumption:decide (f < -1) = false) (by assumption),inR_yes (by assumption:decide (d < -1) = false) (by assumption)]<;>rfl)
theorem ruleR_p (x:ByteArray) (f d:Int):Pure Try.prog 50 [.agg [.d (.v (.string x)),I f,I d]] (I (ruleF x f d)):=by
  refine pure_of follows Try.func50 c50_eq r50 (Nat.le_of_ble_eq_true rfl) fun B σ hcl hsz=>?_
  clear hsz
  repeat' (first | (simp -implicitDefEqProofs only [*,Nat.reduceBEq,↓reduceIte,Nat.reduceEqDiff,Nat.reduceAdd,reduceCtorEq,AO.kill,Int.reduceLT,Int.reduceToNat,List.getElem?_nil,Nat.reduceMul,Nat.reducePow,Nat.reduceLeDiff,rowOf_mapD,rowOf_mapI,rowOf_mapA,List.getElem?_cons_zero,List.getElem?_cons_succ,take_map_len,take_map_app,List.getElem?_cons_zero,c50,r50,u50_1,u50_2,u50_3,u50_4,v50_5,v50_6,u50_7,u50_8,u50_9,u50_10,u50_11,u50_12,ty52,ty9,ty3,mvcgen_simp]) | (with_reducible refine And.intro ?_ ?_) | (refine call_ro e34 ( In_p f _ _) rfl ?_ ?_ ?_ ?_) | (refine gcall_ro e34 ( In_p f _ _) rfl ?_ ?_ ?_ ?_) | (refine dcall_ro e34 ( In_p f _ _) rfl ?_ ?_ ?_ ?_) | (refine gdcall_ro rfl e34 ( In_p f _ _) rfl ?_ ?_ ?_ ?_) | (refine call_ro e34 ( In_p d _ _) rfl ?_ ?_ ?_ ?_) | (refine gcall_ro e34 ( In_p d _ _) rfl ?_ ?_ ?_ ?_) | (refine dcall_ro e34 ( In_p d _ _) rfl ?_ ?_ ?_ ?_) | (refine gdcall_ro rfl e34 ( In_p d _ _) rfl ?_ ?_ ?_ ?_) | (refine call_ro e33 (plain_p x (by have:=of_decide_eq_false (by assumption:decide ((x.size:Int) > 16) = false);omega)) rfl ?_ ?_ ?_ ?_) | (refine EndX.plain ?_) | (refine nil_split (fun hn=>?_) (fun hn=>?_)) | (refine gcall_no not_false ?_) | (refine gdcall_no not_false ?_) | (refine GuardS_of _ _ _ _ _ _ (fun hg=>?_) (fun hg=>?_)) | (refine GuardD_of _ _ _ _ (fun hg=>?_) (fun hg=>?_)) | (refine CondB_of _ _ _ _ _ _ _ ?_ (fun hg=>?_) (fun hg=>?_)))
  all_goals (try (first | ((first | unfold noN | unfold Fr.below | unfold Loc.below);simp [Fr.allN,AV.allN,AV.allNL,AO.allN];done) | rfl | trivial | assumption | (intro row hrow;simp only [List.mem_map] at hrow;obtain ⟨x,_,rfl⟩:=hrow;rfl) | (refine Wk.keep hcl ?_ ?_ ?_;(focus (simp [Fr.get]<;>fail));(focus (simp [sto]<;>fail));(focus (simp<;>fail))) | (simp [allP,opd,Fr.get,Fr.below,Fr.allN,AV.allN,AV.allNL,Loc.below,AO.allN,noN,killO,killT,killD,mkNames,AO.kill,AV.kill,AV.mapN,AV.mapNL];done) | (with_reducible exact ltD (by assumption)) | omega | (simp only [decide_eq_true_eq,decide_eq_false_iff_not] at *;omega)))
  all_goals (try (simp only [Bool.not_eq_true',Bool.not_eq_false'] at *))
  all_goals (try (simp only [ruleF, *,cond_true,cond_false,Bool.false_or,Bool.true_or,Bool.or_true,Bool.or_false,Bool.and_true,Bool.true_and,Bool.false_and,Bool.and_false,Bool.not_true,Bool.not_false,cond_true,cond_false];done))
end Go.Proofs.Ytikgiadbkjmabaa
