/- Names, keys and rules that may be. -/
import Derived.Test.YteaojhieghakfaaStD
import Derived.Test.YteaojhieghakfaaInB
import Derived.Test.YteaojhieghakfaaTypes
namespace Go.Proofs.Yteaojhieghakfaa
open Go.RowKit
set_option maxRecDepth 100000
def o62_1 : List SO := ((SO.mk (some 17) (.bin .gtr 5 (.tmp 16) (.const (Value.int .u8 126))) (some (13 , false))) :: (SO.mk (some 18) (.pick (.tmp 13) (.const (Value.bool true)) (.tmp 17)) none) :: [])
theorem v62_1 : type_of% (@swl _ _ o62_1.eq_1) := @swl _ _ o62_1.eq_1
def o62_2 : List SO := ((SO.mk (some 13) (.move (.tmp 12)) none) :: (SO.mk (some 14) (.move (.tmp 0)) (some (13 , false))) :: (SO.mk (some 15) (.move (.tmp 3)) (some (13 , false))) :: (SO.mk (some 16) (.idx 9 (.tmp 14) (.tmp 15)) (some (13 , false))) :: o62_1)
theorem v62_2 : type_of% (@swl _ _ o62_2.eq_1) := @swl _ _ o62_2.eq_1
def c62_3 : SC := (.seq (.reg [SO.mk (some 2) (.move (.const (Value.bool false))) none]) (.keep [2] .ret))
theorem u62_3 : type_of% (@swc _ _ c62_3.eq_1) := @swc _ _ c62_3.eq_1
def c62_4 : SC := (.cond (.tmp 18) c62_3 .skip)
theorem u62_4 : type_of% (@swc _ _ c62_4.eq_1) := @swc _ _ c62_4.eq_1
def c62_5 : SC := (.seq (.reg ((SO.mk (some 9) (.move (.tmp 0)) none) :: (SO.mk (some 10) (.move (.tmp 3)) none) :: (SO.mk (some 11) (.idx 9 (.tmp 9) (.tmp 10)) none) :: (SO.mk (some 12) (.bin .lss 5 (.tmp 11) (.const (Value.int .u8 33))) none) :: o62_2)) (.keep [18, 6, 5, 0] c62_4))
theorem u62_5 : type_of% (@swc _ _ c62_5.eq_1) := @swc _ _ c62_5.eq_1
def c62_6 : SC := (.reg [SO.mk (some 19) (.bin .add 3 (.tmp 6) (.const (Value.int .i64 1))) none, SO.mk (some 6) (.move (.tmp 19)) none])
theorem u62_6 : type_of% (@swc _ _ c62_6.eq_1) := @swc _ _ c62_6.eq_1
def c62_7 : SC := (.seq (.block 1 (.seq (.reg [SO.mk (some 8) (.move (.tmp 6)) none, SO.mk (some 3) (.move (.tmp 8)) none]) (.keep [3, 6, 5, 0] c62_5))) (.keep [6, 5, 0] c62_6))
theorem u62_7 : type_of% (@swc _ _ c62_7.eq_1) := @swc _ _ c62_7.eq_1
def c62_8 : SC := (.seq (.cond (.tmp 7) .skip (.exit 0)) (.keep [6, 5, 0] c62_7))
theorem u62_8 : type_of% (@swc _ _ c62_8.eq_1) := @swc _ _ c62_8.eq_1
def c62_9 : SC := (.seq (.reg [SO.mk (some 7) (.bin .lss 3 (.tmp 6) (.tmp 5)) none]) (.keep [7, 0, 5, 6] c62_8))
theorem u62_9 : type_of% (@swc _ _ c62_9.eq_1) := @swc _ _ c62_9.eq_1
def c62_10 : SC := (.block 0 (.loop (.keep [0, 5, 6] c62_9)))
theorem u62_10 : type_of% (@swc _ _ c62_10.eq_1) := @swc _ _ c62_10.eq_1
def c62_11 : SC := (.seq (.reg [SO.mk (some 2) (.move (.const (Value.bool true))) none]) (.keep [2] .ret))
theorem u62_11 : type_of% (@swc _ _ c62_11.eq_1) := @swc _ _ c62_11.eq_1
def c62_12 : SC := (.seq (.seq (.reg [SO.mk (some 4) (.move (.tmp 0)) none, SO.mk (some 5) (.len 9 (.tmp 4)) none, SO.mk (some 6) (.move (.const (Value.int .i64 0))) none]) (.keep [0, 5, 6] c62_10)) (.keep [] c62_11))
theorem u62_12 : type_of% (@swc _ _ c62_12.eq_1) := @swc _ _ c62_12.eq_1
def c62 : SC := (.seq (.reg [SO.mk (some 2) (.move (.const (Value.bool false))) none]) (.keep [0] c62_12))
theorem c62_eq : annC Try.f62 = some c62 := by kernel_rfl
theorem r62 : Try.f62.results.toList = [.tmp 2] := by kernel_rfl
theorem e62 : enters Try.prog 62 = true := by kernel_rfl
def c61_1 : SC := (.cond (.tmp 7) .skip (.exit 0))
theorem u61_1 : type_of% (@swc _ _ c61_1.eq_1) := @swc _ _ c61_1.eq_1
def o61_2 : List SO := ((SO.mk (some 14) (.call 26 [(.tmp 13), (.const (Value.int .i64 33)), (.const (Value.int .i64 126))]) none) :: (SO.mk (some 15) (.un .not (.tmp 14)) none) :: [])
theorem v61_2 : type_of% (@swl _ _ o61_2.eq_1) := @swl _ _ o61_2.eq_1
def c61_3 : SC := (.seq (.reg [SO.mk (some 2) (.move (.const (Value.bool false))) none]) (.keep [2] .ret))
theorem u61_3 : type_of% (@swc _ _ c61_3.eq_1) := @swc _ _ c61_3.eq_1
def c61_4 : SC := (.cond (.tmp 15) c61_3 .skip)
theorem u61_4 : type_of% (@swc _ _ c61_4.eq_1) := @swc _ _ c61_4.eq_1
def c61_5 : SC := (.reg [SO.mk (some 8) (.move (.tmp 3)) none, SO.mk (some 9) (.bin .add 3 (.tmp 8) (.const (Value.int .i64 1))) none, SO.mk (some 3) (.move (.tmp 9)) none])
theorem u61_5 : type_of% (@swc _ _ c61_5.eq_1) := @swc _ _ c61_5.eq_1
def c61_6 : SC := (.seq (.block 1 (.seq (.reg ((SO.mk (some 10) (.move (.tmp 0)) none) :: (SO.mk (some 11) (.move (.tmp 3)) none) :: (SO.mk (some 12) (.idx 9 (.tmp 10) (.tmp 11)) none) :: (SO.mk (some 13) (.conv 5 3 (.tmp 12)) none) :: o61_2)) (.keep [15, 3, 0] c61_4))) (.keep [3, 0] c61_5))
theorem u61_6 : type_of% (@swc _ _ c61_6.eq_1) := @swc _ _ c61_6.eq_1
def c61_7 : SC := (.seq (.seq (.reg [SO.mk (some 4) (.move (.tmp 3)) none, SO.mk (some 5) (.move (.tmp 0)) none, SO.mk (some 6) (.len 9 (.tmp 5)) none, SO.mk (some 7) (.bin .lss 3 (.tmp 4) (.tmp 6)) none]) (.keep [7, 0, 3] c61_1)) (.keep [3, 0] c61_6))
theorem u61_7 : type_of% (@swc _ _ c61_7.eq_1) := @swc _ _ c61_7.eq_1
def c61_8 : SC := (.block 0 (.loop (.keep [0, 3] c61_7)))
theorem u61_8 : type_of% (@swc _ _ c61_8.eq_1) := @swc _ _ c61_8.eq_1
def c61_9 : SC := (.seq (.reg [SO.mk (some 2) (.move (.const (Value.bool true))) none]) (.keep [2] .ret))
theorem u61_9 : type_of% (@swc _ _ c61_9.eq_1) := @swc _ _ c61_9.eq_1
def c61_10 : SC := (.seq (.seq (.reg [SO.mk (some 3) (.move (.const (Value.int .i64 0))) none]) (.keep [0, 3] c61_8)) (.keep [] c61_9))
theorem u61_10 : type_of% (@swc _ _ c61_10.eq_1) := @swc _ _ c61_10.eq_1
def c61 : SC := (.seq (.reg [SO.mk (some 2) (.move (.const (Value.bool false))) none]) (.keep [0] c61_10))
theorem c61_eq : annC Try.f61 = some c61 := by kernel_rfl
theorem r61 : Try.f61.results.toList = [.tmp 2] := by kernel_rfl
theorem e61 : enters Try.prog 61 = true := by kernel_rfl
def c60_1 : SC := (.seq (.reg [SO.mk (some 4) (.move (.const (Value.int .i64 1))) none]) (.keep [4] .ret))
theorem u60_1 : type_of% (@swc _ _ c60_1.eq_1) := @swc _ _ c60_1.eq_1
def c60_2 : SC := (.cond (.tmp 9) c60_1 .skip)
theorem u60_2 : type_of% (@swc _ _ c60_2.eq_1) := @swc _ _ c60_2.eq_1
def c60_3 : SC := (.seq (.reg [SO.mk (some 4) (.move (.const (Value.int .i64 4))) none]) (.keep [4] .ret))
theorem u60_3 : type_of% (@swc _ _ c60_3.eq_1) := @swc _ _ c60_3.eq_1
def c60_4 : SC := (.cond (.tmp 12) c60_3 .skip)
theorem u60_4 : type_of% (@swc _ _ c60_4.eq_1) := @swc _ _ c60_4.eq_1
def c60_5 : SC := (.seq (.reg [SO.mk (some 4) (.move (.const (Value.int .i64 0))) none]) (.keep [4] .ret))
theorem u60_5 : type_of% (@swc _ _ c60_5.eq_1) := @swc _ _ c60_5.eq_1
def c60_6 : SC := (.seq (.seq (.reg [SO.mk (some 10) (.move (.tmp 0)) none, SO.mk (some 11) (.call 61 [(.tmp 10)]) none, SO.mk (some 12) (.un .not (.tmp 11)) none]) (.keep [12] c60_4)) (.keep [] c60_5))
theorem u60_6 : type_of% (@swc _ _ c60_6.eq_1) := @swc _ _ c60_6.eq_1
def c60_7 : SC := (.seq (.seq (.reg [SO.mk (some 5) (.move (.tmp 0)) none, SO.mk (some 6) (.len 9 (.tmp 5)) none, SO.mk (some 7) (.move (.tmp 1)) none, SO.mk (some 8) (.call 26 [(.tmp 6), (.const (Value.int .i64 1)), (.tmp 7)]) none, SO.mk (some 9) (.un .not (.tmp 8)) none]) (.keep [9, 0] c60_2)) (.keep [0] c60_6))
theorem u60_7 : type_of% (@swc _ _ c60_7.eq_1) := @swc _ _ c60_7.eq_1
def c60 : SC := (.seq (.reg [SO.mk (some 4) (.move (.const (Value.int .i64 0))) none]) (.keep [1, 0] c60_7))
theorem c60_eq : annC Try.f60 = some c60 := by kernel_rfl
theorem r60 : Try.f60.results.toList = [.tmp 4] := by kernel_rfl
theorem e60 : enters Try.prog 60 = true := by kernel_rfl
def o52_1 : List SO := ((SO.mk (some 3) (.move (.tmp 11)) none) :: [])
theorem v52_1 : type_of% (@swl _ _ o52_1.eq_1) := @swl _ _ o52_1.eq_1
def o52_2 : List SO := ((SO.mk (some 8) (.move (.tmp 0)) (some (7 , false))) :: (SO.mk (some 9) (.len 9 (.tmp 8)) (some (7 , false))) :: (SO.mk (some 10) (.bin .gtr 3 (.tmp 9) (.const (Value.int .i64 8))) (some (7 , false))) :: (SO.mk (some 11) (.pick (.tmp 7) (.const (Value.bool true)) (.tmp 10)) none) :: o52_1)
theorem v52_2 : type_of% (@swl _ _ o52_2.eq_1) := @swl _ _ o52_2.eq_1
def c52_3 : SC := (.seq (.reg [SO.mk (some 2) (.move (.const (Value.int .i64 1))) none]) (.keep [2] .ret))
theorem u52_3 : type_of% (@swc _ _ c52_3.eq_1) := @swc _ _ c52_3.eq_1
def c52_4 : SC := (.seq (.reg [SO.mk (some 2) (.move (.const (Value.int .i64 4))) none]) (.keep [2] .ret))
theorem u52_4 : type_of% (@swc _ _ c52_4.eq_1) := @swc _ _ c52_4.eq_1
def c52_5 : SC := (.cond (.tmp 12) c52_4 .skip)
theorem u52_5 : type_of% (@swc _ _ c52_5.eq_1) := @swc _ _ c52_5.eq_1
def c52_6 : SC := (.seq (.reg [SO.mk (some 13) (.move (.tmp 0)) none, SO.mk (some 14) (.call 62 [(.tmp 13)]) none, SO.mk (some 15) (.un .not (.tmp 14)) none, SO.mk (some 12) (.move (.tmp 15)) none]) (.keep [12] c52_5))
theorem u52_6 : type_of% (@swc _ _ c52_6.eq_1) := @swc _ _ c52_6.eq_1
def c52_7 : SC := (.cond (.tmp 3) c52_3 c52_6)
theorem u52_7 : type_of% (@swc _ _ c52_7.eq_1) := @swc _ _ c52_7.eq_1
def c52_8 : SC := (.seq (.reg [SO.mk (some 2) (.move (.const (Value.int .i64 0))) none]) (.keep [2] .ret))
theorem u52_8 : type_of% (@swc _ _ c52_8.eq_1) := @swc _ _ c52_8.eq_1
def c52_9 : SC := (.seq (.block 0 (.seq (.reg ((SO.mk (some 4) (.move (.tmp 0)) none) :: (SO.mk (some 5) (.len 9 (.tmp 4)) none) :: (SO.mk (some 6) (.bin .lss 3 (.tmp 5) (.const (Value.int .i64 1))) none) :: (SO.mk (some 7) (.move (.tmp 6)) none) :: o52_2)) (.keep [3, 0] c52_7))) (.keep [] c52_8))
theorem u52_9 : type_of% (@swc _ _ c52_9.eq_1) := @swc _ _ c52_9.eq_1
def c52 : SC := (.seq (.reg [SO.mk (some 2) (.move (.const (Value.int .i64 0))) none]) (.keep [0] c52_9))
theorem c52_eq : annC Try.f52 = some c52 := by kernel_rfl
theorem r52 : Try.f52.results.toList = [.tmp 2] := by kernel_rfl
theorem e52 : enters Try.prog 52 = true := by kernel_rfl
def o56_1 : List SO := ((SO.mk (some 3) (.move (.tmp 11)) none) :: [])
theorem v56_1 : type_of% (@swl _ _ o56_1.eq_1) := @swl _ _ o56_1.eq_1
def o56_2 : List SO := ((SO.mk (some 8) (.move (.tmp 0)) (some (7 , false))) :: (SO.mk (some 9) (.len 9 (.tmp 8)) (some (7 , false))) :: (SO.mk (some 10) (.bin .gtr 3 (.tmp 9) (.const (Value.int .i64 16))) (some (7 , false))) :: (SO.mk (some 11) (.pick (.tmp 7) (.const (Value.bool true)) (.tmp 10)) none) :: o56_1)
theorem v56_2 : type_of% (@swl _ _ o56_2.eq_1) := @swl _ _ o56_2.eq_1
def c56_3 : SC := (.seq (.reg [SO.mk (some 2) (.move (.const (Value.int .i64 1))) none]) (.keep [2] .ret))
theorem u56_3 : type_of% (@swc _ _ c56_3.eq_1) := @swc _ _ c56_3.eq_1
def c56_4 : SC := (.seq (.reg [SO.mk (some 2) (.move (.const (Value.int .i64 4))) none]) (.keep [2] .ret))
theorem u56_4 : type_of% (@swc _ _ c56_4.eq_1) := @swc _ _ c56_4.eq_1
def c56_5 : SC := (.cond (.tmp 12) c56_4 .skip)
theorem u56_5 : type_of% (@swc _ _ c56_5.eq_1) := @swc _ _ c56_5.eq_1
def c56_6 : SC := (.seq (.reg [SO.mk (some 13) (.move (.tmp 0)) none, SO.mk (some 14) (.call 62 [(.tmp 13)]) none, SO.mk (some 15) (.un .not (.tmp 14)) none, SO.mk (some 12) (.move (.tmp 15)) none]) (.keep [12] c56_5))
theorem u56_6 : type_of% (@swc _ _ c56_6.eq_1) := @swc _ _ c56_6.eq_1
def c56_7 : SC := (.cond (.tmp 3) c56_3 c56_6)
theorem u56_7 : type_of% (@swc _ _ c56_7.eq_1) := @swc _ _ c56_7.eq_1
def c56_8 : SC := (.seq (.reg [SO.mk (some 2) (.move (.const (Value.int .i64 0))) none]) (.keep [2] .ret))
theorem u56_8 : type_of% (@swc _ _ c56_8.eq_1) := @swc _ _ c56_8.eq_1
def c56_9 : SC := (.seq (.block 0 (.seq (.reg ((SO.mk (some 4) (.move (.tmp 0)) none) :: (SO.mk (some 5) (.len 9 (.tmp 4)) none) :: (SO.mk (some 6) (.bin .lss 3 (.tmp 5) (.const (Value.int .i64 1))) none) :: (SO.mk (some 7) (.move (.tmp 6)) none) :: o56_2)) (.keep [3, 0] c56_7))) (.keep [] c56_8))
theorem u56_9 : type_of% (@swc _ _ c56_9.eq_1) := @swc _ _ c56_9.eq_1
def c56 : SC := (.seq (.reg [SO.mk (some 2) (.move (.const (Value.int .i64 0))) none]) (.keep [0] c56_9))
theorem c56_eq : annC Try.f56 = some c56 := by kernel_rfl
theorem r56 : Try.f56.results.toList = [.tmp 2] := by kernel_rfl
theorem e56 : enters Try.prog 56 = true := by kernel_rfl
def c43_1 : SC := (.seq (.reg [SO.mk (some 3) (.move (.tmp 0)) none, SO.mk (some 4) (.call 60 [(.tmp 3), (.const (Value.int .i64 8))]) none, SO.mk (some 2) (.move (.tmp 4)) none]) (.keep [2] .ret))
theorem u43_1 : type_of% (@swc _ _ c43_1.eq_1) := @swc _ _ c43_1.eq_1
def c43 : SC := (.seq (.reg [SO.mk (some 2) (.move (.const (Value.int .i64 0))) none]) (.keep [0] c43_1))
theorem c43_eq : annC Try.f43 = some c43 := by kernel_rfl
theorem r43 : Try.f43.results.toList = [.tmp 2] := by kernel_rfl
theorem e43 : enters Try.prog 43 = true := by kernel_rfl
def c47_1 : SC := (.seq (.reg [SO.mk (some 3) (.move (.tmp 0)) none, SO.mk (some 4) (.call 60 [(.tmp 3), (.const (Value.int .i64 16))]) none, SO.mk (some 2) (.move (.tmp 4)) none]) (.keep [2] .ret))
theorem u47_1 : type_of% (@swc _ _ c47_1.eq_1) := @swc _ _ c47_1.eq_1
def c47 : SC := (.seq (.reg [SO.mk (some 2) (.move (.const (Value.int .i64 0))) none]) (.keep [0] c47_1))
theorem c47_eq : annC Try.f47 = some c47 := by kernel_rfl
theorem r47 : Try.f47.results.toList = [.tmp 2] := by kernel_rfl
theorem e47 : enters Try.prog 47 = true := by kernel_rfl
def c53_1 : SC := (.seq (.reg [SO.mk (some 2) (.move (.const (Value.int .i64 1))) none]) (.keep [2] .ret))
theorem u53_1 : type_of% (@swc _ _ c53_1.eq_1) := @swc _ _ c53_1.eq_1
def c53_2 : SC := (.seq (.reg [SO.mk (some 2) (.move (.const (Value.int .i64 4))) none]) (.keep [2] .ret))
theorem u53_2 : type_of% (@swc _ _ c53_2.eq_1) := @swc _ _ c53_2.eq_1
def o53_3 : List SO := ((SO.mk (some 30) (.bin .gtr 3 (.tmp 29) (.const (Value.int .i64 1073741824))) (some (27 , false))) :: (SO.mk (some 31) (.pick (.tmp 27) (.const (Value.bool true)) (.tmp 30)) none) :: (SO.mk (some 13) (.move (.tmp 31)) none) :: [])
theorem v53_3 : type_of% (@swl _ _ o53_3.eq_1) := @swl _ _ o53_3.eq_1
def o53_4 : List SO := ((SO.mk (some 26) (.pick (.tmp 22) (.const (Value.bool true)) (.tmp 25)) none) :: (SO.mk (some 27) (.move (.tmp 26)) none) :: (SO.mk (some 28) (.faddr 76 (.tmp 1) 2) (some (27 , false))) :: (SO.mk (some 29) (.load 3 (.tmp 28)) (some (27 , false))) :: o53_3)
theorem v53_4 : type_of% (@swl _ _ o53_4.eq_1) := @swl _ _ o53_4.eq_1
def o53_5 : List SO := ((SO.mk (some 22) (.move (.tmp 21)) none) :: (SO.mk (some 23) (.faddr 76 (.tmp 1) 2) (some (22 , false))) :: (SO.mk (some 24) (.load 3 (.tmp 23)) (some (22 , false))) :: (SO.mk (some 25) (.bin .lss 3 (.tmp 24) (.const (Value.int .i64 (-1)))) (some (22 , false))) :: o53_4)
theorem v53_5 : type_of% (@swl _ _ o53_5.eq_1) := @swl _ _ o53_5.eq_1
def o53_6 : List SO := ((SO.mk (some 18) (.faddr 76 (.tmp 1) 1) (some (17 , false))) :: (SO.mk (some 19) (.load 3 (.tmp 18)) (some (17 , false))) :: (SO.mk (some 20) (.bin .gtr 3 (.tmp 19) (.const (Value.int .i64 1073741824))) (some (17 , false))) :: (SO.mk (some 21) (.pick (.tmp 17) (.const (Value.bool true)) (.tmp 20)) none) :: o53_5)
theorem v53_6 : type_of% (@swl _ _ o53_6.eq_1) := @swl _ _ o53_6.eq_1
def c53_7 : SC := (.seq (.reg [SO.mk (some 2) (.move (.const (Value.int .i64 2))) none]) (.keep [2] .ret))
theorem u53_7 : type_of% (@swc _ _ c53_7.eq_1) := @swc _ _ c53_7.eq_1
def c53_8 : SC := (.cond (.tmp 13) c53_7 .skip)
theorem u53_8 : type_of% (@swc _ _ c53_8.eq_1) := @swc _ _ c53_8.eq_1
def c53_9 : SC := (.seq (.reg ((SO.mk (some 14) (.faddr 76 (.tmp 1) 1) none) :: (SO.mk (some 15) (.load 3 (.tmp 14)) none) :: (SO.mk (some 16) (.bin .lss 3 (.tmp 15) (.const (Value.int .i64 (-1)))) none) :: (SO.mk (some 17) (.move (.tmp 16)) none) :: o53_6)) (.keep [13] c53_8))
theorem u53_9 : type_of% (@swc _ _ c53_9.eq_1) := @swc _ _ c53_9.eq_1
def c53_10 : SC := (.cond (.tmp 8) c53_2 c53_9)
theorem u53_10 : type_of% (@swc _ _ c53_10.eq_1) := @swc _ _ c53_10.eq_1
def c53_11 : SC := (.seq (.reg [SO.mk (some 9) (.faddr 76 (.tmp 1) 0) none, SO.mk (some 10) (.load 9 (.tmp 9)) none, SO.mk (some 11) (.call 62 [(.tmp 10)]) none, SO.mk (some 12) (.un .not (.tmp 11)) none, SO.mk (some 8) (.move (.tmp 12)) none]) (.keep [8, 1] c53_10))
theorem u53_11 : type_of% (@swc _ _ c53_11.eq_1) := @swc _ _ c53_11.eq_1
def c53_12 : SC := (.cond (.tmp 3) c53_1 c53_11)
theorem u53_12 : type_of% (@swc _ _ c53_12.eq_1) := @swc _ _ c53_12.eq_1
def c53_13 : SC := (.seq (.reg [SO.mk (some 2) (.move (.const (Value.int .i64 0))) none]) (.keep [2] .ret))
theorem u53_13 : type_of% (@swc _ _ c53_13.eq_1) := @swc _ _ c53_13.eq_1
def c53_14 : SC := (.seq (.block 0 (.seq (.reg [SO.mk (some 4) (.faddr 76 (.tmp 1) 0) none, SO.mk (some 5) (.load 9 (.tmp 4)) none, SO.mk (some 6) (.len 9 (.tmp 5)) none, SO.mk (some 7) (.bin .gtr 3 (.tmp 6) (.const (Value.int .i64 16))) none, SO.mk (some 3) (.move (.tmp 7)) none]) (.keep [3, 1] c53_12))) (.keep [] c53_13))
theorem u53_14 : type_of% (@swc _ _ c53_14.eq_1) := @swc _ _ c53_14.eq_1
def c53 : SC := (.seq (.reg [SO.mk (some 1) (.box 76 (.tmp 0)) none, SO.mk (some 2) (.move (.const (Value.int .i64 0))) none]) (.keep [1] c53_14))
theorem c53_eq : annC Try.f53 = some c53 := by kernel_rfl
theorem r53 : Try.f53.results.toList = [.tmp 2] := by kernel_rfl
theorem e53 : enters Try.prog 53 = true := by kernel_rfl
def c44_1 : SC := (.seq (.reg [SO.mk (some 2) (.move (.const (Value.int .i64 1))) none]) (.keep [2] .ret))
theorem u44_1 : type_of% (@swc _ _ c44_1.eq_1) := @swc _ _ c44_1.eq_1
def c44_2 : SC := (.cond (.tmp 6) c44_1 .skip)
theorem u44_2 : type_of% (@swc _ _ c44_2.eq_1) := @swc _ _ c44_2.eq_1
def c44_3 : SC := (.seq (.reg [SO.mk (some 2) (.move (.const (Value.int .i64 4))) none]) (.keep [2] .ret))
theorem u44_3 : type_of% (@swc _ _ c44_3.eq_1) := @swc _ _ c44_3.eq_1
def c44_4 : SC := (.cond (.tmp 10) c44_3 .skip)
theorem u44_4 : type_of% (@swc _ _ c44_4.eq_1) := @swc _ _ c44_4.eq_1
def o44_5 : List SO := ((SO.mk (some 19) (.un .not (.tmp 18)) (some (15 , false))) :: (SO.mk (some 20) (.pick (.tmp 15) (.const (Value.bool true)) (.tmp 19)) none) :: [])
theorem v44_5 : type_of% (@swl _ _ o44_5.eq_1) := @swl _ _ o44_5.eq_1
def o44_6 : List SO := ((SO.mk (some 15) (.move (.tmp 14)) none) :: (SO.mk (some 16) (.faddr 76 (.tmp 1) 2) (some (15 , false))) :: (SO.mk (some 17) (.load 3 (.tmp 16)) (some (15 , false))) :: (SO.mk (some 18) (.call 26 [(.tmp 17), (.const (Value.int .i64 (-1))), (.const (Value.int .i64 1073741824))]) (some (15 , false))) :: o44_5)
theorem v44_6 : type_of% (@swl _ _ o44_6.eq_1) := @swl _ _ o44_6.eq_1
def c44_7 : SC := (.seq (.reg [SO.mk (some 2) (.move (.const (Value.int .i64 2))) none]) (.keep [2] .ret))
theorem u44_7 : type_of% (@swc _ _ c44_7.eq_1) := @swc _ _ c44_7.eq_1
def c44_8 : SC := (.cond (.tmp 20) c44_7 .skip)
theorem u44_8 : type_of% (@swc _ _ c44_8.eq_1) := @swc _ _ c44_8.eq_1
def c44_9 : SC := (.seq (.reg [SO.mk (some 2) (.move (.const (Value.int .i64 0))) none]) (.keep [2] .ret))
theorem u44_9 : type_of% (@swc _ _ c44_9.eq_1) := @swc _ _ c44_9.eq_1
def c44_10 : SC := (.seq (.seq (.reg ((SO.mk (some 11) (.faddr 76 (.tmp 1) 1) none) :: (SO.mk (some 12) (.load 3 (.tmp 11)) none) :: (SO.mk (some 13) (.call 26 [(.tmp 12), (.const (Value.int .i64 (-1))), (.const (Value.int .i64 1073741824))]) none) :: (SO.mk (some 14) (.un .not (.tmp 13)) none) :: o44_6)) (.keep [20] c44_8)) (.keep [] c44_9))
theorem u44_10 : type_of% (@swc _ _ c44_10.eq_1) := @swc _ _ c44_10.eq_1
def c44_11 : SC := (.seq (.seq (.reg [SO.mk (some 7) (.faddr 76 (.tmp 1) 0) none, SO.mk (some 8) (.load 9 (.tmp 7)) none, SO.mk (some 9) (.call 61 [(.tmp 8)]) none, SO.mk (some 10) (.un .not (.tmp 9)) none]) (.keep [10, 1] c44_4)) (.keep [1] c44_10))
theorem u44_11 : type_of% (@swc _ _ c44_11.eq_1) := @swc _ _ c44_11.eq_1
def c44_12 : SC := (.seq (.seq (.reg [SO.mk (some 3) (.faddr 76 (.tmp 1) 0) none, SO.mk (some 4) (.load 9 (.tmp 3)) none, SO.mk (some 5) (.len 9 (.tmp 4)) none, SO.mk (some 6) (.bin .gtr 3 (.tmp 5) (.const (Value.int .i64 16))) none]) (.keep [6, 1] c44_2)) (.keep [1] c44_11))
theorem u44_12 : type_of% (@swc _ _ c44_12.eq_1) := @swc _ _ c44_12.eq_1
def c44 : SC := (.seq (.reg [SO.mk (some 1) (.box 76 (.tmp 0)) none, SO.mk (some 2) (.move (.const (Value.int .i64 0))) none]) (.keep [1] c44_12))
theorem c44_eq : annC Try.f44 = some c44 := by kernel_rfl
theorem r44 : Try.f44.results.toList = [.tmp 2] := by kernel_rfl
theorem e44 : enters Try.prog 44 = true := by kernel_rfl
end Go.Proofs.Yteaojhieghakfaa
namespace Go.Proofs.Yteaojhieghakfaa
open Go.RowKit
set_option maxHeartbeats 4000000
set_option maxRecDepth 20000
attribute [local irreducible] SW SWL SWLn SWD SEcall SEcallv SDv SE SO1 SOg ACalls ACallv Wk EndV
set_option linter.unusedSimpArgs false
set_option linter.unusedVariables false
def chr (s : ByteArray) (k : Nat) : Int := ((s.data.getD k 0).toNat : Int)
theorem chr_eq (s : ByteArray) (k : Nat) : ((s.data.getD k 0).toNat : Int) = chr s k := rfl
def chrOk (s : ByteArray) (k : Nat) : Bool := !(decide (chr s k < 33) || decide (chr s k > 126))
def lettersF (s : ByteArray) : Bool := (List.range s.size).all (chrOk s)
theorem letters_all {s : ByteArray} (h : ∀ i, i < s.size → chrOk s i = true) : lettersF s = true := by
  unfold lettersF; rw [List.all_eq_true]; intro i hi; exact h i (List.mem_range.1 hi)
theorem letters_no {s : ByteArray} {k : Nat} (hk : k < s.size) (h : chrOk s k = false) : lettersF s = false := by
  unfold lettersF; rw [List.all_eq_false]; exact ⟨k, List.mem_range.2 hk, by rw [h]; decide⟩
theorem chr_1 {s : ByteArray} {k : Nat} (h : decide (chr s k < 33) = true) : chrOk s k = false := by unfold chrOk; rw [h]; rfl
theorem chr_2 {s : ByteArray} {k : Nat} (h : decide (chr s k > 126) = true) : chrOk s k = false := by unfold chrOk; rw [h]; cases decide (chr s k < 33) <;> rfl
theorem chr_3 {s : ByteArray} {k : Nat} (h : decide (chr s k < 33) = false) (h2 : decide (chr s k > 126) = false) : chrOk s k = true := by unfold chrOk; rw [h, h2]; rfl
theorem chr_in {s : ByteArray} {k : Nat} : inR (chr s k) 33 126 = chrOk s k := by
  unfold inR chrOk
  rw [Bool.eq_iff_iff]; simp
theorem chr_w (s : ByteArray) (k : Nat) : IntKind.i64.wrap (chr s k) = chr s k := by
  refine IntWalk.i64_in _ ?_
  have := (s.data.getD k 0).toNat_lt
  unfold chr; omega
theorem allS {p : Nat → Bool} {k : Nat} (hF : ∀ i, i < k → p i = true) (h : p k = true) : ∀ i, i < k + 1 → p i = true := fun i hi => by
  rcases Nat.lt_succ_iff_lt_or_eq.1 hi with h' | rfl
  · exact hF i h'
  · exact h
theorem ltS {k n : Nat} (h : decide ((k : Int) < (n : Int)) = true) : k < n := by simpa using h
theorem geS {k n : Nat} (h : decide ((k : Int) < (n : Int)) = false) : n ≤ k := by simpa using h
theorem szW {s : ByteArray} {m : Int} (h : (!inR (s.size : Int) 1 m) = false) (hm : m ≤ 2 ^ 47) : s.size ≤ 2 ^ 47 := by
  have h1 : inR (s.size : Int) 1 m = true := by simpa using h
  have := of_decide_eq_true (Bool.and_eq_true_iff.1 h1).2; omega
def wordF (s : ByteArray) (m : Int) : Int := bif inR s.size 1 m then (bif lettersF s then 0 else 4) else 1
def ruleF (x : ByteArray) (f d : Int) : Int := bif decide ((x.size : Int) > 16) then 1 else bif lettersF x then (bif inR f (-1) 1073741824 && inR d (-1) 1073741824 then 0 else 2) else 4
theorem inR_no1 {a b c : Int} (h : decide (a < b) = true) : inR a b c = false := by have := of_decide_eq_true h; unfold inR; rw [Bool.and_eq_false_iff]; left; simp; omega
theorem inR_no2 {a b c : Int} (h : decide (a > c) = true) : inR a b c = false := by have := of_decide_eq_true h; unfold inR; rw [Bool.and_eq_false_iff]; right; simp; omega
theorem inR_yes {a b c : Int} (h : decide (a < b) = false) (h2 : decide (a > c) = false) : inR a b c = true := by have := of_decide_eq_false h; have := of_decide_eq_false h2; unfold inR; rw [Bool.and_eq_true]; simp; omega
theorem letters_p (s : ByteArray) (hs : s.size ≤ 2 ^ 47) : Pure Try.prog 62 [.d (.v (.string s))] (Bo (lettersF s)) := by
  refine pure_of follows Try.func62 c62_eq r62 (Nat.le_of_ble_eq_true rfl) fun B σ hcl hsz => ?_
  clear hsz
  repeat' (first | (simp -implicitDefEqProofs only [*, contN, contC, Nat.reduceBEq, Bool.or_false, Bool.or_true, Bool.false_or, Bool.true_or, Bool.not_true, Bool.not_false, w_skip, w_ret, w_exit, w_reg, w_dreg, w_seq, SK_n, SK_r, SK_x, w_keep, w_block, w_cond, w_nil, w_cons, w_consg, w_nnil, w_ncons, w_dnil, w_dcons, w_dconsg, HK_app, HD_app, HQ_n, HQ_r, HQ_x, HQ_bn, HQ_br, HQ_bx, HQ_en, HQ_er, HQ_ex, CondB_true, CondB_false, SO1, w_sdv, SDe_alloc, SDe_box, SDe_bslice, SDe_app, true_imp_iff, false_imp_iff, and_false, false_and, not_false_eq_true, not_true_eq_false, addN, mkNames, killT, killD, killO, List.foldl_nil, List.foldl_cons, List.append_nil, List.nil_append, List.cons_append, GuardS_true, GuardS_false, GuardD_true, GuardD_false, DK_true, DK_false, lt_self_add, le_self_add, decide_true, decide_false, Bool.false_eq_true, Bool.true_eq_false, Nat.add_left_cancel_iff, SE, SEalloc, SEbox, SEstore, w_bs, SEbl, SEfz, SEbs0, fzName, osOf, AV.fz1, w_app, w_mk, aev, opd, Fr.get, putO, Fr.norm, List.map_cons, List.map_nil, with1, with2, onInt, AV.lit, entry, ↓reduceIte, Nat.reduceEqDiff, Nat.reduceAdd, reduceCtorEq, true_and, and_true, Option.map_some, Option.map_none, Option.bind_some, Option.bind_none, cond_true, cond_false, binV, unV, fieldV, loadV, sto, cellsAV, newF, newL, Fr.map, Loc.kill, Loc.set, AO.kill, AV.kill, AV.mapN, AV.mapNL, List.filter_nil, List.filter_cons, allP, EndV, retV, resV, resL, frz, dropL, AV.pick, nilV, tupV, imp_self, ne_eq, Int.cast_ofNat_Int, Int.reduceLT, Int.reduceToNat, List.getD_cons_zero, List.getD_cons_succ, bsliceV, buildV, afill, repl, chunk, rvs, AV.rv, RV.nrm, List.getElem?_nil, List.append_assoc, Nat.reduceMul, Nat.reducePow, Nat.zero_lt_succ, Nat.zero_add, Nat.add_zero, List.length_cons, List.length_nil, Nat.reduceLeDiff, Nat.le_refl, List.take_succ_cons, List.take_zero, List.drop_succ_cons, List.drop_zero, indexV, lenV, rowOf_mapD, rowOf_mapI, rowOf_mapA, List.length_map, Int.toNat_natCast, List.getElem?_cons_zero, List.getElem?_cons_succ, and_self, implies_true, if_true, if_false, HQ_zn, HQ_zr, HQ_wn, HQ_wr, AV.nz, AV.nzL, RV.nrm, SEbin, SEnil, nilK, srcV, dstV, appName, List.length_append, Nat.mul_one, take_map_len, take_map_app, List.getElem?_cons_zero, List.map_append, SEmkmap, SEmset, mgetV, kvOf, getM, setM, c62, r62, v62_1, v62_2, u62_3, u62_4, u62_5, u62_6, u62_7, u62_8, u62_9, u62_10, u62_11, u62_12, ty9, ty3, ty5, idxV, chr_eq]) | (with_reducible refine And.intro ?_ ?_) | (refine loop_nat (s.size) (fun k => ∀ i, i < k → chrOk s i = true) (fun k => [(0, .d (.v (.string s))), (5, I s.size), (6, I k)]) (fun k => []) ?_ (Wk.keep hcl ?_ ?_ ?_) fun k hk hF => ?_; rotate_left 1; (focus (simp [Fr.get, newF, Fr.map, AV.kill, AV.mapN, idxV, chr_eq] <;> fail)); (focus (simp [sto, newL, Loc.kill, Loc.set, AO.kill, AV.kill, AV.mapN, idxV, chr_eq] <;> fail)); (focus (simp [newL, Loc.kill, Loc.set, idxV, chr_eq] <;> fail)); (try have hw : IntKind.i64.wrap ((k : Int) + 1) = (k : Int) + 1 := IntWalk.i64_in _ (by omega))) | (refine EndX.plain ?_) | (refine nil_split (fun hn => ?_) (fun hn => ?_)) | (refine gcall_no not_false ?_) | (refine gdcall_no not_false ?_) | (refine GuardS_of _ _ _ _ _ _ (fun hg => ?_) (fun hg => ?_)) | (refine GuardD_of _ _ _ _ (fun hg => ?_) (fun hg => ?_)) | (refine CondB_of _ _ _ _ _ _ _ ?_ (fun hg => ?_) (fun hg => ?_)))
  all_goals (try (first | ((first | unfold noN | unfold Fr.below | unfold Loc.below); simp [Fr.allN, AV.allN, AV.allNL, AO.allN]; done) | rfl | trivial | assumption | (intro row hrow; simp only [List.mem_map] at hrow; obtain ⟨x, _, rfl⟩ := hrow; rfl) | (refine Wk.keep hcl ?_ ?_ ?_; (focus (simp [Fr.get, idxV, chr_eq] <;> fail)); (focus (simp [sto, idxV, chr_eq] <;> fail)); (focus (simp <;> fail))) | (simp [allP, opd, Fr.get, Fr.below, Fr.allN, AV.allN, AV.allNL, Loc.below, AO.allN, noN, killO, killT, killD, mkNames, AO.kill, AV.kill, AV.mapN, AV.mapNL]; done) | (with_reducible exact ltD (by assumption)) | omega | (simp only [decide_eq_true_eq, decide_eq_false_iff_not] at *; omega)))
  all_goals first
    | (rw [letters_no (ltS (by assumption)) (by first | exact chr_1 (by assumption) | exact chr_2 (by assumption))] <;> rfl)
    | (have e : k = s.size := by have := geS (by assumption); omega
       subst e
       rw [letters_all hF] <;> rfl)
    | exact allS hF (chr_3 (by assumption) (by assumption))
theorem plain_p (s : ByteArray) (hs : s.size ≤ 2 ^ 47) : Pure Try.prog 61 [.d (.v (.string s))] (Bo (lettersF s)) := by
  refine pure_of follows Try.func61 c61_eq r61 (Nat.le_of_ble_eq_true rfl) fun B σ hcl hsz => ?_
  clear hsz
  repeat' (first | (simp -implicitDefEqProofs only [*, contN, contC, Nat.reduceBEq, Bool.or_false, Bool.or_true, Bool.false_or, Bool.true_or, Bool.not_true, Bool.not_false, w_skip, w_ret, w_exit, w_reg, w_dreg, w_seq, SK_n, SK_r, SK_x, w_keep, w_block, w_cond, w_nil, w_cons, w_consg, w_nnil, w_ncons, w_dnil, w_dcons, w_dconsg, HK_app, HD_app, HQ_n, HQ_r, HQ_x, HQ_bn, HQ_br, HQ_bx, HQ_en, HQ_er, HQ_ex, CondB_true, CondB_false, SO1, w_sdv, SDe_alloc, SDe_box, SDe_bslice, SDe_app, true_imp_iff, false_imp_iff, and_false, false_and, not_false_eq_true, not_true_eq_false, addN, mkNames, killT, killD, killO, List.foldl_nil, List.foldl_cons, List.append_nil, List.nil_append, List.cons_append, GuardS_true, GuardS_false, GuardD_true, GuardD_false, DK_true, DK_false, lt_self_add, le_self_add, decide_true, decide_false, Bool.false_eq_true, Bool.true_eq_false, Nat.add_left_cancel_iff, SE, SEalloc, SEbox, SEstore, w_bs, SEbl, SEfz, SEbs0, fzName, osOf, AV.fz1, w_app, w_mk, aev, opd, Fr.get, putO, Fr.norm, List.map_cons, List.map_nil, with1, with2, onInt, AV.lit, entry, ↓reduceIte, Nat.reduceEqDiff, Nat.reduceAdd, reduceCtorEq, true_and, and_true, Option.map_some, Option.map_none, Option.bind_some, Option.bind_none, cond_true, cond_false, binV, unV, fieldV, loadV, sto, cellsAV, newF, newL, Fr.map, Loc.kill, Loc.set, AO.kill, AV.kill, AV.mapN, AV.mapNL, List.filter_nil, List.filter_cons, allP, EndV, retV, resV, resL, frz, dropL, AV.pick, nilV, tupV, imp_self, ne_eq, Int.cast_ofNat_Int, Int.reduceLT, Int.reduceToNat, List.getD_cons_zero, List.getD_cons_succ, bsliceV, buildV, afill, repl, chunk, rvs, AV.rv, RV.nrm, List.getElem?_nil, List.append_assoc, Nat.reduceMul, Nat.reducePow, Nat.zero_lt_succ, Nat.zero_add, Nat.add_zero, List.length_cons, List.length_nil, Nat.reduceLeDiff, Nat.le_refl, List.take_succ_cons, List.take_zero, List.drop_succ_cons, List.drop_zero, indexV, lenV, rowOf_mapD, rowOf_mapI, rowOf_mapA, List.length_map, Int.toNat_natCast, List.getElem?_cons_zero, List.getElem?_cons_succ, and_self, implies_true, if_true, if_false, HQ_zn, HQ_zr, HQ_wn, HQ_wr, AV.nz, AV.nzL, RV.nrm, SEbin, SEnil, nilK, srcV, dstV, appName, List.length_append, Nat.mul_one, take_map_len, take_map_app, List.getElem?_cons_zero, List.map_append, SEmkmap, SEmset, mgetV, kvOf, getM, setM, c61, r61, u61_1, v61_2, u61_3, u61_4, u61_5, u61_6, u61_7, u61_8, u61_9, u61_10, ty9, ty3, ty5, idxV, chr_eq, chr_w, chr_in, convV]) | (with_reducible refine And.intro ?_ ?_) | (refine call_ro e26 ( In_p (chr s k) 33 126) rfl ?_ ?_ ?_ ?_) | (refine gcall_ro e26 ( In_p (chr s k) 33 126) rfl ?_ ?_ ?_ ?_) | (refine dcall_ro e26 ( In_p (chr s k) 33 126) rfl ?_ ?_ ?_ ?_) | (refine gdcall_ro rfl e26 ( In_p (chr s k) 33 126) rfl ?_ ?_ ?_ ?_) | (refine loop_nat (s.size) (fun k => ∀ i, i < k → chrOk s i = true) (fun k => [(0, .d (.v (.string s))), (3, I k)]) (fun k => []) ?_ (Wk.keep hcl ?_ ?_ ?_) fun k hk hF => ?_; rotate_left 1; (focus (simp [Fr.get, newF, Fr.map, AV.kill, AV.mapN, idxV, chr_eq, chr_w, chr_in, convV] <;> fail)); (focus (simp [sto, newL, Loc.kill, Loc.set, AO.kill, AV.kill, AV.mapN, idxV, chr_eq, chr_w, chr_in, convV] <;> fail)); (focus (simp [newL, Loc.kill, Loc.set, idxV, chr_eq, chr_w, chr_in, convV] <;> fail)); (try have hw : IntKind.i64.wrap ((k : Int) + 1) = (k : Int) + 1 := IntWalk.i64_in _ (by omega))) | (refine EndX.plain ?_) | (refine nil_split (fun hn => ?_) (fun hn => ?_)) | (refine gcall_no not_false ?_) | (refine gdcall_no not_false ?_) | (refine GuardS_of _ _ _ _ _ _ (fun hg => ?_) (fun hg => ?_)) | (refine GuardD_of _ _ _ _ (fun hg => ?_) (fun hg => ?_)) | (refine CondB_of _ _ _ _ _ _ _ ?_ (fun hg => ?_) (fun hg => ?_)))
  all_goals (try (first | ((first | unfold noN | unfold Fr.below | unfold Loc.below); simp [Fr.allN, AV.allN, AV.allNL, AO.allN]; done) | rfl | trivial | assumption | (intro row hrow; simp only [List.mem_map] at hrow; obtain ⟨x, _, rfl⟩ := hrow; rfl) | (refine Wk.keep hcl ?_ ?_ ?_; (focus (simp [Fr.get, idxV, chr_eq, chr_w, chr_in, convV] <;> fail)); (focus (simp [sto, idxV, chr_eq, chr_w, chr_in, convV] <;> fail)); (focus (simp <;> fail))) | (simp [allP, opd, Fr.get, Fr.below, Fr.allN, AV.allN, AV.allNL, Loc.below, AO.allN, noN, killO, killT, killD, mkNames, AO.kill, AV.kill, AV.mapN, AV.mapNL]; done) | (with_reducible exact ltD (by assumption)) | omega | (simp only [decide_eq_true_eq, decide_eq_false_iff_not] at *; omega)))
  all_goals first
    | (rw [letters_no (ltS (by assumption)) (by first | assumption | simpa using (by assumption : (!chrOk s k) = true))] <;> rfl)
    | (have e : k = s.size := by have := geS (by assumption); omega
       subst e
       rw [letters_all hF] <;> rfl)
    | exact allS hF (by first | assumption | simpa using (by assumption : (!chrOk s k) = false))
theorem word_p (s : ByteArray) (m : Int) (hm : m ≤ 2 ^ 47) : Pure Try.prog 60 [.d (.v (.string s)), I m] (I (wordF s m)) := by
  refine pure_of follows Try.func60 c60_eq r60 (Nat.le_of_ble_eq_true rfl) fun B σ hcl hsz => ?_
  clear hsz
  repeat' (first | (simp -implicitDefEqProofs only [*, contN, contC, Nat.reduceBEq, Bool.or_false, Bool.or_true, Bool.false_or, Bool.true_or, Bool.not_true, Bool.not_false, w_skip, w_ret, w_exit, w_reg, w_dreg, w_seq, SK_n, SK_r, SK_x, w_keep, w_block, w_cond, w_nil, w_cons, w_consg, w_nnil, w_ncons, w_dnil, w_dcons, w_dconsg, HK_app, HD_app, HQ_n, HQ_r, HQ_x, HQ_bn, HQ_br, HQ_bx, HQ_en, HQ_er, HQ_ex, CondB_true, CondB_false, SO1, w_sdv, SDe_alloc, SDe_box, SDe_bslice, SDe_app, true_imp_iff, false_imp_iff, and_false, false_and, not_false_eq_true, not_true_eq_false, addN, mkNames, killT, killD, killO, List.foldl_nil, List.foldl_cons, List.append_nil, List.nil_append, List.cons_append, GuardS_true, GuardS_false, GuardD_true, GuardD_false, DK_true, DK_false, lt_self_add, le_self_add, decide_true, decide_false, Bool.false_eq_true, Bool.true_eq_false, Nat.add_left_cancel_iff, SE, SEalloc, SEbox, SEstore, w_bs, SEbl, SEfz, SEbs0, fzName, osOf, AV.fz1, w_app, w_mk, aev, opd, Fr.get, putO, Fr.norm, List.map_cons, List.map_nil, with1, with2, onInt, AV.lit, entry, ↓reduceIte, Nat.reduceEqDiff, Nat.reduceAdd, reduceCtorEq, true_and, and_true, Option.map_some, Option.map_none, Option.bind_some, Option.bind_none, cond_true, cond_false, binV, unV, fieldV, loadV, sto, cellsAV, newF, newL, Fr.map, Loc.kill, Loc.set, AO.kill, AV.kill, AV.mapN, AV.mapNL, List.filter_nil, List.filter_cons, allP, EndV, retV, resV, resL, frz, dropL, AV.pick, nilV, tupV, imp_self, ne_eq, Int.cast_ofNat_Int, Int.reduceLT, Int.reduceToNat, List.getD_cons_zero, List.getD_cons_succ, bsliceV, buildV, afill, repl, chunk, rvs, AV.rv, RV.nrm, List.getElem?_nil, List.append_assoc, Nat.reduceMul, Nat.reducePow, Nat.zero_lt_succ, Nat.zero_add, Nat.add_zero, List.length_cons, List.length_nil, Nat.reduceLeDiff, Nat.le_refl, List.take_succ_cons, List.take_zero, List.drop_succ_cons, List.drop_zero, indexV, lenV, rowOf_mapD, rowOf_mapI, rowOf_mapA, List.length_map, Int.toNat_natCast, List.getElem?_cons_zero, List.getElem?_cons_succ, and_self, implies_true, if_true, if_false, HQ_zn, HQ_zr, HQ_wn, HQ_wr, AV.nz, AV.nzL, RV.nrm, SEbin, SEnil, nilK, srcV, dstV, appName, List.length_append, Nat.mul_one, take_map_len, take_map_app, List.getElem?_cons_zero, List.map_append, SEmkmap, SEmset, mgetV, kvOf, getM, setM, c60, r60, u60_1, u60_2, u60_3, u60_4, u60_5, u60_6, u60_7, ty9]) | (with_reducible refine And.intro ?_ ?_) | (refine call_ro e26 ( In_p _ _ _) rfl ?_ ?_ ?_ ?_) | (refine gcall_ro e26 ( In_p _ _ _) rfl ?_ ?_ ?_ ?_) | (refine dcall_ro e26 ( In_p _ _ _) rfl ?_ ?_ ?_ ?_) | (refine gdcall_ro rfl e26 ( In_p _ _ _) rfl ?_ ?_ ?_ ?_) | (refine call_ro e61 (plain_p s (szW (by assumption) hm)) rfl ?_ ?_ ?_ ?_) | (refine EndX.plain ?_) | (refine nil_split (fun hn => ?_) (fun hn => ?_)) | (refine gcall_no not_false ?_) | (refine gdcall_no not_false ?_) | (refine GuardS_of _ _ _ _ _ _ (fun hg => ?_) (fun hg => ?_)) | (refine GuardD_of _ _ _ _ (fun hg => ?_) (fun hg => ?_)) | (refine CondB_of _ _ _ _ _ _ _ ?_ (fun hg => ?_) (fun hg => ?_)))
  all_goals (try (first | ((first | unfold noN | unfold Fr.below | unfold Loc.below); simp [Fr.allN, AV.allN, AV.allNL, AO.allN]; done) | rfl | trivial | assumption | (intro row hrow; simp only [List.mem_map] at hrow; obtain ⟨x, _, rfl⟩ := hrow; rfl) | (refine Wk.keep hcl ?_ ?_ ?_; (focus (simp [Fr.get] <;> fail)); (focus (simp [sto] <;> fail)); (focus (simp <;> fail))) | (simp [allP, opd, Fr.get, Fr.below, Fr.allN, AV.allN, AV.allNL, Loc.below, AO.allN, noN, killO, killT, killD, mkNames, AO.kill, AV.kill, AV.mapN, AV.mapNL]; done) | (with_reducible exact ltD (by assumption)) | omega | (simp only [decide_eq_true_eq, decide_eq_false_iff_not] at *; omega)))
  all_goals (try (simp only [Bool.not_eq_true', Bool.not_eq_false'] at *))
  all_goals (try (simp only [wordF, *, cond_true, cond_false]; done))
theorem name_p (s : ByteArray) : Pure Try.prog 52 [.d (.v (.string s))] (I (wordF s 8)) := by
  refine pure_of follows Try.func52 c52_eq r52 (Nat.le_of_ble_eq_true rfl) fun B σ hcl hsz => ?_
  clear hsz
  repeat' (first | (simp -implicitDefEqProofs only [*, contN, contC, Nat.reduceBEq, Bool.or_false, Bool.or_true, Bool.false_or, Bool.true_or, Bool.not_true, Bool.not_false, w_skip, w_ret, w_exit, w_reg, w_dreg, w_seq, SK_n, SK_r, SK_x, w_keep, w_block, w_cond, w_nil, w_cons, w_consg, w_nnil, w_ncons, w_dnil, w_dcons, w_dconsg, HK_app, HD_app, HQ_n, HQ_r, HQ_x, HQ_bn, HQ_br, HQ_bx, HQ_en, HQ_er, HQ_ex, CondB_true, CondB_false, SO1, w_sdv, SDe_alloc, SDe_box, SDe_bslice, SDe_app, true_imp_iff, false_imp_iff, and_false, false_and, not_false_eq_true, not_true_eq_false, addN, mkNames, killT, killD, killO, List.foldl_nil, List.foldl_cons, List.append_nil, List.nil_append, List.cons_append, GuardS_true, GuardS_false, GuardD_true, GuardD_false, DK_true, DK_false, lt_self_add, le_self_add, decide_true, decide_false, Bool.false_eq_true, Bool.true_eq_false, Nat.add_left_cancel_iff, SE, SEalloc, SEbox, SEstore, w_bs, SEbl, SEfz, SEbs0, fzName, osOf, AV.fz1, w_app, w_mk, aev, opd, Fr.get, putO, Fr.norm, List.map_cons, List.map_nil, with1, with2, onInt, AV.lit, entry, ↓reduceIte, Nat.reduceEqDiff, Nat.reduceAdd, reduceCtorEq, true_and, and_true, Option.map_some, Option.map_none, Option.bind_some, Option.bind_none, cond_true, cond_false, binV, unV, fieldV, loadV, sto, cellsAV, newF, newL, Fr.map, Loc.kill, Loc.set, AO.kill, AV.kill, AV.mapN, AV.mapNL, List.filter_nil, List.filter_cons, allP, EndV, retV, resV, resL, frz, dropL, AV.pick, nilV, tupV, imp_self, ne_eq, Int.cast_ofNat_Int, Int.reduceLT, Int.reduceToNat, List.getD_cons_zero, List.getD_cons_succ, bsliceV, buildV, afill, repl, chunk, rvs, AV.rv, RV.nrm, List.getElem?_nil, List.append_assoc, Nat.reduceMul, Nat.reducePow, Nat.zero_lt_succ, Nat.zero_add, Nat.add_zero, List.length_cons, List.length_nil, Nat.reduceLeDiff, Nat.le_refl, List.take_succ_cons, List.take_zero, List.drop_succ_cons, List.drop_zero, indexV, lenV, rowOf_mapD, rowOf_mapI, rowOf_mapA, List.length_map, Int.toNat_natCast, List.getElem?_cons_zero, List.getElem?_cons_succ, and_self, implies_true, if_true, if_false, HQ_zn, HQ_zr, HQ_wn, HQ_wr, AV.nz, AV.nzL, RV.nrm, SEbin, SEnil, nilK, srcV, dstV, appName, List.length_append, Nat.mul_one, take_map_len, take_map_app, List.getElem?_cons_zero, List.map_append, SEmkmap, SEmset, mgetV, kvOf, getM, setM, c52, r52, v52_1, v52_2, u52_3, u52_4, u52_5, u52_6, u52_7, u52_8, u52_9, ty9, ty3]) | (with_reducible refine And.intro ?_ ?_) | (refine call_ro e62 (letters_p s (by have := of_decide_eq_false (by assumption : decide ((s.size : Int) > 8) = false); omega)) rfl ?_ ?_ ?_ ?_) | (refine EndX.plain ?_) | (refine nil_split (fun hn => ?_) (fun hn => ?_)) | (refine gcall_no not_false ?_) | (refine gdcall_no not_false ?_) | (refine GuardS_of _ _ _ _ _ _ (fun hg => ?_) (fun hg => ?_)) | (refine GuardD_of _ _ _ _ (fun hg => ?_) (fun hg => ?_)) | (refine CondB_of _ _ _ _ _ _ _ ?_ (fun hg => ?_) (fun hg => ?_)))
  all_goals (try (first | ((first | unfold noN | unfold Fr.below | unfold Loc.below); simp [Fr.allN, AV.allN, AV.allNL, AO.allN]; done) | rfl | trivial | assumption | (intro row hrow; simp only [List.mem_map] at hrow; obtain ⟨x, _, rfl⟩ := hrow; rfl) | (refine Wk.keep hcl ?_ ?_ ?_; (focus (simp [Fr.get] <;> fail)); (focus (simp [sto] <;> fail)); (focus (simp <;> fail))) | (simp [allP, opd, Fr.get, Fr.below, Fr.allN, AV.allN, AV.allNL, Loc.below, AO.allN, noN, killO, killT, killD, mkNames, AO.kill, AV.kill, AV.mapN, AV.mapNL]; done) | (with_reducible exact ltD (by assumption)) | omega | (simp only [decide_eq_true_eq, decide_eq_false_iff_not] at *; omega)))
  all_goals (try (simp only [Bool.not_eq_true', Bool.not_eq_false'] at *))
  all_goals first
    | (rw [wordF, inR_no1 (by assumption)] <;> rfl)
    | (rw [wordF, inR_no2 (by assumption)] <;> rfl)
    | (simp only [wordF, inR_yes (by assumption : decide ((s.size : Int) < 1) = false) (by assumption : decide ((s.size : Int) > 8) = false), *, cond_true, cond_false]; done)
theorem key_p (s : ByteArray) : Pure Try.prog 56 [.d (.v (.string s))] (I (wordF s 16)) := by
  refine pure_of follows Try.func56 c56_eq r56 (Nat.le_of_ble_eq_true rfl) fun B σ hcl hsz => ?_
  clear hsz
  repeat' (first | (simp -implicitDefEqProofs only [*, contN, contC, Nat.reduceBEq, Bool.or_false, Bool.or_true, Bool.false_or, Bool.true_or, Bool.not_true, Bool.not_false, w_skip, w_ret, w_exit, w_reg, w_dreg, w_seq, SK_n, SK_r, SK_x, w_keep, w_block, w_cond, w_nil, w_cons, w_consg, w_nnil, w_ncons, w_dnil, w_dcons, w_dconsg, HK_app, HD_app, HQ_n, HQ_r, HQ_x, HQ_bn, HQ_br, HQ_bx, HQ_en, HQ_er, HQ_ex, CondB_true, CondB_false, SO1, w_sdv, SDe_alloc, SDe_box, SDe_bslice, SDe_app, true_imp_iff, false_imp_iff, and_false, false_and, not_false_eq_true, not_true_eq_false, addN, mkNames, killT, killD, killO, List.foldl_nil, List.foldl_cons, List.append_nil, List.nil_append, List.cons_append, GuardS_true, GuardS_false, GuardD_true, GuardD_false, DK_true, DK_false, lt_self_add, le_self_add, decide_true, decide_false, Bool.false_eq_true, Bool.true_eq_false, Nat.add_left_cancel_iff, SE, SEalloc, SEbox, SEstore, w_bs, SEbl, SEfz, SEbs0, fzName, osOf, AV.fz1, w_app, w_mk, aev, opd, Fr.get, putO, Fr.norm, List.map_cons, List.map_nil, with1, with2, onInt, AV.lit, entry, ↓reduceIte, Nat.reduceEqDiff, Nat.reduceAdd, reduceCtorEq, true_and, and_true, Option.map_some, Option.map_none, Option.bind_some, Option.bind_none, cond_true, cond_false, binV, unV, fieldV, loadV, sto, cellsAV, newF, newL, Fr.map, Loc.kill, Loc.set, AO.kill, AV.kill, AV.mapN, AV.mapNL, List.filter_nil, List.filter_cons, allP, EndV, retV, resV, resL, frz, dropL, AV.pick, nilV, tupV, imp_self, ne_eq, Int.cast_ofNat_Int, Int.reduceLT, Int.reduceToNat, List.getD_cons_zero, List.getD_cons_succ, bsliceV, buildV, afill, repl, chunk, rvs, AV.rv, RV.nrm, List.getElem?_nil, List.append_assoc, Nat.reduceMul, Nat.reducePow, Nat.zero_lt_succ, Nat.zero_add, Nat.add_zero, List.length_cons, List.length_nil, Nat.reduceLeDiff, Nat.le_refl, List.take_succ_cons, List.take_zero, List.drop_succ_cons, List.drop_zero, indexV, lenV, rowOf_mapD, rowOf_mapI, rowOf_mapA, List.length_map, Int.toNat_natCast, List.getElem?_cons_zero, List.getElem?_cons_succ, and_self, implies_true, if_true, if_false, HQ_zn, HQ_zr, HQ_wn, HQ_wr, AV.nz, AV.nzL, RV.nrm, SEbin, SEnil, nilK, srcV, dstV, appName, List.length_append, Nat.mul_one, take_map_len, take_map_app, List.getElem?_cons_zero, List.map_append, SEmkmap, SEmset, mgetV, kvOf, getM, setM, c56, r56, v56_1, v56_2, u56_3, u56_4, u56_5, u56_6, u56_7, u56_8, u56_9, ty9, ty3]) | (with_reducible refine And.intro ?_ ?_) | (refine call_ro e62 (letters_p s (by have := of_decide_eq_false (by assumption : decide ((s.size : Int) > 16) = false); omega)) rfl ?_ ?_ ?_ ?_) | (refine EndX.plain ?_) | (refine nil_split (fun hn => ?_) (fun hn => ?_)) | (refine gcall_no not_false ?_) | (refine gdcall_no not_false ?_) | (refine GuardS_of _ _ _ _ _ _ (fun hg => ?_) (fun hg => ?_)) | (refine GuardD_of _ _ _ _ (fun hg => ?_) (fun hg => ?_)) | (refine CondB_of _ _ _ _ _ _ _ ?_ (fun hg => ?_) (fun hg => ?_)))
  all_goals (try (first | ((first | unfold noN | unfold Fr.below | unfold Loc.below); simp [Fr.allN, AV.allN, AV.allNL, AO.allN]; done) | rfl | trivial | assumption | (intro row hrow; simp only [List.mem_map] at hrow; obtain ⟨x, _, rfl⟩ := hrow; rfl) | (refine Wk.keep hcl ?_ ?_ ?_; (focus (simp [Fr.get] <;> fail)); (focus (simp [sto] <;> fail)); (focus (simp <;> fail))) | (simp [allP, opd, Fr.get, Fr.below, Fr.allN, AV.allN, AV.allNL, Loc.below, AO.allN, noN, killO, killT, killD, mkNames, AO.kill, AV.kill, AV.mapN, AV.mapNL]; done) | (with_reducible exact ltD (by assumption)) | omega | (simp only [decide_eq_true_eq, decide_eq_false_iff_not] at *; omega)))
  all_goals (try (simp only [Bool.not_eq_true', Bool.not_eq_false'] at *))
  all_goals first
    | (rw [wordF, inR_no1 (by assumption)] <;> rfl)
    | (rw [wordF, inR_no2 (by assumption)] <;> rfl)
    | (simp only [wordF, inR_yes (by assumption : decide ((s.size : Int) < 1) = false) (by assumption : decide ((s.size : Int) > 16) = false), *, cond_true, cond_false]; done)
theorem nameR_p (s : ByteArray) : Pure Try.prog 43 [.d (.v (.string s))] (I (wordF s 8)) := by
  refine pure_of follows Try.func43 c43_eq r43 (Nat.le_of_ble_eq_true rfl) fun B σ hcl hsz => ?_
  clear hsz
  repeat' (first | (simp -implicitDefEqProofs only [*, contN, contC, Nat.reduceBEq, Bool.or_false, Bool.or_true, Bool.false_or, Bool.true_or, Bool.not_true, Bool.not_false, w_skip, w_ret, w_exit, w_reg, w_dreg, w_seq, SK_n, SK_r, SK_x, w_keep, w_block, w_cond, w_nil, w_cons, w_consg, w_nnil, w_ncons, w_dnil, w_dcons, w_dconsg, HK_app, HD_app, HQ_n, HQ_r, HQ_x, HQ_bn, HQ_br, HQ_bx, HQ_en, HQ_er, HQ_ex, CondB_true, CondB_false, SO1, w_sdv, SDe_alloc, SDe_box, SDe_bslice, SDe_app, true_imp_iff, false_imp_iff, and_false, false_and, not_false_eq_true, not_true_eq_false, addN, mkNames, killT, killD, killO, List.foldl_nil, List.foldl_cons, List.append_nil, List.nil_append, List.cons_append, GuardS_true, GuardS_false, GuardD_true, GuardD_false, DK_true, DK_false, lt_self_add, le_self_add, decide_true, decide_false, Bool.false_eq_true, Bool.true_eq_false, Nat.add_left_cancel_iff, SE, SEalloc, SEbox, SEstore, w_bs, SEbl, SEfz, SEbs0, fzName, osOf, AV.fz1, w_app, w_mk, aev, opd, Fr.get, putO, Fr.norm, List.map_cons, List.map_nil, with1, with2, onInt, AV.lit, entry, ↓reduceIte, Nat.reduceEqDiff, Nat.reduceAdd, reduceCtorEq, true_and, and_true, Option.map_some, Option.map_none, Option.bind_some, Option.bind_none, cond_true, cond_false, binV, unV, fieldV, loadV, sto, cellsAV, newF, newL, Fr.map, Loc.kill, Loc.set, AO.kill, AV.kill, AV.mapN, AV.mapNL, List.filter_nil, List.filter_cons, allP, EndV, retV, resV, resL, frz, dropL, AV.pick, nilV, tupV, imp_self, ne_eq, Int.cast_ofNat_Int, Int.reduceLT, Int.reduceToNat, List.getD_cons_zero, List.getD_cons_succ, bsliceV, buildV, afill, repl, chunk, rvs, AV.rv, RV.nrm, List.getElem?_nil, List.append_assoc, Nat.reduceMul, Nat.reducePow, Nat.zero_lt_succ, Nat.zero_add, Nat.add_zero, List.length_cons, List.length_nil, Nat.reduceLeDiff, Nat.le_refl, List.take_succ_cons, List.take_zero, List.drop_succ_cons, List.drop_zero, indexV, lenV, rowOf_mapD, rowOf_mapI, rowOf_mapA, List.length_map, Int.toNat_natCast, List.getElem?_cons_zero, List.getElem?_cons_succ, and_self, implies_true, if_true, if_false, HQ_zn, HQ_zr, HQ_wn, HQ_wr, AV.nz, AV.nzL, RV.nrm, SEbin, SEnil, nilK, srcV, dstV, appName, List.length_append, Nat.mul_one, take_map_len, take_map_app, List.getElem?_cons_zero, List.map_append, SEmkmap, SEmset, mgetV, kvOf, getM, setM, c43, r43, u43_1]) | (with_reducible refine And.intro ?_ ?_) | (refine call_ro e60 ( word_p s 8 (by decide)) rfl ?_ ?_ ?_ ?_) | (refine gcall_ro e60 ( word_p s 8 (by decide)) rfl ?_ ?_ ?_ ?_) | (refine dcall_ro e60 ( word_p s 8 (by decide)) rfl ?_ ?_ ?_ ?_) | (refine gdcall_ro rfl e60 ( word_p s 8 (by decide)) rfl ?_ ?_ ?_ ?_) | (refine EndX.plain ?_) | (refine nil_split (fun hn => ?_) (fun hn => ?_)) | (refine gcall_no not_false ?_) | (refine gdcall_no not_false ?_) | (refine GuardS_of _ _ _ _ _ _ (fun hg => ?_) (fun hg => ?_)) | (refine GuardD_of _ _ _ _ (fun hg => ?_) (fun hg => ?_)) | (refine CondB_of _ _ _ _ _ _ _ ?_ (fun hg => ?_) (fun hg => ?_)))
  all_goals (try (first | ((first | unfold noN | unfold Fr.below | unfold Loc.below); simp [Fr.allN, AV.allN, AV.allNL, AO.allN]; done) | rfl | trivial | assumption | (intro row hrow; simp only [List.mem_map] at hrow; obtain ⟨x, _, rfl⟩ := hrow; rfl) | (refine Wk.keep hcl ?_ ?_ ?_; (focus (simp [Fr.get] <;> fail)); (focus (simp [sto] <;> fail)); (focus (simp <;> fail))) | (simp [allP, opd, Fr.get, Fr.below, Fr.allN, AV.allN, AV.allNL, Loc.below, AO.allN, noN, killO, killT, killD, mkNames, AO.kill, AV.kill, AV.mapN, AV.mapNL]; done) | (with_reducible exact ltD (by assumption)) | omega | (simp only [decide_eq_true_eq, decide_eq_false_iff_not] at *; omega)))
theorem keyR_p (s : ByteArray) : Pure Try.prog 47 [.d (.v (.string s))] (I (wordF s 16)) := by
  refine pure_of follows Try.func47 c47_eq r47 (Nat.le_of_ble_eq_true rfl) fun B σ hcl hsz => ?_
  clear hsz
  repeat' (first | (simp -implicitDefEqProofs only [*, contN, contC, Nat.reduceBEq, Bool.or_false, Bool.or_true, Bool.false_or, Bool.true_or, Bool.not_true, Bool.not_false, w_skip, w_ret, w_exit, w_reg, w_dreg, w_seq, SK_n, SK_r, SK_x, w_keep, w_block, w_cond, w_nil, w_cons, w_consg, w_nnil, w_ncons, w_dnil, w_dcons, w_dconsg, HK_app, HD_app, HQ_n, HQ_r, HQ_x, HQ_bn, HQ_br, HQ_bx, HQ_en, HQ_er, HQ_ex, CondB_true, CondB_false, SO1, w_sdv, SDe_alloc, SDe_box, SDe_bslice, SDe_app, true_imp_iff, false_imp_iff, and_false, false_and, not_false_eq_true, not_true_eq_false, addN, mkNames, killT, killD, killO, List.foldl_nil, List.foldl_cons, List.append_nil, List.nil_append, List.cons_append, GuardS_true, GuardS_false, GuardD_true, GuardD_false, DK_true, DK_false, lt_self_add, le_self_add, decide_true, decide_false, Bool.false_eq_true, Bool.true_eq_false, Nat.add_left_cancel_iff, SE, SEalloc, SEbox, SEstore, w_bs, SEbl, SEfz, SEbs0, fzName, osOf, AV.fz1, w_app, w_mk, aev, opd, Fr.get, putO, Fr.norm, List.map_cons, List.map_nil, with1, with2, onInt, AV.lit, entry, ↓reduceIte, Nat.reduceEqDiff, Nat.reduceAdd, reduceCtorEq, true_and, and_true, Option.map_some, Option.map_none, Option.bind_some, Option.bind_none, cond_true, cond_false, binV, unV, fieldV, loadV, sto, cellsAV, newF, newL, Fr.map, Loc.kill, Loc.set, AO.kill, AV.kill, AV.mapN, AV.mapNL, List.filter_nil, List.filter_cons, allP, EndV, retV, resV, resL, frz, dropL, AV.pick, nilV, tupV, imp_self, ne_eq, Int.cast_ofNat_Int, Int.reduceLT, Int.reduceToNat, List.getD_cons_zero, List.getD_cons_succ, bsliceV, buildV, afill, repl, chunk, rvs, AV.rv, RV.nrm, List.getElem?_nil, List.append_assoc, Nat.reduceMul, Nat.reducePow, Nat.zero_lt_succ, Nat.zero_add, Nat.add_zero, List.length_cons, List.length_nil, Nat.reduceLeDiff, Nat.le_refl, List.take_succ_cons, List.take_zero, List.drop_succ_cons, List.drop_zero, indexV, lenV, rowOf_mapD, rowOf_mapI, rowOf_mapA, List.length_map, Int.toNat_natCast, List.getElem?_cons_zero, List.getElem?_cons_succ, and_self, implies_true, if_true, if_false, HQ_zn, HQ_zr, HQ_wn, HQ_wr, AV.nz, AV.nzL, RV.nrm, SEbin, SEnil, nilK, srcV, dstV, appName, List.length_append, Nat.mul_one, take_map_len, take_map_app, List.getElem?_cons_zero, List.map_append, SEmkmap, SEmset, mgetV, kvOf, getM, setM, c47, r47, u47_1]) | (with_reducible refine And.intro ?_ ?_) | (refine call_ro e60 ( word_p s 16 (by decide)) rfl ?_ ?_ ?_ ?_) | (refine gcall_ro e60 ( word_p s 16 (by decide)) rfl ?_ ?_ ?_ ?_) | (refine dcall_ro e60 ( word_p s 16 (by decide)) rfl ?_ ?_ ?_ ?_) | (refine gdcall_ro rfl e60 ( word_p s 16 (by decide)) rfl ?_ ?_ ?_ ?_) | (refine EndX.plain ?_) | (refine nil_split (fun hn => ?_) (fun hn => ?_)) | (refine gcall_no not_false ?_) | (refine gdcall_no not_false ?_) | (refine GuardS_of _ _ _ _ _ _ (fun hg => ?_) (fun hg => ?_)) | (refine GuardD_of _ _ _ _ (fun hg => ?_) (fun hg => ?_)) | (refine CondB_of _ _ _ _ _ _ _ ?_ (fun hg => ?_) (fun hg => ?_)))
  all_goals (try (first | ((first | unfold noN | unfold Fr.below | unfold Loc.below); simp [Fr.allN, AV.allN, AV.allNL, AO.allN]; done) | rfl | trivial | assumption | (intro row hrow; simp only [List.mem_map] at hrow; obtain ⟨x, _, rfl⟩ := hrow; rfl) | (refine Wk.keep hcl ?_ ?_ ?_; (focus (simp [Fr.get] <;> fail)); (focus (simp [sto] <;> fail)); (focus (simp <;> fail))) | (simp [allP, opd, Fr.get, Fr.below, Fr.allN, AV.allN, AV.allNL, Loc.below, AO.allN, noN, killO, killT, killD, mkNames, AO.kill, AV.kill, AV.mapN, AV.mapNL]; done) | (with_reducible exact ltD (by assumption)) | omega | (simp only [decide_eq_true_eq, decide_eq_false_iff_not] at *; omega)))
theorem rule_p (x : ByteArray) (f d : Int) : Pure Try.prog 53 [.agg [.d (.v (.string x)), I f, I d]] (I (ruleF x f d)) := by
  refine pure_of follows Try.func53 c53_eq r53 (Nat.le_of_ble_eq_true rfl) fun B σ hcl hsz => ?_
  clear hsz
  repeat' (first | (simp -implicitDefEqProofs only [*, contN, contC, Nat.reduceBEq, Bool.or_false, Bool.or_true, Bool.false_or, Bool.true_or, Bool.not_true, Bool.not_false, w_skip, w_ret, w_exit, w_reg, w_dreg, w_seq, SK_n, SK_r, SK_x, w_keep, w_block, w_cond, w_nil, w_cons, w_consg, w_nnil, w_ncons, w_dnil, w_dcons, w_dconsg, HK_app, HD_app, HQ_n, HQ_r, HQ_x, HQ_bn, HQ_br, HQ_bx, HQ_en, HQ_er, HQ_ex, CondB_true, CondB_false, SO1, w_sdv, SDe_alloc, SDe_box, SDe_bslice, SDe_app, true_imp_iff, false_imp_iff, and_false, false_and, not_false_eq_true, not_true_eq_false, addN, mkNames, killT, killD, killO, List.foldl_nil, List.foldl_cons, List.append_nil, List.nil_append, List.cons_append, GuardS_true, GuardS_false, GuardD_true, GuardD_false, DK_true, DK_false, lt_self_add, le_self_add, decide_true, decide_false, Bool.false_eq_true, Bool.true_eq_false, Nat.add_left_cancel_iff, SE, SEalloc, SEbox, SEstore, w_bs, SEbl, SEfz, SEbs0, fzName, osOf, AV.fz1, w_app, w_mk, aev, opd, Fr.get, putO, Fr.norm, List.map_cons, List.map_nil, with1, with2, onInt, AV.lit, entry, ↓reduceIte, Nat.reduceEqDiff, Nat.reduceAdd, reduceCtorEq, true_and, and_true, Option.map_some, Option.map_none, Option.bind_some, Option.bind_none, cond_true, cond_false, binV, unV, fieldV, loadV, sto, cellsAV, newF, newL, Fr.map, Loc.kill, Loc.set, AO.kill, AV.kill, AV.mapN, AV.mapNL, List.filter_nil, List.filter_cons, allP, EndV, retV, resV, resL, frz, dropL, AV.pick, nilV, tupV, imp_self, ne_eq, Int.cast_ofNat_Int, Int.reduceLT, Int.reduceToNat, List.getD_cons_zero, List.getD_cons_succ, bsliceV, buildV, afill, repl, chunk, rvs, AV.rv, RV.nrm, List.getElem?_nil, List.append_assoc, Nat.reduceMul, Nat.reducePow, Nat.zero_lt_succ, Nat.zero_add, Nat.add_zero, List.length_cons, List.length_nil, Nat.reduceLeDiff, Nat.le_refl, List.take_succ_cons, List.take_zero, List.drop_succ_cons, List.drop_zero, indexV, lenV, rowOf_mapD, rowOf_mapI, rowOf_mapA, List.length_map, Int.toNat_natCast, List.getElem?_cons_zero, List.getElem?_cons_succ, and_self, implies_true, if_true, if_false, HQ_zn, HQ_zr, HQ_wn, HQ_wr, AV.nz, AV.nzL, RV.nrm, SEbin, SEnil, nilK, srcV, dstV, appName, List.length_append, Nat.mul_one, take_map_len, take_map_app, List.getElem?_cons_zero, List.map_append, SEmkmap, SEmset, mgetV, kvOf, getM, setM, c53, r53, u53_1, u53_2, v53_3, v53_4, v53_5, v53_6, u53_7, u53_8, u53_9, u53_10, u53_11, u53_12, u53_13, u53_14, ty76, ty9, ty3]) | (with_reducible refine And.intro ?_ ?_) | (refine call_ro e62 (letters_p x (by have := of_decide_eq_false (by assumption : decide ((x.size : Int) > 16) = false); omega)) rfl ?_ ?_ ?_ ?_) | (refine EndX.plain ?_) | (refine nil_split (fun hn => ?_) (fun hn => ?_)) | (refine gcall_no not_false ?_) | (refine gdcall_no not_false ?_) | (refine GuardS_of _ _ _ _ _ _ (fun hg => ?_) (fun hg => ?_)) | (refine GuardD_of _ _ _ _ (fun hg => ?_) (fun hg => ?_)) | (refine CondB_of _ _ _ _ _ _ _ ?_ (fun hg => ?_) (fun hg => ?_)))
  all_goals (try (first | ((first | unfold noN | unfold Fr.below | unfold Loc.below); simp [Fr.allN, AV.allN, AV.allNL, AO.allN]; done) | rfl | trivial | assumption | (intro row hrow; simp only [List.mem_map] at hrow; obtain ⟨x, _, rfl⟩ := hrow; rfl) | (refine Wk.keep hcl ?_ ?_ ?_; (focus (simp [Fr.get] <;> fail)); (focus (simp [sto] <;> fail)); (focus (simp <;> fail))) | (simp [allP, opd, Fr.get, Fr.below, Fr.allN, AV.allN, AV.allNL, Loc.below, AO.allN, noN, killO, killT, killD, mkNames, AO.kill, AV.kill, AV.mapN, AV.mapNL]; done) | (with_reducible exact ltD (by assumption)) | omega | (simp only [decide_eq_true_eq, decide_eq_false_iff_not] at *; omega)))
  all_goals (try (simp only [Bool.not_eq_true', Bool.not_eq_false'] at *))
  all_goals (simp only [ruleF, *, cond_true, cond_false])
  all_goals first
    | done
    | (rw [inR_no1 (by assumption)] <;> rfl)
    | (rw [inR_no2 (by assumption)] <;> rfl)
    | (rw [inR_yes (by assumption : decide (f < -1) = false) (by assumption), inR_no1 (by assumption)] <;> rfl)
    | (rw [inR_yes (by assumption : decide (f < -1) = false) (by assumption), inR_no2 (by assumption)] <;> rfl)
    | (rw [inR_yes (by assumption : decide (f < -1) = false) (by assumption), inR_yes (by assumption : decide (d < -1) = false) (by assumption)] <;> rfl)
theorem ruleR_p (x : ByteArray) (f d : Int) : Pure Try.prog 44 [.agg [.d (.v (.string x)), I f, I d]] (I (ruleF x f d)) := by
  refine pure_of follows Try.func44 c44_eq r44 (Nat.le_of_ble_eq_true rfl) fun B σ hcl hsz => ?_
  clear hsz
  repeat' (first | (simp -implicitDefEqProofs only [*, contN, contC, Nat.reduceBEq, Bool.or_false, Bool.or_true, Bool.false_or, Bool.true_or, Bool.not_true, Bool.not_false, w_skip, w_ret, w_exit, w_reg, w_dreg, w_seq, SK_n, SK_r, SK_x, w_keep, w_block, w_cond, w_nil, w_cons, w_consg, w_nnil, w_ncons, w_dnil, w_dcons, w_dconsg, HK_app, HD_app, HQ_n, HQ_r, HQ_x, HQ_bn, HQ_br, HQ_bx, HQ_en, HQ_er, HQ_ex, CondB_true, CondB_false, SO1, w_sdv, SDe_alloc, SDe_box, SDe_bslice, SDe_app, true_imp_iff, false_imp_iff, and_false, false_and, not_false_eq_true, not_true_eq_false, addN, mkNames, killT, killD, killO, List.foldl_nil, List.foldl_cons, List.append_nil, List.nil_append, List.cons_append, GuardS_true, GuardS_false, GuardD_true, GuardD_false, DK_true, DK_false, lt_self_add, le_self_add, decide_true, decide_false, Bool.false_eq_true, Bool.true_eq_false, Nat.add_left_cancel_iff, SE, SEalloc, SEbox, SEstore, w_bs, SEbl, SEfz, SEbs0, fzName, osOf, AV.fz1, w_app, w_mk, aev, opd, Fr.get, putO, Fr.norm, List.map_cons, List.map_nil, with1, with2, onInt, AV.lit, entry, ↓reduceIte, Nat.reduceEqDiff, Nat.reduceAdd, reduceCtorEq, true_and, and_true, Option.map_some, Option.map_none, Option.bind_some, Option.bind_none, cond_true, cond_false, binV, unV, fieldV, loadV, sto, cellsAV, newF, newL, Fr.map, Loc.kill, Loc.set, AO.kill, AV.kill, AV.mapN, AV.mapNL, List.filter_nil, List.filter_cons, allP, EndV, retV, resV, resL, frz, dropL, AV.pick, nilV, tupV, imp_self, ne_eq, Int.cast_ofNat_Int, Int.reduceLT, Int.reduceToNat, List.getD_cons_zero, List.getD_cons_succ, bsliceV, buildV, afill, repl, chunk, rvs, AV.rv, RV.nrm, List.getElem?_nil, List.append_assoc, Nat.reduceMul, Nat.reducePow, Nat.zero_lt_succ, Nat.zero_add, Nat.add_zero, List.length_cons, List.length_nil, Nat.reduceLeDiff, Nat.le_refl, List.take_succ_cons, List.take_zero, List.drop_succ_cons, List.drop_zero, indexV, lenV, rowOf_mapD, rowOf_mapI, rowOf_mapA, List.length_map, Int.toNat_natCast, List.getElem?_cons_zero, List.getElem?_cons_succ, and_self, implies_true, if_true, if_false, HQ_zn, HQ_zr, HQ_wn, HQ_wr, AV.nz, AV.nzL, RV.nrm, SEbin, SEnil, nilK, srcV, dstV, appName, List.length_append, Nat.mul_one, take_map_len, take_map_app, List.getElem?_cons_zero, List.map_append, SEmkmap, SEmset, mgetV, kvOf, getM, setM, c44, r44, u44_1, u44_2, u44_3, u44_4, v44_5, v44_6, u44_7, u44_8, u44_9, u44_10, u44_11, u44_12, ty76, ty9, ty3]) | (with_reducible refine And.intro ?_ ?_) | (refine call_ro e26 ( In_p f _ _) rfl ?_ ?_ ?_ ?_) | (refine gcall_ro e26 ( In_p f _ _) rfl ?_ ?_ ?_ ?_) | (refine dcall_ro e26 ( In_p f _ _) rfl ?_ ?_ ?_ ?_) | (refine gdcall_ro rfl e26 ( In_p f _ _) rfl ?_ ?_ ?_ ?_) | (refine call_ro e26 ( In_p d _ _) rfl ?_ ?_ ?_ ?_) | (refine gcall_ro e26 ( In_p d _ _) rfl ?_ ?_ ?_ ?_) | (refine dcall_ro e26 ( In_p d _ _) rfl ?_ ?_ ?_ ?_) | (refine gdcall_ro rfl e26 ( In_p d _ _) rfl ?_ ?_ ?_ ?_) | (refine call_ro e61 (plain_p x (by have := of_decide_eq_false (by assumption : decide ((x.size : Int) > 16) = false); omega)) rfl ?_ ?_ ?_ ?_) | (refine EndX.plain ?_) | (refine nil_split (fun hn => ?_) (fun hn => ?_)) | (refine gcall_no not_false ?_) | (refine gdcall_no not_false ?_) | (refine GuardS_of _ _ _ _ _ _ (fun hg => ?_) (fun hg => ?_)) | (refine GuardD_of _ _ _ _ (fun hg => ?_) (fun hg => ?_)) | (refine CondB_of _ _ _ _ _ _ _ ?_ (fun hg => ?_) (fun hg => ?_)))
  all_goals (try (first | ((first | unfold noN | unfold Fr.below | unfold Loc.below); simp [Fr.allN, AV.allN, AV.allNL, AO.allN]; done) | rfl | trivial | assumption | (intro row hrow; simp only [List.mem_map] at hrow; obtain ⟨x, _, rfl⟩ := hrow; rfl) | (refine Wk.keep hcl ?_ ?_ ?_; (focus (simp [Fr.get] <;> fail)); (focus (simp [sto] <;> fail)); (focus (simp <;> fail))) | (simp [allP, opd, Fr.get, Fr.below, Fr.allN, AV.allN, AV.allNL, Loc.below, AO.allN, noN, killO, killT, killD, mkNames, AO.kill, AV.kill, AV.mapN, AV.mapNL]; done) | (with_reducible exact ltD (by assumption)) | omega | (simp only [decide_eq_true_eq, decide_eq_false_iff_not] at *; omega)))
  all_goals (try (simp only [Bool.not_eq_true', Bool.not_eq_false'] at *))
  all_goals (try (simp only [ruleF, *, cond_true, cond_false, Bool.false_or, Bool.true_or, Bool.or_true, Bool.or_false, Bool.and_true, Bool.true_and, Bool.false_and, Bool.and_false, Bool.not_true, Bool.not_false, cond_true, cond_false]; done))
end Go.Proofs.Yteaojhieghakfaa
