/- Names, keys and rules that may be. -/
import Derived.Test.YtobbkfldjemgkaaStD
import Derived.Test.YtobbkfldjemgkaaInB
import Derived.Test.YtobbkfldjemgkaaTypes
namespace Go.Proofs.Ytobbkfldjemgkaa
open Go.RowKit
set_option maxRecDepth 100000
def o49_1 : List SO := ((SO.mk (some 17) (.bin .gtr 5 (.tmp 16) (.const (Value.int .u8 126))) (some (13 , false))) :: (SO.mk (some 18) (.pick (.tmp 13) (.const (Value.bool true)) (.tmp 17)) none) :: [])
theorem v49_1 : type_of% (@swl _ _ o49_1.eq_1) := @swl _ _ o49_1.eq_1
def o49_2 : List SO := ((SO.mk (some 13) (.move (.tmp 12)) none) :: (SO.mk (some 14) (.move (.tmp 0)) (some (13 , false))) :: (SO.mk (some 15) (.move (.tmp 3)) (some (13 , false))) :: (SO.mk (some 16) (.idx 9 (.tmp 14) (.tmp 15)) (some (13 , false))) :: o49_1)
theorem v49_2 : type_of% (@swl _ _ o49_2.eq_1) := @swl _ _ o49_2.eq_1
def c49_3 : SC := (.seq (.reg [SO.mk (some 2) (.move (.const (Value.bool false))) none]) (.keep [2] .ret))
theorem u49_3 : type_of% (@swc _ _ c49_3.eq_1) := @swc _ _ c49_3.eq_1
def c49_4 : SC := (.cond (.tmp 18) c49_3 .skip)
theorem u49_4 : type_of% (@swc _ _ c49_4.eq_1) := @swc _ _ c49_4.eq_1
def c49_5 : SC := (.seq (.reg ((SO.mk (some 9) (.move (.tmp 0)) none) :: (SO.mk (some 10) (.move (.tmp 3)) none) :: (SO.mk (some 11) (.idx 9 (.tmp 9) (.tmp 10)) none) :: (SO.mk (some 12) (.bin .lss 5 (.tmp 11) (.const (Value.int .u8 33))) none) :: o49_2)) (.keep [18, 6, 5, 0] c49_4))
theorem u49_5 : type_of% (@swc _ _ c49_5.eq_1) := @swc _ _ c49_5.eq_1
def c49_6 : SC := (.reg [SO.mk (some 19) (.bin .add 3 (.tmp 6) (.const (Value.int .i64 1))) none, SO.mk (some 6) (.move (.tmp 19)) none])
theorem u49_6 : type_of% (@swc _ _ c49_6.eq_1) := @swc _ _ c49_6.eq_1
def c49_7 : SC := (.seq (.block 1 (.seq (.reg [SO.mk (some 8) (.move (.tmp 6)) none, SO.mk (some 3) (.move (.tmp 8)) none]) (.keep [3, 6, 5, 0] c49_5))) (.keep [6, 5, 0] c49_6))
theorem u49_7 : type_of% (@swc _ _ c49_7.eq_1) := @swc _ _ c49_7.eq_1
def c49_8 : SC := (.seq (.cond (.tmp 7) .skip (.exit 0)) (.keep [6, 5, 0] c49_7))
theorem u49_8 : type_of% (@swc _ _ c49_8.eq_1) := @swc _ _ c49_8.eq_1
def c49_9 : SC := (.seq (.reg [SO.mk (some 7) (.bin .lss 3 (.tmp 6) (.tmp 5)) none]) (.keep [7, 0, 5, 6] c49_8))
theorem u49_9 : type_of% (@swc _ _ c49_9.eq_1) := @swc _ _ c49_9.eq_1
def c49_10 : SC := (.block 0 (.loop (.keep [0, 5, 6] c49_9)))
theorem u49_10 : type_of% (@swc _ _ c49_10.eq_1) := @swc _ _ c49_10.eq_1
def c49_11 : SC := (.seq (.reg [SO.mk (some 2) (.move (.const (Value.bool true))) none]) (.keep [2] .ret))
theorem u49_11 : type_of% (@swc _ _ c49_11.eq_1) := @swc _ _ c49_11.eq_1
def c49_12 : SC := (.seq (.seq (.reg [SO.mk (some 4) (.move (.tmp 0)) none, SO.mk (some 5) (.len 9 (.tmp 4)) none, SO.mk (some 6) (.move (.const (Value.int .i64 0))) none]) (.keep [0, 5, 6] c49_10)) (.keep [] c49_11))
theorem u49_12 : type_of% (@swc _ _ c49_12.eq_1) := @swc _ _ c49_12.eq_1
def c49 : SC := (.seq (.reg [SO.mk (some 2) (.move (.const (Value.bool false))) none]) (.keep [0] c49_12))
theorem c49_eq : annC Try.f49 = some c49 := by kernel_rfl
theorem r49 : Try.f49.results.toList = [.tmp 2] := by kernel_rfl
theorem e49 : enters Try.prog 49 = true := by kernel_rfl
def c48_1 : SC := (.cond (.tmp 7) .skip (.exit 0))
theorem u48_1 : type_of% (@swc _ _ c48_1.eq_1) := @swc _ _ c48_1.eq_1
def o48_2 : List SO := ((SO.mk (some 14) (.call 17 [(.tmp 13), (.const (Value.int .i64 33)), (.const (Value.int .i64 126))]) none) :: (SO.mk (some 15) (.un .not (.tmp 14)) none) :: [])
theorem v48_2 : type_of% (@swl _ _ o48_2.eq_1) := @swl _ _ o48_2.eq_1
def c48_3 : SC := (.seq (.reg [SO.mk (some 2) (.move (.const (Value.bool false))) none]) (.keep [2] .ret))
theorem u48_3 : type_of% (@swc _ _ c48_3.eq_1) := @swc _ _ c48_3.eq_1
def c48_4 : SC := (.cond (.tmp 15) c48_3 .skip)
theorem u48_4 : type_of% (@swc _ _ c48_4.eq_1) := @swc _ _ c48_4.eq_1
def c48_5 : SC := (.reg [SO.mk (some 8) (.move (.tmp 3)) none, SO.mk (some 9) (.bin .add 3 (.tmp 8) (.const (Value.int .i64 1))) none, SO.mk (some 3) (.move (.tmp 9)) none])
theorem u48_5 : type_of% (@swc _ _ c48_5.eq_1) := @swc _ _ c48_5.eq_1
def c48_6 : SC := (.seq (.block 1 (.seq (.reg ((SO.mk (some 10) (.move (.tmp 0)) none) :: (SO.mk (some 11) (.move (.tmp 3)) none) :: (SO.mk (some 12) (.idx 9 (.tmp 10) (.tmp 11)) none) :: (SO.mk (some 13) (.conv 5 3 (.tmp 12)) none) :: o48_2)) (.keep [15, 3, 0] c48_4))) (.keep [3, 0] c48_5))
theorem u48_6 : type_of% (@swc _ _ c48_6.eq_1) := @swc _ _ c48_6.eq_1
def c48_7 : SC := (.seq (.seq (.reg [SO.mk (some 4) (.move (.tmp 3)) none, SO.mk (some 5) (.move (.tmp 0)) none, SO.mk (some 6) (.len 9 (.tmp 5)) none, SO.mk (some 7) (.bin .lss 3 (.tmp 4) (.tmp 6)) none]) (.keep [7, 0, 3] c48_1)) (.keep [3, 0] c48_6))
theorem u48_7 : type_of% (@swc _ _ c48_7.eq_1) := @swc _ _ c48_7.eq_1
def c48_8 : SC := (.block 0 (.loop (.keep [0, 3] c48_7)))
theorem u48_8 : type_of% (@swc _ _ c48_8.eq_1) := @swc _ _ c48_8.eq_1
def c48_9 : SC := (.seq (.reg [SO.mk (some 2) (.move (.const (Value.bool true))) none]) (.keep [2] .ret))
theorem u48_9 : type_of% (@swc _ _ c48_9.eq_1) := @swc _ _ c48_9.eq_1
def c48_10 : SC := (.seq (.seq (.reg [SO.mk (some 3) (.move (.const (Value.int .i64 0))) none]) (.keep [0, 3] c48_8)) (.keep [] c48_9))
theorem u48_10 : type_of% (@swc _ _ c48_10.eq_1) := @swc _ _ c48_10.eq_1
def c48 : SC := (.seq (.reg [SO.mk (some 2) (.move (.const (Value.bool false))) none]) (.keep [0] c48_10))
theorem c48_eq : annC Try.f48 = some c48 := by kernel_rfl
theorem r48 : Try.f48.results.toList = [.tmp 2] := by kernel_rfl
theorem e48 : enters Try.prog 48 = true := by kernel_rfl
def c47_1 : SC := (.seq (.reg [SO.mk (some 4) (.move (.const (Value.int .i64 1))) none]) (.keep [4] .ret))
theorem u47_1 : type_of% (@swc _ _ c47_1.eq_1) := @swc _ _ c47_1.eq_1
def c47_2 : SC := (.cond (.tmp 9) c47_1 .skip)
theorem u47_2 : type_of% (@swc _ _ c47_2.eq_1) := @swc _ _ c47_2.eq_1
def c47_3 : SC := (.seq (.reg [SO.mk (some 4) (.move (.const (Value.int .i64 4))) none]) (.keep [4] .ret))
theorem u47_3 : type_of% (@swc _ _ c47_3.eq_1) := @swc _ _ c47_3.eq_1
def c47_4 : SC := (.cond (.tmp 12) c47_3 .skip)
theorem u47_4 : type_of% (@swc _ _ c47_4.eq_1) := @swc _ _ c47_4.eq_1
def c47_5 : SC := (.seq (.reg [SO.mk (some 4) (.move (.const (Value.int .i64 0))) none]) (.keep [4] .ret))
theorem u47_5 : type_of% (@swc _ _ c47_5.eq_1) := @swc _ _ c47_5.eq_1
def c47_6 : SC := (.seq (.seq (.reg [SO.mk (some 10) (.move (.tmp 0)) none, SO.mk (some 11) (.call 48 [(.tmp 10)]) none, SO.mk (some 12) (.un .not (.tmp 11)) none]) (.keep [12] c47_4)) (.keep [] c47_5))
theorem u47_6 : type_of% (@swc _ _ c47_6.eq_1) := @swc _ _ c47_6.eq_1
def c47_7 : SC := (.seq (.seq (.reg [SO.mk (some 5) (.move (.tmp 0)) none, SO.mk (some 6) (.len 9 (.tmp 5)) none, SO.mk (some 7) (.move (.tmp 1)) none, SO.mk (some 8) (.call 17 [(.tmp 6), (.const (Value.int .i64 1)), (.tmp 7)]) none, SO.mk (some 9) (.un .not (.tmp 8)) none]) (.keep [9, 0] c47_2)) (.keep [0] c47_6))
theorem u47_7 : type_of% (@swc _ _ c47_7.eq_1) := @swc _ _ c47_7.eq_1
def c47 : SC := (.seq (.reg [SO.mk (some 4) (.move (.const (Value.int .i64 0))) none]) (.keep [1, 0] c47_7))
theorem c47_eq : annC Try.f47 = some c47 := by kernel_rfl
theorem r47 : Try.f47.results.toList = [.tmp 4] := by kernel_rfl
theorem e47 : enters Try.prog 47 = true := by kernel_rfl
def o38_1 : List SO := ((SO.mk (some 3) (.move (.tmp 11)) none) :: [])
theorem v38_1 : type_of% (@swl _ _ o38_1.eq_1) := @swl _ _ o38_1.eq_1
def o38_2 : List SO := ((SO.mk (some 8) (.move (.tmp 0)) (some (7 , false))) :: (SO.mk (some 9) (.len 9 (.tmp 8)) (some (7 , false))) :: (SO.mk (some 10) (.bin .gtr 3 (.tmp 9) (.const (Value.int .i64 8))) (some (7 , false))) :: (SO.mk (some 11) (.pick (.tmp 7) (.const (Value.bool true)) (.tmp 10)) none) :: o38_1)
theorem v38_2 : type_of% (@swl _ _ o38_2.eq_1) := @swl _ _ o38_2.eq_1
def c38_3 : SC := (.seq (.reg [SO.mk (some 2) (.move (.const (Value.int .i64 1))) none]) (.keep [2] .ret))
theorem u38_3 : type_of% (@swc _ _ c38_3.eq_1) := @swc _ _ c38_3.eq_1
def c38_4 : SC := (.seq (.reg [SO.mk (some 2) (.move (.const (Value.int .i64 4))) none]) (.keep [2] .ret))
theorem u38_4 : type_of% (@swc _ _ c38_4.eq_1) := @swc _ _ c38_4.eq_1
def c38_5 : SC := (.cond (.tmp 12) c38_4 .skip)
theorem u38_5 : type_of% (@swc _ _ c38_5.eq_1) := @swc _ _ c38_5.eq_1
def c38_6 : SC := (.seq (.reg [SO.mk (some 13) (.move (.tmp 0)) none, SO.mk (some 14) (.call 49 [(.tmp 13)]) none, SO.mk (some 15) (.un .not (.tmp 14)) none, SO.mk (some 12) (.move (.tmp 15)) none]) (.keep [12] c38_5))
theorem u38_6 : type_of% (@swc _ _ c38_6.eq_1) := @swc _ _ c38_6.eq_1
def c38_7 : SC := (.cond (.tmp 3) c38_3 c38_6)
theorem u38_7 : type_of% (@swc _ _ c38_7.eq_1) := @swc _ _ c38_7.eq_1
def c38_8 : SC := (.seq (.reg [SO.mk (some 2) (.move (.const (Value.int .i64 0))) none]) (.keep [2] .ret))
theorem u38_8 : type_of% (@swc _ _ c38_8.eq_1) := @swc _ _ c38_8.eq_1
def c38_9 : SC := (.seq (.block 0 (.seq (.reg ((SO.mk (some 4) (.move (.tmp 0)) none) :: (SO.mk (some 5) (.len 9 (.tmp 4)) none) :: (SO.mk (some 6) (.bin .lss 3 (.tmp 5) (.const (Value.int .i64 1))) none) :: (SO.mk (some 7) (.move (.tmp 6)) none) :: o38_2)) (.keep [3, 0] c38_7))) (.keep [] c38_8))
theorem u38_9 : type_of% (@swc _ _ c38_9.eq_1) := @swc _ _ c38_9.eq_1
def c38 : SC := (.seq (.reg [SO.mk (some 2) (.move (.const (Value.int .i64 0))) none]) (.keep [0] c38_9))
theorem c38_eq : annC Try.f38 = some c38 := by kernel_rfl
theorem r38 : Try.f38.results.toList = [.tmp 2] := by kernel_rfl
theorem e38 : enters Try.prog 38 = true := by kernel_rfl
def o42_1 : List SO := ((SO.mk (some 3) (.move (.tmp 11)) none) :: [])
theorem v42_1 : type_of% (@swl _ _ o42_1.eq_1) := @swl _ _ o42_1.eq_1
def o42_2 : List SO := ((SO.mk (some 8) (.move (.tmp 0)) (some (7 , false))) :: (SO.mk (some 9) (.len 9 (.tmp 8)) (some (7 , false))) :: (SO.mk (some 10) (.bin .gtr 3 (.tmp 9) (.const (Value.int .i64 16))) (some (7 , false))) :: (SO.mk (some 11) (.pick (.tmp 7) (.const (Value.bool true)) (.tmp 10)) none) :: o42_1)
theorem v42_2 : type_of% (@swl _ _ o42_2.eq_1) := @swl _ _ o42_2.eq_1
def c42_3 : SC := (.seq (.reg [SO.mk (some 2) (.move (.const (Value.int .i64 1))) none]) (.keep [2] .ret))
theorem u42_3 : type_of% (@swc _ _ c42_3.eq_1) := @swc _ _ c42_3.eq_1
def c42_4 : SC := (.seq (.reg [SO.mk (some 2) (.move (.const (Value.int .i64 4))) none]) (.keep [2] .ret))
theorem u42_4 : type_of% (@swc _ _ c42_4.eq_1) := @swc _ _ c42_4.eq_1
def c42_5 : SC := (.cond (.tmp 12) c42_4 .skip)
theorem u42_5 : type_of% (@swc _ _ c42_5.eq_1) := @swc _ _ c42_5.eq_1
def c42_6 : SC := (.seq (.reg [SO.mk (some 13) (.move (.tmp 0)) none, SO.mk (some 14) (.call 49 [(.tmp 13)]) none, SO.mk (some 15) (.un .not (.tmp 14)) none, SO.mk (some 12) (.move (.tmp 15)) none]) (.keep [12] c42_5))
theorem u42_6 : type_of% (@swc _ _ c42_6.eq_1) := @swc _ _ c42_6.eq_1
def c42_7 : SC := (.cond (.tmp 3) c42_3 c42_6)
theorem u42_7 : type_of% (@swc _ _ c42_7.eq_1) := @swc _ _ c42_7.eq_1
def c42_8 : SC := (.seq (.reg [SO.mk (some 2) (.move (.const (Value.int .i64 0))) none]) (.keep [2] .ret))
theorem u42_8 : type_of% (@swc _ _ c42_8.eq_1) := @swc _ _ c42_8.eq_1
def c42_9 : SC := (.seq (.block 0 (.seq (.reg ((SO.mk (some 4) (.move (.tmp 0)) none) :: (SO.mk (some 5) (.len 9 (.tmp 4)) none) :: (SO.mk (some 6) (.bin .lss 3 (.tmp 5) (.const (Value.int .i64 1))) none) :: (SO.mk (some 7) (.move (.tmp 6)) none) :: o42_2)) (.keep [3, 0] c42_7))) (.keep [] c42_8))
theorem u42_9 : type_of% (@swc _ _ c42_9.eq_1) := @swc _ _ c42_9.eq_1
def c42 : SC := (.seq (.reg [SO.mk (some 2) (.move (.const (Value.int .i64 0))) none]) (.keep [0] c42_9))
theorem c42_eq : annC Try.f42 = some c42 := by kernel_rfl
theorem r42 : Try.f42.results.toList = [.tmp 2] := by kernel_rfl
theorem e42 : enters Try.prog 42 = true := by kernel_rfl
def c29_1 : SC := (.seq (.reg [SO.mk (some 3) (.move (.tmp 0)) none, SO.mk (some 4) (.call 47 [(.tmp 3), (.const (Value.int .i64 8))]) none, SO.mk (some 2) (.move (.tmp 4)) none]) (.keep [2] .ret))
theorem u29_1 : type_of% (@swc _ _ c29_1.eq_1) := @swc _ _ c29_1.eq_1
def c29 : SC := (.seq (.reg [SO.mk (some 2) (.move (.const (Value.int .i64 0))) none]) (.keep [0] c29_1))
theorem c29_eq : annC Try.f29 = some c29 := by kernel_rfl
theorem r29 : Try.f29.results.toList = [.tmp 2] := by kernel_rfl
theorem e29 : enters Try.prog 29 = true := by kernel_rfl
def c33_1 : SC := (.seq (.reg [SO.mk (some 3) (.move (.tmp 0)) none, SO.mk (some 4) (.call 47 [(.tmp 3), (.const (Value.int .i64 16))]) none, SO.mk (some 2) (.move (.tmp 4)) none]) (.keep [2] .ret))
theorem u33_1 : type_of% (@swc _ _ c33_1.eq_1) := @swc _ _ c33_1.eq_1
def c33 : SC := (.seq (.reg [SO.mk (some 2) (.move (.const (Value.int .i64 0))) none]) (.keep [0] c33_1))
theorem c33_eq : annC Try.f33 = some c33 := by kernel_rfl
theorem r33 : Try.f33.results.toList = [.tmp 2] := by kernel_rfl
theorem e33 : enters Try.prog 33 = true := by kernel_rfl
def c39_1 : SC := (.seq (.reg [SO.mk (some 2) (.move (.const (Value.int .i64 1))) none]) (.keep [2] .ret))
theorem u39_1 : type_of% (@swc _ _ c39_1.eq_1) := @swc _ _ c39_1.eq_1
def c39_2 : SC := (.seq (.reg [SO.mk (some 2) (.move (.const (Value.int .i64 4))) none]) (.keep [2] .ret))
theorem u39_2 : type_of% (@swc _ _ c39_2.eq_1) := @swc _ _ c39_2.eq_1
def o39_3 : List SO := ((SO.mk (some 30) (.bin .gtr 3 (.tmp 29) (.const (Value.int .i64 1073741824))) (some (27 , false))) :: (SO.mk (some 31) (.pick (.tmp 27) (.const (Value.bool true)) (.tmp 30)) none) :: (SO.mk (some 13) (.move (.tmp 31)) none) :: [])
theorem v39_3 : type_of% (@swl _ _ o39_3.eq_1) := @swl _ _ o39_3.eq_1
def o39_4 : List SO := ((SO.mk (some 26) (.pick (.tmp 22) (.const (Value.bool true)) (.tmp 25)) none) :: (SO.mk (some 27) (.move (.tmp 26)) none) :: (SO.mk (some 28) (.faddr 61 (.tmp 1) 2) (some (27 , false))) :: (SO.mk (some 29) (.load 3 (.tmp 28)) (some (27 , false))) :: o39_3)
theorem v39_4 : type_of% (@swl _ _ o39_4.eq_1) := @swl _ _ o39_4.eq_1
def o39_5 : List SO := ((SO.mk (some 22) (.move (.tmp 21)) none) :: (SO.mk (some 23) (.faddr 61 (.tmp 1) 2) (some (22 , false))) :: (SO.mk (some 24) (.load 3 (.tmp 23)) (some (22 , false))) :: (SO.mk (some 25) (.bin .lss 3 (.tmp 24) (.const (Value.int .i64 (-1)))) (some (22 , false))) :: o39_4)
theorem v39_5 : type_of% (@swl _ _ o39_5.eq_1) := @swl _ _ o39_5.eq_1
def o39_6 : List SO := ((SO.mk (some 18) (.faddr 61 (.tmp 1) 1) (some (17 , false))) :: (SO.mk (some 19) (.load 3 (.tmp 18)) (some (17 , false))) :: (SO.mk (some 20) (.bin .gtr 3 (.tmp 19) (.const (Value.int .i64 1073741824))) (some (17 , false))) :: (SO.mk (some 21) (.pick (.tmp 17) (.const (Value.bool true)) (.tmp 20)) none) :: o39_5)
theorem v39_6 : type_of% (@swl _ _ o39_6.eq_1) := @swl _ _ o39_6.eq_1
def c39_7 : SC := (.seq (.reg [SO.mk (some 2) (.move (.const (Value.int .i64 2))) none]) (.keep [2] .ret))
theorem u39_7 : type_of% (@swc _ _ c39_7.eq_1) := @swc _ _ c39_7.eq_1
def c39_8 : SC := (.cond (.tmp 13) c39_7 .skip)
theorem u39_8 : type_of% (@swc _ _ c39_8.eq_1) := @swc _ _ c39_8.eq_1
def c39_9 : SC := (.seq (.reg ((SO.mk (some 14) (.faddr 61 (.tmp 1) 1) none) :: (SO.mk (some 15) (.load 3 (.tmp 14)) none) :: (SO.mk (some 16) (.bin .lss 3 (.tmp 15) (.const (Value.int .i64 (-1)))) none) :: (SO.mk (some 17) (.move (.tmp 16)) none) :: o39_6)) (.keep [13] c39_8))
theorem u39_9 : type_of% (@swc _ _ c39_9.eq_1) := @swc _ _ c39_9.eq_1
def c39_10 : SC := (.cond (.tmp 8) c39_2 c39_9)
theorem u39_10 : type_of% (@swc _ _ c39_10.eq_1) := @swc _ _ c39_10.eq_1
def c39_11 : SC := (.seq (.reg [SO.mk (some 9) (.faddr 61 (.tmp 1) 0) none, SO.mk (some 10) (.load 9 (.tmp 9)) none, SO.mk (some 11) (.call 49 [(.tmp 10)]) none, SO.mk (some 12) (.un .not (.tmp 11)) none, SO.mk (some 8) (.move (.tmp 12)) none]) (.keep [8, 1] c39_10))
theorem u39_11 : type_of% (@swc _ _ c39_11.eq_1) := @swc _ _ c39_11.eq_1
def c39_12 : SC := (.cond (.tmp 3) c39_1 c39_11)
theorem u39_12 : type_of% (@swc _ _ c39_12.eq_1) := @swc _ _ c39_12.eq_1
def c39_13 : SC := (.seq (.reg [SO.mk (some 2) (.move (.const (Value.int .i64 0))) none]) (.keep [2] .ret))
theorem u39_13 : type_of% (@swc _ _ c39_13.eq_1) := @swc _ _ c39_13.eq_1
def c39_14 : SC := (.seq (.block 0 (.seq (.reg [SO.mk (some 4) (.faddr 61 (.tmp 1) 0) none, SO.mk (some 5) (.load 9 (.tmp 4)) none, SO.mk (some 6) (.len 9 (.tmp 5)) none, SO.mk (some 7) (.bin .gtr 3 (.tmp 6) (.const (Value.int .i64 16))) none, SO.mk (some 3) (.move (.tmp 7)) none]) (.keep [3, 1] c39_12))) (.keep [] c39_13))
theorem u39_14 : type_of% (@swc _ _ c39_14.eq_1) := @swc _ _ c39_14.eq_1
def c39 : SC := (.seq (.reg [SO.mk (some 1) (.box 61 (.tmp 0)) none, SO.mk (some 2) (.move (.const (Value.int .i64 0))) none]) (.keep [1] c39_14))
theorem c39_eq : annC Try.f39 = some c39 := by kernel_rfl
theorem r39 : Try.f39.results.toList = [.tmp 2] := by kernel_rfl
theorem e39 : enters Try.prog 39 = true := by kernel_rfl
def c30_1 : SC := (.seq (.reg [SO.mk (some 2) (.move (.const (Value.int .i64 1))) none]) (.keep [2] .ret))
theorem u30_1 : type_of% (@swc _ _ c30_1.eq_1) := @swc _ _ c30_1.eq_1
def c30_2 : SC := (.cond (.tmp 6) c30_1 .skip)
theorem u30_2 : type_of% (@swc _ _ c30_2.eq_1) := @swc _ _ c30_2.eq_1
def c30_3 : SC := (.seq (.reg [SO.mk (some 2) (.move (.const (Value.int .i64 4))) none]) (.keep [2] .ret))
theorem u30_3 : type_of% (@swc _ _ c30_3.eq_1) := @swc _ _ c30_3.eq_1
def c30_4 : SC := (.cond (.tmp 10) c30_3 .skip)
theorem u30_4 : type_of% (@swc _ _ c30_4.eq_1) := @swc _ _ c30_4.eq_1
def o30_5 : List SO := ((SO.mk (some 19) (.un .not (.tmp 18)) (some (15 , false))) :: (SO.mk (some 20) (.pick (.tmp 15) (.const (Value.bool true)) (.tmp 19)) none) :: [])
theorem v30_5 : type_of% (@swl _ _ o30_5.eq_1) := @swl _ _ o30_5.eq_1
def o30_6 : List SO := ((SO.mk (some 15) (.move (.tmp 14)) none) :: (SO.mk (some 16) (.faddr 61 (.tmp 1) 2) (some (15 , false))) :: (SO.mk (some 17) (.load 3 (.tmp 16)) (some (15 , false))) :: (SO.mk (some 18) (.call 17 [(.tmp 17), (.const (Value.int .i64 (-1))), (.const (Value.int .i64 1073741824))]) (some (15 , false))) :: o30_5)
theorem v30_6 : type_of% (@swl _ _ o30_6.eq_1) := @swl _ _ o30_6.eq_1
def c30_7 : SC := (.seq (.reg [SO.mk (some 2) (.move (.const (Value.int .i64 2))) none]) (.keep [2] .ret))
theorem u30_7 : type_of% (@swc _ _ c30_7.eq_1) := @swc _ _ c30_7.eq_1
def c30_8 : SC := (.cond (.tmp 20) c30_7 .skip)
theorem u30_8 : type_of% (@swc _ _ c30_8.eq_1) := @swc _ _ c30_8.eq_1
def c30_9 : SC := (.seq (.reg [SO.mk (some 2) (.move (.const (Value.int .i64 0))) none]) (.keep [2] .ret))
theorem u30_9 : type_of% (@swc _ _ c30_9.eq_1) := @swc _ _ c30_9.eq_1
def c30_10 : SC := (.seq (.seq (.reg ((SO.mk (some 11) (.faddr 61 (.tmp 1) 1) none) :: (SO.mk (some 12) (.load 3 (.tmp 11)) none) :: (SO.mk (some 13) (.call 17 [(.tmp 12), (.const (Value.int .i64 (-1))), (.const (Value.int .i64 1073741824))]) none) :: (SO.mk (some 14) (.un .not (.tmp 13)) none) :: o30_6)) (.keep [20] c30_8)) (.keep [] c30_9))
theorem u30_10 : type_of% (@swc _ _ c30_10.eq_1) := @swc _ _ c30_10.eq_1
def c30_11 : SC := (.seq (.seq (.reg [SO.mk (some 7) (.faddr 61 (.tmp 1) 0) none, SO.mk (some 8) (.load 9 (.tmp 7)) none, SO.mk (some 9) (.call 48 [(.tmp 8)]) none, SO.mk (some 10) (.un .not (.tmp 9)) none]) (.keep [10, 1] c30_4)) (.keep [1] c30_10))
theorem u30_11 : type_of% (@swc _ _ c30_11.eq_1) := @swc _ _ c30_11.eq_1
def c30_12 : SC := (.seq (.seq (.reg [SO.mk (some 3) (.faddr 61 (.tmp 1) 0) none, SO.mk (some 4) (.load 9 (.tmp 3)) none, SO.mk (some 5) (.len 9 (.tmp 4)) none, SO.mk (some 6) (.bin .gtr 3 (.tmp 5) (.const (Value.int .i64 16))) none]) (.keep [6, 1] c30_2)) (.keep [1] c30_11))
theorem u30_12 : type_of% (@swc _ _ c30_12.eq_1) := @swc _ _ c30_12.eq_1
def c30 : SC := (.seq (.reg [SO.mk (some 1) (.box 61 (.tmp 0)) none, SO.mk (some 2) (.move (.const (Value.int .i64 0))) none]) (.keep [1] c30_12))
theorem c30_eq : annC Try.f30 = some c30 := by kernel_rfl
theorem r30 : Try.f30.results.toList = [.tmp 2] := by kernel_rfl
theorem e30 : enters Try.prog 30 = true := by kernel_rfl
end Go.Proofs.Ytobbkfldjemgkaa
namespace Go.Proofs.Ytobbkfldjemgkaa
open Go.RowKit
set_option maxHeartbeats 4000000
set_option maxRecDepth 20000
attribute [local irreducible] SW SWL SWLn SWD SEcall SEcallv SDv SE SO1 SOg ACalls ACallv Wk EndV
set_option linter.unusedSimpArgs false
set_option linter.unusedVariables false
def chr (s : ByteArray) (k : Nat) : Int := ((s.data.getD k 0).toNat : Int)
theorem chr_eq (s : ByteArray) (k : Nat) : ((s.data.getD k 0).toNat : Int) = chr s k := rfl
def chrOk (s : ByteArray) (k : Nat) : Bool := !(decide (chr s k < 33) || decide (chr s k > 126))
def lettersF (s : ByteArray) : Bool := (List.range s.size).all (chrOk s)
theorem letters_all {s : ByteArray} (h : ∀ i, i < s.size → chrOk s i = true) : lettersF s = true := by
  unfold lettersF; rw [List.all_eq_true]; intro i hi; exact h i (List.mem_range.1 hi)
theorem letters_no {s : ByteArray} {k : Nat} (hk : k < s.size) (h : chrOk s k = false) : lettersF s = false := by
  unfold lettersF; rw [List.all_eq_false]; exact ⟨k, List.mem_range.2 hk, by rw [h]; decide⟩
theorem chr_1 {s : ByteArray} {k : Nat} (h : decide (chr s k < 33) = true) : chrOk s k = false := by unfold chrOk; rw [h]; rfl
theorem chr_2 {s : ByteArray} {k : Nat} (h : decide (chr s k > 126) = true) : chrOk s k = false := by unfold chrOk; rw [h]; cases decide (chr s k < 33) <;> rfl
theorem chr_3 {s : ByteArray} {k : Nat} (h : decide (chr s k < 33) = false) (h2 : decide (chr s k > 126) = false) : chrOk s k = true := by unfold chrOk; rw [h, h2]; rfl
theorem chr_in {s : ByteArray} {k : Nat} : inR (chr s k) 33 126 = chrOk s k := by
  unfold inR chrOk
  rw [Bool.eq_iff_iff]; simp
theorem chr_w (s : ByteArray) (k : Nat) : IntKind.i64.wrap (chr s k) = chr s k := by
  refine IntWalk.i64_in _ ?_
  have := (s.data.getD k 0).toNat_lt
  unfold chr; omega
theorem allS {p : Nat → Bool} {k : Nat} (hF : ∀ i, i < k → p i = true) (h : p k = true) : ∀ i, i < k + 1 → p i = true := fun i hi => by
  rcases Nat.lt_succ_iff_lt_or_eq.1 hi with h' | rfl
  · exact hF i h'
  · exact h
theorem ltS {k n : Nat} (h : decide ((k : Int) < (n : Int)) = true) : k < n := by simpa using h
theorem geS {k n : Nat} (h : decide ((k : Int) < (n : Int)) = false) : n ≤ k := by simpa using h
theorem szW {s : ByteArray} {m : Int} (h : (!inR (s.size : Int) 1 m) = false) (hm : m ≤ 2 ^ 47) : s.size ≤ 2 ^ 47 := by
  have h1 : inR (s.size : Int) 1 m = true := by simpa using h
  have := of_decide_eq_true (Bool.and_eq_true_iff.1 h1).2; omega
def wordF (s : ByteArray) (m : Int) : Int := bif inR s.size 1 m then (bif lettersF s then 0 else 4) else 1
def ruleF (x : ByteArray) (f d : Int) : Int := bif decide ((x.size : Int) > 16) then 1 else bif lettersF x then (bif inR f (-1) 1073741824 && inR d (-1) 1073741824 then 0 else 2) else 4
theorem inR_no1 {a b c : Int} (h : decide (a < b) = true) : inR a b c = false := by have := of_decide_eq_true h; unfold inR; rw [Bool.and_eq_false_iff]; left; simp; omega
theorem inR_no2 {a b c : Int} (h : decide (a > c) = true) : inR a b c = false := by have := of_decide_eq_true h; unfold inR; rw [Bool.and_eq_false_iff]; right; simp; omega
theorem inR_yes {a b c : Int} (h : decide (a < b) = false) (h2 : decide (a > c) = false) : inR a b c = true := by have := of_decide_eq_false h; have := of_decide_eq_false h2; unfold inR; rw [Bool.and_eq_true]; simp; omega
theorem letters_p (s : ByteArray) (hs : s.size ≤ 2 ^ 47) : Pure Try.prog 49 [.d (.v (.string s))] (Bo (lettersF s)) := by
  refine pure_of follows Try.func49 c49_eq r49 (Nat.le_of_ble_eq_true rfl) fun B σ hcl hsz => ?_
  clear hsz
  repeat' (first | (simp -implicitDefEqProofs only [*, contN, contC, Nat.reduceBEq, Bool.or_false, Bool.or_true, Bool.false_or, Bool.true_or, Bool.not_true, Bool.not_false, w_skip, w_ret, w_exit, w_reg, w_dreg, w_seq, SK_n, SK_r, SK_x, w_keep, w_block, w_cond, w_nil, w_cons, w_consg, w_nnil, w_ncons, w_dnil, w_dcons, w_dconsg, HK_app, HD_app, HQ_n, HQ_r, HQ_x, HQ_bn, HQ_br, HQ_bx, HQ_en, HQ_er, HQ_ex, CondB_true, CondB_false, SO1, w_sdv, SDe_alloc, SDe_box, SDe_bslice, SDe_app, true_imp_iff, false_imp_iff, and_false, false_and, not_false_eq_true, not_true_eq_false, addN, mkNames, killT, killD, killO, List.foldl_nil, List.foldl_cons, List.append_nil, List.nil_append, List.cons_append, GuardS_true, GuardS_false, GuardD_true, GuardD_false, DK_true, DK_false, lt_self_add, le_self_add, decide_true, decide_false, Bool.false_eq_true, Bool.true_eq_false, Nat.add_left_cancel_iff, SE, SEalloc, SEbox, SEstore, w_bs, SEbl, SEfz, SEbs0, fzName, osOf, AV.fz1, w_app, w_mk, aev, opd, Fr.get, putO, Fr.norm, List.map_cons, List.map_nil, with1, with2, onInt, AV.lit, entry, ↓reduceIte, Nat.reduceEqDiff, Nat.reduceAdd, reduceCtorEq, true_and, and_true, Option.map_some, Option.map_none, Option.bind_some, Option.bind_none, cond_true, cond_false, binV, unV, fieldV, loadV, sto, cellsAV, newF, newL, Fr.map, Loc.kill, Loc.set, AO.kill, AV.kill, AV.mapN, AV.mapNL, List.filter_nil, List.filter_cons, allP, EndV, retV, resV, resL, frz, dropL, AV.pick, nilV, tupV, imp_self, ne_eq, Int.cast_ofNat_Int, Int.reduceLT, Int.reduceToNat, List.getD_cons_zero, List.getD_cons_succ, bsliceV, buildV, afill, repl, chunk, rvs, AV.rv, RV.nrm, List.getElem?_nil, List.append_assoc, Nat.reduceMul, Nat.reducePow, Nat.zero_lt_succ, Nat.zero_add, Nat.add_zero, List.length_cons, List.length_nil, Nat.reduceLeDiff, Nat.le_refl, List.take_succ_cons, List.take_zero, List.drop_succ_cons, List.drop_zero, indexV, lenV, rowOf_mapD, rowOf_mapI, rowOf_mapA, List.length_map, Int.toNat_natCast, List.getElem?_cons_zero, List.getElem?_cons_succ, and_self, implies_true, if_true, if_false, HQ_zn, HQ_zr, HQ_wn, HQ_wr, AV.nz, AV.nzL, RV.nrm, SEbin, SEnil, nilK, srcV, dstV, appName, List.length_append, Nat.mul_one, take_map_len, take_map_app, List.getElem?_cons_zero, List.map_append, SEmkmap, SEmset, mgetV, kvOf, getM, setM, c49, r49, v49_1, v49_2, u49_3, u49_4, u49_5, u49_6, u49_7, u49_8, u49_9, u49_10, u49_11, u49_12, ty9, ty3, ty5, idxV, chr_eq]) | (with_reducible refine And.intro ?_ ?_) | (refine loop_nat (s.size) (fun k => ∀ i, i < k → chrOk s i = true) (fun k => [(0, .d (.v (.string s))), (5, I s.size), (6, I k)]) (fun k => []) ?_ (Wk.keep hcl ?_ ?_ ?_) fun k hk hF => ?_; rotate_left 1; (focus (simp [Fr.get, newF, Fr.map, AV.kill, AV.mapN, idxV, chr_eq] <;> fail)); (focus (simp [sto, newL, Loc.kill, Loc.set, AO.kill, AV.kill, AV.mapN, idxV, chr_eq] <;> fail)); (focus (simp [newL, Loc.kill, Loc.set, idxV, chr_eq] <;> fail)); (try have hw : IntKind.i64.wrap ((k : Int) + 1) = (k : Int) + 1 := IntWalk.i64_in _ (by omega))) | (refine EndX.plain ?_) | (refine nil_split (fun hn => ?_) (fun hn => ?_)) | (refine gcall_no not_false ?_) | (refine gdcall_no not_false ?_) | (refine GuardS_of _ _ _ _ _ _ (fun hg => ?_) (fun hg => ?_)) | (refine GuardD_of _ _ _ _ (fun hg => ?_) (fun hg => ?_)) | (refine CondB_of _ _ _ _ _ _ _ ?_ (fun hg => ?_) (fun hg => ?_)))
  all_goals (try (first | ((first | unfold noN | unfold Fr.below | unfold Loc.below); simp [Fr.allN, AV.allN, AV.allNL, AO.allN]; done) | rfl | trivial | assumption | (intro row hrow; simp only [List.mem_map] at hrow; obtain ⟨x, _, rfl⟩ := hrow; rfl) | (refine Wk.keep hcl ?_ ?_ ?_; (focus (simp [Fr.get, idxV, chr_eq] <;> fail)); (focus (simp [sto, idxV, chr_eq] <;> fail)); (focus (simp <;> fail))) | (simp [allP, opd, Fr.get, Fr.below, Fr.allN, AV.allN, AV.allNL, Loc.below, AO.allN, noN, killO, killT, killD, mkNames, AO.kill, AV.kill, AV.mapN, AV.mapNL]; done) | (with_reducible exact ltD (by assumption)) | omega | (simp only [decide_eq_true_eq, decide_eq_false_iff_not] at *; omega)))
  all_goals first
    | (rw [letters_no (ltS (by assumption)) (by first | exact chr_1 (by assumption) | exact chr_2 (by assumption))] <;> rfl)
    | (have e : k = s.size := by have := geS (by assumption); omega
       subst e
       rw [letters_all hF] <;> rfl)
    | exact allS hF (chr_3 (by assumption) (by assumption))
theorem plain_p (s : ByteArray) (hs : s.size ≤ 2 ^ 47) : Pure Try.prog 48 [.d (.v (.string s))] (Bo (lettersF s)) := by
  refine pure_of follows Try.func48 c48_eq r48 (Nat.le_of_ble_eq_true rfl) fun B σ hcl hsz => ?_
  clear hsz
  repeat' (first | (simp -implicitDefEqProofs only [*, contN, contC, Nat.reduceBEq, Bool.or_false, Bool.or_true, Bool.false_or, Bool.true_or, Bool.not_true, Bool.not_false, w_skip, w_ret, w_exit, w_reg, w_dreg, w_seq, SK_n, SK_r, SK_x, w_keep, w_block, w_cond, w_nil, w_cons, w_consg, w_nnil, w_ncons, w_dnil, w_dcons, w_dconsg, HK_app, HD_app, HQ_n, HQ_r, HQ_x, HQ_bn, HQ_br, HQ_bx, HQ_en, HQ_er, HQ_ex, CondB_true, CondB_false, SO1, w_sdv, SDe_alloc, SDe_box, SDe_bslice, SDe_app, true_imp_iff, false_imp_iff, and_false, false_and, not_false_eq_true, not_true_eq_false, addN, mkNames, killT, killD, killO, List.foldl_nil, List.foldl_cons, List.append_nil, List.nil_append, List.cons_append, GuardS_true, GuardS_false, GuardD_true, GuardD_false, DK_true, DK_false, lt_self_add, le_self_add, decide_true, decide_false, Bool.false_eq_true, Bool.true_eq_false, Nat.add_left_cancel_iff, SE, SEalloc, SEbox, SEstore, w_bs, SEbl, SEfz, SEbs0, fzName, osOf, AV.fz1, w_app, w_mk, aev, opd, Fr.get, putO, Fr.norm, List.map_cons, List.map_nil, with1, with2, onInt, AV.lit, entry, ↓reduceIte, Nat.reduceEqDiff, Nat.reduceAdd, reduceCtorEq, true_and, and_true, Option.map_some, Option.map_none, Option.bind_some, Option.bind_none, cond_true, cond_false, binV, unV, fieldV, loadV, sto, cellsAV, newF, newL, Fr.map, Loc.kill, Loc.set, AO.kill, AV.kill, AV.mapN, AV.mapNL, List.filter_nil, List.filter_cons, allP, EndV, retV, resV, resL, frz, dropL, AV.pick, nilV, tupV, imp_self, ne_eq, Int.cast_ofNat_Int, Int.reduceLT, Int.reduceToNat, List.getD_cons_zero, List.getD_cons_succ, bsliceV, buildV, afill, repl, chunk, rvs, AV.rv, RV.nrm, List.getElem?_nil, List.append_assoc, Nat.reduceMul, Nat.reducePow, Nat.zero_lt_succ, Nat.zero_add, Nat.add_zero, List.length_cons, List.length_nil, Nat.reduceLeDiff, Nat.le_refl, List.take_succ_cons, List.take_zero, List.drop_succ_cons, List.drop_zero, indexV, lenV, rowOf_mapD, rowOf_mapI, rowOf_mapA, List.length_map, Int.toNat_natCast, List.getElem?_cons_zero, List.getElem?_cons_succ, and_self, implies_true, if_true, if_false, HQ_zn, HQ_zr, HQ_wn, HQ_wr, AV.nz, AV.nzL, RV.nrm, SEbin, SEnil, nilK, srcV, dstV, appName, List.length_append, Nat.mul_one, take_map_len, take_map_app, List.getElem?_cons_zero, List.map_append, SEmkmap, SEmset, mgetV, kvOf, getM, setM, c48, r48, u48_1, v48_2, u48_3, u48_4, u48_5, u48_6, u48_7, u48_8, u48_9, u48_10, ty9, ty3, ty5, idxV, chr_eq, chr_w, chr_in, convV]) | (with_reducible refine And.intro ?_ ?_) | (refine call_ro e17 ( In_p (chr s k) 33 126) rfl ?_ ?_ ?_ ?_) | (refine gcall_ro e17 ( In_p (chr s k) 33 126) rfl ?_ ?_ ?_ ?_) | (refine dcall_ro e17 ( In_p (chr s k) 33 126) rfl ?_ ?_ ?_ ?_) | (refine gdcall_ro rfl e17 ( In_p (chr s k) 33 126) rfl ?_ ?_ ?_ ?_) | (refine loop_nat (s.size) (fun k => ∀ i, i < k → chrOk s i = true) (fun k => [(0, .d (.v (.string s))), (3, I k)]) (fun k => []) ?_ (Wk.keep hcl ?_ ?_ ?_) fun k hk hF => ?_; rotate_left 1; (focus (simp [Fr.get, newF, Fr.map, AV.kill, AV.mapN, idxV, chr_eq, chr_w, chr_in, convV] <;> fail)); (focus (simp [sto, newL, Loc.kill, Loc.set, AO.kill, AV.kill, AV.mapN, idxV, chr_eq, chr_w, chr_in, convV] <;> fail)); (focus (simp [newL, Loc.kill, Loc.set, idxV, chr_eq, chr_w, chr_in, convV] <;> fail)); (try have hw : IntKind.i64.wrap ((k : Int) + 1) = (k : Int) + 1 := IntWalk.i64_in _ (by omega))) | (refine EndX.plain ?_) | (refine nil_split (fun hn => ?_) (fun hn => ?_)) | (refine gcall_no not_false ?_) | (refine gdcall_no not_false ?_) | (refine GuardS_of _ _ _ _ _ _ (fun hg => ?_) (fun hg => ?_)) | (refine GuardD_of _ _ _ _ (fun hg => ?_) (fun hg => ?_)) | (refine CondB_of _ _ _ _ _ _ _ ?_ (fun hg => ?_) (fun hg => ?_)))
  all_goals (try (first | ((first | unfold noN | unfold Fr.below | unfold Loc.below); simp [Fr.allN, AV.allN, AV.allNL, AO.allN]; done) | rfl | trivial | assumption | (intro row hrow; simp only [List.mem_map] at hrow; obtain ⟨x, _, rfl⟩ := hrow; rfl) | (refine Wk.keep hcl ?_ ?_ ?_; (focus (simp [Fr.get, idxV, chr_eq, chr_w, chr_in, convV] <;> fail)); (focus (simp [sto, idxV, chr_eq, chr_w, chr_in, convV] <;> fail)); (focus (simp <;> fail))) | (simp [allP, opd, Fr.get, Fr.below, Fr.allN, AV.allN, AV.allNL, Loc.below, AO.allN, noN, killO, killT, killD, mkNames, AO.kill, AV.kill, AV.mapN, AV.mapNL]; done) | (with_reducible exact ltD (by assumption)) | omega | (simp only [decide_eq_true_eq, decide_eq_false_iff_not] at *; omega)))
  all_goals first
    | (rw [letters_no (ltS (by assumption)) (by first | assumption | simpa using (by assumption : (!chrOk s k) = true))] <;> rfl)
    | (have e : k = s.size := by have := geS (by assumption); omega
       subst e
       rw [letters_all hF] <;> rfl)
    | exact allS hF (by first | assumption | simpa using (by assumption : (!chrOk s k) = false))
theorem word_p (s : ByteArray) (m : Int) (hm : m ≤ 2 ^ 47) : Pure Try.prog 47 [.d (.v (.string s)), I m] (I (wordF s m)) := by
  refine pure_of follows Try.func47 c47_eq r47 (Nat.le_of_ble_eq_true rfl) fun B σ hcl hsz => ?_
  clear hsz
  repeat' (first | (simp -implicitDefEqProofs only [*, contN, contC, Nat.reduceBEq, Bool.or_false, Bool.or_true, Bool.false_or, Bool.true_or, Bool.not_true, Bool.not_false, w_skip, w_ret, w_exit, w_reg, w_dreg, w_seq, SK_n, SK_r, SK_x, w_keep, w_block, w_cond, w_nil, w_cons, w_consg, w_nnil, w_ncons, w_dnil, w_dcons, w_dconsg, HK_app, HD_app, HQ_n, HQ_r, HQ_x, HQ_bn, HQ_br, HQ_bx, HQ_en, HQ_er, HQ_ex, CondB_true, CondB_false, SO1, w_sdv, SDe_alloc, SDe_box, SDe_bslice, SDe_app, true_imp_iff, false_imp_iff, and_false, false_and, not_false_eq_true, not_true_eq_false, addN, mkNames, killT, killD, killO, List.foldl_nil, List.foldl_cons, List.append_nil, List.nil_append, List.cons_append, GuardS_true, GuardS_false, GuardD_true, GuardD_false, DK_true, DK_false, lt_self_add, le_self_add, decide_true, decide_false, Bool.false_eq_true, Bool.true_eq_false, Nat.add_left_cancel_iff, SE, SEalloc, SEbox, SEstore, w_bs, SEbl, SEfz, SEbs0, fzName, osOf, AV.fz1, w_app, w_mk, aev, opd, Fr.get, putO, Fr.norm, List.map_cons, List.map_nil, with1, with2, onInt, AV.lit, entry, ↓reduceIte, Nat.reduceEqDiff, Nat.reduceAdd, reduceCtorEq, true_and, and_true, Option.map_some, Option.map_none, Option.bind_some, Option.bind_none, cond_true, cond_false, binV, unV, fieldV, loadV, sto, cellsAV, newF, newL, Fr.map, Loc.kill, Loc.set, AO.kill, AV.kill, AV.mapN, AV.mapNL, List.filter_nil, List.filter_cons, allP, EndV, retV, resV, resL, frz, dropL, AV.pick, nilV, tupV, imp_self, ne_eq, Int.cast_ofNat_Int, Int.reduceLT, Int.reduceToNat, List.getD_cons_zero, List.getD_cons_succ, bsliceV, buildV, afill, repl, chunk, rvs, AV.rv, RV.nrm, List.getElem?_nil, List.append_assoc, Nat.reduceMul, Nat.reducePow, Nat.zero_lt_succ, Nat.zero_add, Nat.add_zero, List.length_cons, List.length_nil, Nat.reduceLeDiff, Nat.le_refl, List.take_succ_cons, List.take_zero, List.drop_succ_cons, List.drop_zero, indexV, lenV, rowOf_mapD, rowOf_mapI, rowOf_mapA, List.length_map, Int.toNat_natCast, List.getElem?_cons_zero, List.getElem?_cons_succ, and_self, implies_true, if_true, if_false, HQ_zn, HQ_zr, HQ_wn, HQ_wr, AV.nz, AV.nzL, RV.nrm, SEbin, SEnil, nilK, srcV, dstV, appName, List.length_append, Nat.mul_one, take_map_len, take_map_app, List.getElem?_cons_zero, List.map_append, SEmkmap, SEmset, mgetV, kvOf, getM, setM, c47, r47, u47_1, u47_2, u47_3, u47_4, u47_5, u47_6, u47_7, ty9]) | (with_reducible refine And.intro ?_ ?_) | (refine call_ro e17 ( In_p _ _ _) rfl ?_ ?_ ?_ ?_) | (refine gcall_ro e17 ( In_p _ _ _) rfl ?_ ?_ ?_ ?_) | (refine dcall_ro e17 ( In_p _ _ _) rfl ?_ ?_ ?_ ?_) | (refine gdcall_ro rfl e17 ( In_p _ _ _) rfl ?_ ?_ ?_ ?_) | (refine call_ro e48 (plain_p s (szW (by assumption) hm)) rfl ?_ ?_ ?_ ?_) | (refine EndX.plain ?_) | (refine nil_split (fun hn => ?_) (fun hn => ?_)) | (refine gcall_no not_false ?_) | (refine gdcall_no not_false ?_) | (refine GuardS_of _ _ _ _ _ _ (fun hg => ?_) (fun hg => ?_)) | (refine GuardD_of _ _ _ _ (fun hg => ?_) (fun hg => ?_)) | (refine CondB_of _ _ _ _ _ _ _ ?_ (fun hg => ?_) (fun hg => ?_)))
  all_goals (try (first | ((first | unfold noN | unfold Fr.below | unfold Loc.below); simp [Fr.allN, AV.allN, AV.allNL, AO.allN]; done) | rfl | trivial | assumption | (intro row hrow; simp only [List.mem_map] at hrow; obtain ⟨x, _, rfl⟩ := hrow; rfl) | (refine Wk.keep hcl ?_ ?_ ?_; (focus (simp [Fr.get] <;> fail)); (focus (simp [sto] <;> fail)); (focus (simp <;> fail))) | (simp [allP, opd, Fr.get, Fr.below, Fr.allN, AV.allN, AV.allNL, Loc.below, AO.allN, noN, killO, killT, killD, mkNames, AO.kill, AV.kill, AV.mapN, AV.mapNL]; done) | (with_reducible exact ltD (by assumption)) | omega | (simp only [decide_eq_true_eq, decide_eq_false_iff_not] at *; omega)))
  all_goals (try (simp only [Bool.not_eq_true', Bool.not_eq_false'] at *))
  all_goals (try (simp only [wordF, *, cond_true, cond_false]; done))
theorem name_p (s : ByteArray) : Pure Try.prog 38 [.d (.v (.string s))] (I (wordF s 8)) := by
  refine pure_of follows Try.func38 c38_eq r38 (Nat.le_of_ble_eq_true rfl) fun B σ hcl hsz => ?_
  clear hsz
  repeat' (first | (simp -implicitDefEqProofs only [*, contN, contC, Nat.reduceBEq, Bool.or_false, Bool.or_true, Bool.false_or, Bool.true_or, Bool.not_true, Bool.not_false, w_skip, w_ret, w_exit, w_reg, w_dreg, w_seq, SK_n, SK_r, SK_x, w_keep, w_block, w_cond, w_nil, w_cons, w_consg, w_nnil, w_ncons, w_dnil, w_dcons, w_dconsg, HK_app, HD_app, HQ_n, HQ_r, HQ_x, HQ_bn, HQ_br, HQ_bx, HQ_en, HQ_er, HQ_ex, CondB_true, CondB_false, SO1, w_sdv, SDe_alloc, SDe_box, SDe_bslice, SDe_app, true_imp_iff, false_imp_iff, and_false, false_and, not_false_eq_true, not_true_eq_false, addN, mkNames, killT, killD, killO, List.foldl_nil, List.foldl_cons, List.append_nil, List.nil_append, List.cons_append, GuardS_true, GuardS_false, GuardD_true, GuardD_false, DK_true, DK_false, lt_self_add, le_self_add, decide_true, decide_false, Bool.false_eq_true, Bool.true_eq_false, Nat.add_left_cancel_iff, SE, SEalloc, SEbox, SEstore, w_bs, SEbl, SEfz, SEbs0, fzName, osOf, AV.fz1, w_app, w_mk, aev, opd, Fr.get, putO, Fr.norm, List.map_cons, List.map_nil, with1, with2, onInt, AV.lit, entry, ↓reduceIte, Nat.reduceEqDiff, Nat.reduceAdd, reduceCtorEq, true_and, and_true, Option.map_some, Option.map_none, Option.bind_some, Option.bind_none, cond_true, cond_false, binV, unV, fieldV, loadV, sto, cellsAV, newF, newL, Fr.map, Loc.kill, Loc.set, AO.kill, AV.kill, AV.mapN, AV.mapNL, List.filter_nil, List.filter_cons, allP, EndV, retV, resV, resL, frz, dropL, AV.pick, nilV, tupV, imp_self, ne_eq, Int.cast_ofNat_Int, Int.reduceLT, Int.reduceToNat, List.getD_cons_zero, List.getD_cons_succ, bsliceV, buildV, afill, repl, chunk, rvs, AV.rv, RV.nrm, List.getElem?_nil, List.append_assoc, Nat.reduceMul, Nat.reducePow, Nat.zero_lt_succ, Nat.zero_add, Nat.add_zero, List.length_cons, List.length_nil, Nat.reduceLeDiff, Nat.le_refl, List.take_succ_cons, List.take_zero, List.drop_succ_cons, List.drop_zero, indexV, lenV, rowOf_mapD, rowOf_mapI, rowOf_mapA, List.length_map, Int.toNat_natCast, List.getElem?_cons_zero, List.getElem?_cons_succ, and_self, implies_true, if_true, if_false, HQ_zn, HQ_zr, HQ_wn, HQ_wr, AV.nz, AV.nzL, RV.nrm, SEbin, SEnil, nilK, srcV, dstV, appName, List.length_append, Nat.mul_one, take_map_len, take_map_app, List.getElem?_cons_zero, List.map_append, SEmkmap, SEmset, mgetV, kvOf, getM, setM, c38, r38, v38_1, v38_2, u38_3, u38_4, u38_5, u38_6, u38_7, u38_8, u38_9, ty9, ty3]) | (with_reducible refine And.intro ?_ ?_) | (refine call_ro e49 (letters_p s (by have := of_decide_eq_false (by assumption : decide ((s.size : Int) > 8) = false); omega)) rfl ?_ ?_ ?_ ?_) | (refine EndX.plain ?_) | (refine nil_split (fun hn => ?_) (fun hn => ?_)) | (refine gcall_no not_false ?_) | (refine gdcall_no not_false ?_) | (refine GuardS_of _ _ _ _ _ _ (fun hg => ?_) (fun hg => ?_)) | (refine GuardD_of _ _ _ _ (fun hg => ?_) (fun hg => ?_)) | (refine CondB_of _ _ _ _ _ _ _ ?_ (fun hg => ?_) (fun hg => ?_)))
  all_goals (try (first | ((first | unfold noN | unfold Fr.below | unfold Loc.below); simp [Fr.allN, AV.allN, AV.allNL, AO.allN]; done) | rfl | trivial | assumption | (intro row hrow; simp only [List.mem_map] at hrow; obtain ⟨x, _, rfl⟩ := hrow; rfl) | (refine Wk.keep hcl ?_ ?_ ?_; (focus (simp [Fr.get] <;> fail)); (focus (simp [sto] <;> fail)); (focus (simp <;> fail))) | (simp [allP, opd, Fr.get, Fr.below, Fr.allN, AV.allN, AV.allNL, Loc.below, AO.allN, noN, killO, killT, killD, mkNames, AO.kill, AV.kill, AV.mapN, AV.mapNL]; done) | (with_reducible exact ltD (by assumption)) | omega | (simp only [decide_eq_true_eq, decide_eq_false_iff_not] at *; omega)))
  all_goals (try (simp only [Bool.not_eq_true', Bool.not_eq_false'] at *))
  all_goals first
    | (rw [wordF, inR_no1 (by assumption)] <;> rfl)
    | (rw [wordF, inR_no2 (by assumption)] <;> rfl)
    | (simp only [wordF, inR_yes (by assumption : decide ((s.size : Int) < 1) = false) (by assumption : decide ((s.size : Int) > 8) = false), *, cond_true, cond_false]; done)
theorem key_p (s : ByteArray) : Pure Try.prog 42 [.d (.v (.string s))] (I (wordF s 16)) := by
  refine pure_of follows Try.func42 c42_eq r42 (Nat.le_of_ble_eq_true rfl) fun B σ hcl hsz => ?_
  clear hsz
  repeat' (first | (simp -implicitDefEqProofs only [*, contN, contC, Nat.reduceBEq, Bool.or_false, Bool.or_true, Bool.false_or, Bool.true_or, Bool.not_true, Bool.not_false, w_skip, w_ret, w_exit, w_reg, w_dreg, w_seq, SK_n, SK_r, SK_x, w_keep, w_block, w_cond, w_nil, w_cons, w_consg, w_nnil, w_ncons, w_dnil, w_dcons, w_dconsg, HK_app, HD_app, HQ_n, HQ_r, HQ_x, HQ_bn, HQ_br, HQ_bx, HQ_en, HQ_er, HQ_ex, CondB_true, CondB_false, SO1, w_sdv, SDe_alloc, SDe_box, SDe_bslice, SDe_app, true_imp_iff, false_imp_iff, and_false, false_and, not_false_eq_true, not_true_eq_false, addN, mkNames, killT, killD, killO, List.foldl_nil, List.foldl_cons, List.append_nil, List.nil_append, List.cons_append, GuardS_true, GuardS_false, GuardD_true, GuardD_false, DK_true, DK_false, lt_self_add, le_self_add, decide_true, decide_false, Bool.false_eq_true, Bool.true_eq_false, Nat.add_left_cancel_iff, SE, SEalloc, SEbox, SEstore, w_bs, SEbl, SEfz, SEbs0, fzName, osOf, AV.fz1, w_app, w_mk, aev, opd, Fr.get, putO, Fr.norm, List.map_cons, List.map_nil, with1, with2, onInt, AV.lit, entry, ↓reduceIte, Nat.reduceEqDiff, Nat.reduceAdd, reduceCtorEq, true_and, and_true, Option.map_some, Option.map_none, Option.bind_some, Option.bind_none, cond_true, cond_false, binV, unV, fieldV, loadV, sto, cellsAV, newF, newL, Fr.map, Loc.kill, Loc.set, AO.kill, AV.kill, AV.mapN, AV.mapNL, List.filter_nil, List.filter_cons, allP, EndV, retV, resV, resL, frz, dropL, AV.pick, nilV, tupV, imp_self, ne_eq, Int.cast_ofNat_Int, Int.reduceLT, Int.reduceToNat, List.getD_cons_zero, List.getD_cons_succ, bsliceV, buildV, afill, repl, chunk, rvs, AV.rv, RV.nrm, List.getElem?_nil, List.append_assoc, Nat.reduceMul, Nat.reducePow, Nat.zero_lt_succ, Nat.zero_add, Nat.add_zero, List.length_cons, List.length_nil, Nat.reduceLeDiff, Nat.le_refl, List.take_succ_cons, List.take_zero, List.drop_succ_cons, List.drop_zero, indexV, lenV, rowOf_mapD, rowOf_mapI, rowOf_mapA, List.length_map, Int.toNat_natCast, List.getElem?_cons_zero, List.getElem?_cons_succ, and_self, implies_true, if_true, if_false, HQ_zn, HQ_zr, HQ_wn, HQ_wr, AV.nz, AV.nzL, RV.nrm, SEbin, SEnil, nilK, srcV, dstV, appName, List.length_append, Nat.mul_one, take_map_len, take_map_app, List.getElem?_cons_zero, List.map_append, SEmkmap, SEmset, mgetV, kvOf, getM, setM, c42, r42, v42_1, v42_2, u42_3, u42_4, u42_5, u42_6, u42_7, u42_8, u42_9, ty9, ty3]) | (with_reducible refine And.intro ?_ ?_) | (refine call_ro e49 (letters_p s (by have := of_decide_eq_false (by assumption : decide ((s.size : Int) > 16) = false); omega)) rfl ?_ ?_ ?_ ?_) | (refine EndX.plain ?_) | (refine nil_split (fun hn => ?_) (fun hn => ?_)) | (refine gcall_no not_false ?_) | (refine gdcall_no not_false ?_) | (refine GuardS_of _ _ _ _ _ _ (fun hg => ?_) (fun hg => ?_)) | (refine GuardD_of _ _ _ _ (fun hg => ?_) (fun hg => ?_)) | (refine CondB_of _ _ _ _ _ _ _ ?_ (fun hg => ?_) (fun hg => ?_)))
  all_goals (try (first | ((first | unfold noN | unfold Fr.below | unfold Loc.below); simp [Fr.allN, AV.allN, AV.allNL, AO.allN]; done) | rfl | trivial | assumption | (intro row hrow; simp only [List.mem_map] at hrow; obtain ⟨x, _, rfl⟩ := hrow; rfl) | (refine Wk.keep hcl ?_ ?_ ?_; (focus (simp [Fr.get] <;> fail)); (focus (simp [sto] <;> fail)); (focus (simp <;> fail))) | (simp [allP, opd, Fr.get, Fr.below, Fr.allN, AV.allN, AV.allNL, Loc.below, AO.allN, noN, killO, killT, killD, mkNames, AO.kill, AV.kill, AV.mapN, AV.mapNL]; done) | (with_reducible exact ltD (by assumption)) | omega | (simp only [decide_eq_true_eq, decide_eq_false_iff_not] at *; omega)))
  all_goals (try (simp only [Bool.not_eq_true', Bool.not_eq_false'] at *))
  all_goals first
    | (rw [wordF, inR_no1 (by assumption)] <;> rfl)
    | (rw [wordF, inR_no2 (by assumption)] <;> rfl)
    | (simp only [wordF, inR_yes (by assumption : decide ((s.size : Int) < 1) = false) (by assumption : decide ((s.size : Int) > 16) = false), *, cond_true, cond_false]; done)
theorem nameR_p (s : ByteArray) : Pure Try.prog 29 [.d (.v (.string s))] (I (wordF s 8)) := by
  refine pure_of follows Try.func29 c29_eq r29 (Nat.le_of_ble_eq_true rfl) fun B σ hcl hsz => ?_
  clear hsz
  repeat' (first | (simp -implicitDefEqProofs only [*, contN, contC, Nat.reduceBEq, Bool.or_false, Bool.or_true, Bool.false_or, Bool.true_or, Bool.not_true, Bool.not_false, w_skip, w_ret, w_exit, w_reg, w_dreg, w_seq, SK_n, SK_r, SK_x, w_keep, w_block, w_cond, w_nil, w_cons, w_consg, w_nnil, w_ncons, w_dnil, w_dcons, w_dconsg, HK_app, HD_app, HQ_n, HQ_r, HQ_x, HQ_bn, HQ_br, HQ_bx, HQ_en, HQ_er, HQ_ex, CondB_true, CondB_false, SO1, w_sdv, SDe_alloc, SDe_box, SDe_bslice, SDe_app, true_imp_iff, false_imp_iff, and_false, false_and, not_false_eq_true, not_true_eq_false, addN, mkNames, killT, killD, killO, List.foldl_nil, List.foldl_cons, List.append_nil, List.nil_append, List.cons_append, GuardS_true, GuardS_false, GuardD_true, GuardD_false, DK_true, DK_false, lt_self_add, le_self_add, decide_true, decide_false, Bool.false_eq_true, Bool.true_eq_false, Nat.add_left_cancel_iff, SE, SEalloc, SEbox, SEstore, w_bs, SEbl, SEfz, SEbs0, fzName, osOf, AV.fz1, w_app, w_mk, aev, opd, Fr.get, putO, Fr.norm, List.map_cons, List.map_nil, with1, with2, onInt, AV.lit, entry, ↓reduceIte, Nat.reduceEqDiff, Nat.reduceAdd, reduceCtorEq, true_and, and_true, Option.map_some, Option.map_none, Option.bind_some, Option.bind_none, cond_true, cond_false, binV, unV, fieldV, loadV, sto, cellsAV, newF, newL, Fr.map, Loc.kill, Loc.set, AO.kill, AV.kill, AV.mapN, AV.mapNL, List.filter_nil, List.filter_cons, allP, EndV, retV, resV, resL, frz, dropL, AV.pick, nilV, tupV, imp_self, ne_eq, Int.cast_ofNat_Int, Int.reduceLT, Int.reduceToNat, List.getD_cons_zero, List.getD_cons_succ, bsliceV, buildV, afill, repl, chunk, rvs, AV.rv, RV.nrm, List.getElem?_nil, List.append_assoc, Nat.reduceMul, Nat.reducePow, Nat.zero_lt_succ, Nat.zero_add, Nat.add_zero, List.length_cons, List.length_nil, Nat.reduceLeDiff, Nat.le_refl, List.take_succ_cons, List.take_zero, List.drop_succ_cons, List.drop_zero, indexV, lenV, rowOf_mapD, rowOf_mapI, rowOf_mapA, List.length_map, Int.toNat_natCast, List.getElem?_cons_zero, List.getElem?_cons_succ, and_self, implies_true, if_true, if_false, HQ_zn, HQ_zr, HQ_wn, HQ_wr, AV.nz, AV.nzL, RV.nrm, SEbin, SEnil, nilK, srcV, dstV, appName, List.length_append, Nat.mul_one, take_map_len, take_map_app, List.getElem?_cons_zero, List.map_append, SEmkmap, SEmset, mgetV, kvOf, getM, setM, c29, r29, u29_1]) | (with_reducible refine And.intro ?_ ?_) | (refine call_ro e47 ( word_p s 8 (by decide)) rfl ?_ ?_ ?_ ?_) | (refine gcall_ro e47 ( word_p s 8 (by decide)) rfl ?_ ?_ ?_ ?_) | (refine dcall_ro e47 ( word_p s 8 (by decide)) rfl ?_ ?_ ?_ ?_) | (refine gdcall_ro rfl e47 ( word_p s 8 (by decide)) rfl ?_ ?_ ?_ ?_) | (refine EndX.plain ?_) | (refine nil_split (fun hn => ?_) (fun hn => ?_)) | (refine gcall_no not_false ?_) | (refine gdcall_no not_false ?_) | (refine GuardS_of _ _ _ _ _ _ (fun hg => ?_) (fun hg => ?_)) | (refine GuardD_of _ _ _ _ (fun hg => ?_) (fun hg => ?_)) | (refine CondB_of _ _ _ _ _ _ _ ?_ (fun hg => ?_) (fun hg => ?_)))
  all_goals (try (first | ((first | unfold noN | unfold Fr.below | unfold Loc.below); simp [Fr.allN, AV.allN, AV.allNL, AO.allN]; done) | rfl | trivial | assumption | (intro row hrow; simp only [List.mem_map] at hrow; obtain ⟨x, _, rfl⟩ := hrow; rfl) | (refine Wk.keep hcl ?_ ?_ ?_; (focus (simp [Fr.get] <;> fail)); (focus (simp [sto] <;> fail)); (focus (simp <;> fail))) | (simp [allP, opd, Fr.get, Fr.below, Fr.allN, AV.allN, AV.allNL, Loc.below, AO.allN, noN, killO, killT, killD, mkNames, AO.kill, AV.kill, AV.mapN, AV.mapNL]; done) | (with_reducible exact ltD (by assumption)) | omega | (simp only [decide_eq_true_eq, decide_eq_false_iff_not] at *; omega)))
theorem keyR_p (s : ByteArray) : Pure Try.prog 33 [.d (.v (.string s))] (I (wordF s 16)) := by
  refine pure_of follows Try.func33 c33_eq r33 (Nat.le_of_ble_eq_true rfl) fun B σ hcl hsz => ?_
  clear hsz
  repeat' (first | (simp -implicitDefEqProofs only [*, contN, contC, Nat.reduceBEq, Bool.or_false, Bool.or_true, Bool.false_or, Bool.true_or, Bool.not_true, Bool.not_false, w_skip, w_ret, w_exit, w_reg, w_dreg, w_seq, SK_n, SK_r, SK_x, w_keep, w_block, w_cond, w_nil, w_cons, w_consg, w_nnil, w_ncons, w_dnil, w_dcons, w_dconsg, HK_app, HD_app, HQ_n, HQ_r, HQ_x, HQ_bn, HQ_br, HQ_bx, HQ_en, HQ_er, HQ_ex, CondB_true, CondB_false, SO1, w_sdv, SDe_alloc, SDe_box, SDe_bslice, SDe_app, true_imp_iff, false_imp_iff, and_false, false_and, not_false_eq_true, not_true_eq_false, addN, mkNames, killT, killD, killO, List.foldl_nil, List.foldl_cons, List.append_nil, List.nil_append, List.cons_append, GuardS_true, GuardS_false, GuardD_true, GuardD_false, DK_true, DK_false, lt_self_add, le_self_add, decide_true, decide_false, Bool.false_eq_true, Bool.true_eq_false, Nat.add_left_cancel_iff, SE, SEalloc, SEbox, SEstore, w_bs, SEbl, SEfz, SEbs0, fzName, osOf, AV.fz1, w_app, w_mk, aev, opd, Fr.get, putO, Fr.norm, List.map_cons, List.map_nil, with1, with2, onInt, AV.lit, entry, ↓reduceIte, Nat.reduceEqDiff, Nat.reduceAdd, reduceCtorEq, true_and, and_true, Option.map_some, Option.map_none, Option.bind_some, Option.bind_none, cond_true, cond_false, binV, unV, fieldV, loadV, sto, cellsAV, newF, newL, Fr.map, Loc.kill, Loc.set, AO.kill, AV.kill, AV.mapN, AV.mapNL, List.filter_nil, List.filter_cons, allP, EndV, retV, resV, resL, frz, dropL, AV.pick, nilV, tupV, imp_self, ne_eq, Int.cast_ofNat_Int, Int.reduceLT, Int.reduceToNat, List.getD_cons_zero, List.getD_cons_succ, bsliceV, buildV, afill, repl, chunk, rvs, AV.rv, RV.nrm, List.getElem?_nil, List.append_assoc, Nat.reduceMul, Nat.reducePow, Nat.zero_lt_succ, Nat.zero_add, Nat.add_zero, List.length_cons, List.length_nil, Nat.reduceLeDiff, Nat.le_refl, List.take_succ_cons, List.take_zero, List.drop_succ_cons, List.drop_zero, indexV, lenV, rowOf_mapD, rowOf_mapI, rowOf_mapA, List.length_map, Int.toNat_natCast, List.getElem?_cons_zero, List.getElem?_cons_succ, and_self, implies_true, if_true, if_false, HQ_zn, HQ_zr, HQ_wn, HQ_wr, AV.nz, AV.nzL, RV.nrm, SEbin, SEnil, nilK, srcV, dstV, appName, List.length_append, Nat.mul_one, take_map_len, take_map_app, List.getElem?_cons_zero, List.map_append, SEmkmap, SEmset, mgetV, kvOf, getM, setM, c33, r33, u33_1]) | (with_reducible refine And.intro ?_ ?_) | (refine call_ro e47 ( word_p s 16 (by decide)) rfl ?_ ?_ ?_ ?_) | (refine gcall_ro e47 ( word_p s 16 (by decide)) rfl ?_ ?_ ?_ ?_) | (refine dcall_ro e47 ( word_p s 16 (by decide)) rfl ?_ ?_ ?_ ?_) | (refine gdcall_ro rfl e47 ( word_p s 16 (by decide)) rfl ?_ ?_ ?_ ?_) | (refine EndX.plain ?_) | (refine nil_split (fun hn => ?_) (fun hn => ?_)) | (refine gcall_no not_false ?_) | (refine gdcall_no not_false ?_) | (refine GuardS_of _ _ _ _ _ _ (fun hg => ?_) (fun hg => ?_)) | (refine GuardD_of _ _ _ _ (fun hg => ?_) (fun hg => ?_)) | (refine CondB_of _ _ _ _ _ _ _ ?_ (fun hg => ?_) (fun hg => ?_)))
  all_goals (try (first | ((first | unfold noN | unfold Fr.below | unfold Loc.below); simp [Fr.allN, AV.allN, AV.allNL, AO.allN]; done) | rfl | trivial | assumption | (intro row hrow; simp only [List.mem_map] at hrow; obtain ⟨x, _, rfl⟩ := hrow; rfl) | (refine Wk.keep hcl ?_ ?_ ?_; (focus (simp [Fr.get] <;> fail)); (focus (simp [sto] <;> fail)); (focus (simp <;> fail))) | (simp [allP, opd, Fr.get, Fr.below, Fr.allN, AV.allN, AV.allNL, Loc.below, AO.allN, noN, killO, killT, killD, mkNames, AO.kill, AV.kill, AV.mapN, AV.mapNL]; done) | (with_reducible exact ltD (by assumption)) | omega | (simp only [decide_eq_true_eq, decide_eq_false_iff_not] at *; omega)))
theorem rule_p (x : ByteArray) (f d : Int) : Pure Try.prog 39 [.agg [.d (.v (.string x)), I f, I d]] (I (ruleF x f d)) := by
  refine pure_of follows Try.func39 c39_eq r39 (Nat.le_of_ble_eq_true rfl) fun B σ hcl hsz => ?_
  clear hsz
  repeat' (first | (simp -implicitDefEqProofs only [*, contN, contC, Nat.reduceBEq, Bool.or_false, Bool.or_true, Bool.false_or, Bool.true_or, Bool.not_true, Bool.not_false, w_skip, w_ret, w_exit, w_reg, w_dreg, w_seq, SK_n, SK_r, SK_x, w_keep, w_block, w_cond, w_nil, w_cons, w_consg, w_nnil, w_ncons, w_dnil, w_dcons, w_dconsg, HK_app, HD_app, HQ_n, HQ_r, HQ_x, HQ_bn, HQ_br, HQ_bx, HQ_en, HQ_er, HQ_ex, CondB_true, CondB_false, SO1, w_sdv, SDe_alloc, SDe_box, SDe_bslice, SDe_app, true_imp_iff, false_imp_iff, and_false, false_and, not_false_eq_true, not_true_eq_false, addN, mkNames, killT, killD, killO, List.foldl_nil, List.foldl_cons, List.append_nil, List.nil_append, List.cons_append, GuardS_true, GuardS_false, GuardD_true, GuardD_false, DK_true, DK_false, lt_self_add, le_self_add, decide_true, decide_false, Bool.false_eq_true, Bool.true_eq_false, Nat.add_left_cancel_iff, SE, SEalloc, SEbox, SEstore, w_bs, SEbl, SEfz, SEbs0, fzName, osOf, AV.fz1, w_app, w_mk, aev, opd, Fr.get, putO, Fr.norm, List.map_cons, List.map_nil, with1, with2, onInt, AV.lit, entry, ↓reduceIte, Nat.reduceEqDiff, Nat.reduceAdd, reduceCtorEq, true_and, and_true, Option.map_some, Option.map_none, Option.bind_some, Option.bind_none, cond_true, cond_false, binV, unV, fieldV, loadV, sto, cellsAV, newF, newL, Fr.map, Loc.kill, Loc.set, AO.kill, AV.kill, AV.mapN, AV.mapNL, List.filter_nil, List.filter_cons, allP, EndV, retV, resV, resL, frz, dropL, AV.pick, nilV, tupV, imp_self, ne_eq, Int.cast_ofNat_Int, Int.reduceLT, Int.reduceToNat, List.getD_cons_zero, List.getD_cons_succ, bsliceV, buildV, afill, repl, chunk, rvs, AV.rv, RV.nrm, List.getElem?_nil, List.append_assoc, Nat.reduceMul, Nat.reducePow, Nat.zero_lt_succ, Nat.zero_add, Nat.add_zero, List.length_cons, List.length_nil, Nat.reduceLeDiff, Nat.le_refl, List.take_succ_cons, List.take_zero, List.drop_succ_cons, List.drop_zero, indexV, lenV, rowOf_mapD, rowOf_mapI, rowOf_mapA, List.length_map, Int.toNat_natCast, List.getElem?_cons_zero, List.getElem?_cons_succ, and_self, implies_true, if_true, if_false, HQ_zn, HQ_zr, HQ_wn, HQ_wr, AV.nz, AV.nzL, RV.nrm, SEbin, SEnil, nilK, srcV, dstV, appName, List.length_append, Nat.mul_one, take_map_len, take_map_app, List.getElem?_cons_zero, List.map_append, SEmkmap, SEmset, mgetV, kvOf, getM, setM, c39, r39, u39_1, u39_2, v39_3, v39_4, v39_5, v39_6, u39_7, u39_8, u39_9, u39_10, u39_11, u39_12, u39_13, u39_14, ty61, ty9, ty3]) | (with_reducible refine And.intro ?_ ?_) | (refine call_ro e49 (letters_p x (by have := of_decide_eq_false (by assumption : decide ((x.size : Int) > 16) = false); omega)) rfl ?_ ?_ ?_ ?_) | (refine EndX.plain ?_) | (refine nil_split (fun hn => ?_) (fun hn => ?_)) | (refine gcall_no not_false ?_) | (refine gdcall_no not_false ?_) | (refine GuardS_of _ _ _ _ _ _ (fun hg => ?_) (fun hg => ?_)) | (refine GuardD_of _ _ _ _ (fun hg => ?_) (fun hg => ?_)) | (refine CondB_of _ _ _ _ _ _ _ ?_ (fun hg => ?_) (fun hg => ?_)))
  all_goals (try (first | ((first | unfold noN | unfold Fr.below | unfold Loc.below); simp [Fr.allN, AV.allN, AV.allNL, AO.allN]; done) | rfl | trivial | assumption | (intro row hrow; simp only [List.mem_map] at hrow; obtain ⟨x, _, rfl⟩ := hrow; rfl) | (refine Wk.keep hcl ?_ ?_ ?_; (focus (simp [Fr.get] <;> fail)); (focus (simp [sto] <;> fail)); (focus (simp <;> fail))) | (simp [allP, opd, Fr.get, Fr.below, Fr.allN, AV.allN, AV.allNL, Loc.below, AO.allN, noN, killO, killT, killD, mkNames, AO.kill, AV.kill, AV.mapN, AV.mapNL]; done) | (with_reducible exact ltD (by assumption)) | omega | (simp only [decide_eq_true_eq, decide_eq_false_iff_not] at *; omega)))
  all_goals (try (simp only [Bool.not_eq_true', Bool.not_eq_false'] at *))
  all_goals (simp only [ruleF, *, cond_true, cond_false])
  all_goals first
    | done
    | (rw [inR_no1 (by assumption)] <;> rfl)
    | (rw [inR_no2 (by assumption)] <;> rfl)
    | (rw [inR_yes (by assumption : decide (f < -1) = false) (by assumption), inR_no1 (by assumption)] <;> rfl)
    | (rw [inR_yes (by assumption : decide (f < -1) = false) (by assumption), inR_no2 (by assumption)] <;> rfl)
    | (rw [inR_yes (by assumption : decide (f < -1) = false) (by assumption), inR_yes (by assumption : decide (d < -1) = false) (by assumption)] <;> rfl)
theorem ruleR_p (x : ByteArray) (f d : Int) : Pure Try.prog 30 [.agg [.d (.v (.string x)), I f, I d]] (I (ruleF x f d)) := by
  refine pure_of follows Try.func30 c30_eq r30 (Nat.le_of_ble_eq_true rfl) fun B σ hcl hsz => ?_
  clear hsz
  repeat' (first | (simp -implicitDefEqProofs only [*, contN, contC, Nat.reduceBEq, Bool.or_false, Bool.or_true, Bool.false_or, Bool.true_or, Bool.not_true, Bool.not_false, w_skip, w_ret, w_exit, w_reg, w_dreg, w_seq, SK_n, SK_r, SK_x, w_keep, w_block, w_cond, w_nil, w_cons, w_consg, w_nnil, w_ncons, w_dnil, w_dcons, w_dconsg, HK_app, HD_app, HQ_n, HQ_r, HQ_x, HQ_bn, HQ_br, HQ_bx, HQ_en, HQ_er, HQ_ex, CondB_true, CondB_false, SO1, w_sdv, SDe_alloc, SDe_box, SDe_bslice, SDe_app, true_imp_iff, false_imp_iff, and_false, false_and, not_false_eq_true, not_true_eq_false, addN, mkNames, killT, killD, killO, List.foldl_nil, List.foldl_cons, List.append_nil, List.nil_append, List.cons_append, GuardS_true, GuardS_false, GuardD_true, GuardD_false, DK_true, DK_false, lt_self_add, le_self_add, decide_true, decide_false, Bool.false_eq_true, Bool.true_eq_false, Nat.add_left_cancel_iff, SE, SEalloc, SEbox, SEstore, w_bs, SEbl, SEfz, SEbs0, fzName, osOf, AV.fz1, w_app, w_mk, aev, opd, Fr.get, putO, Fr.norm, List.map_cons, List.map_nil, with1, with2, onInt, AV.lit, entry, ↓reduceIte, Nat.reduceEqDiff, Nat.reduceAdd, reduceCtorEq, true_and, and_true, Option.map_some, Option.map_none, Option.bind_some, Option.bind_none, cond_true, cond_false, binV, unV, fieldV, loadV, sto, cellsAV, newF, newL, Fr.map, Loc.kill, Loc.set, AO.kill, AV.kill, AV.mapN, AV.mapNL, List.filter_nil, List.filter_cons, allP, EndV, retV, resV, resL, frz, dropL, AV.pick, nilV, tupV, imp_self, ne_eq, Int.cast_ofNat_Int, Int.reduceLT, Int.reduceToNat, List.getD_cons_zero, List.getD_cons_succ, bsliceV, buildV, afill, repl, chunk, rvs, AV.rv, RV.nrm, List.getElem?_nil, List.append_assoc, Nat.reduceMul, Nat.reducePow, Nat.zero_lt_succ, Nat.zero_add, Nat.add_zero, List.length_cons, List.length_nil, Nat.reduceLeDiff, Nat.le_refl, List.take_succ_cons, List.take_zero, List.drop_succ_cons, List.drop_zero, indexV, lenV, rowOf_mapD, rowOf_mapI, rowOf_mapA, List.length_map, Int.toNat_natCast, List.getElem?_cons_zero, List.getElem?_cons_succ, and_self, implies_true, if_true, if_false, HQ_zn, HQ_zr, HQ_wn, HQ_wr, AV.nz, AV.nzL, RV.nrm, SEbin, SEnil, nilK, srcV, dstV, appName, List.length_append, Nat.mul_one, take_map_len, take_map_app, List.getElem?_cons_zero, List.map_append, SEmkmap, SEmset, mgetV, kvOf, getM, setM, c30, r30, u30_1, u30_2, u30_3, u30_4, v30_5, v30_6, u30_7, u30_8, u30_9, u30_10, u30_11, u30_12, ty61, ty9, ty3]) | (with_reducible refine And.intro ?_ ?_) | (refine call_ro e17 ( In_p f _ _) rfl ?_ ?_ ?_ ?_) | (refine gcall_ro e17 ( In_p f _ _) rfl ?_ ?_ ?_ ?_) | (refine dcall_ro e17 ( In_p f _ _) rfl ?_ ?_ ?_ ?_) | (refine gdcall_ro rfl e17 ( In_p f _ _) rfl ?_ ?_ ?_ ?_) | (refine call_ro e17 ( In_p d _ _) rfl ?_ ?_ ?_ ?_) | (refine gcall_ro e17 ( In_p d _ _) rfl ?_ ?_ ?_ ?_) | (refine dcall_ro e17 ( In_p d _ _) rfl ?_ ?_ ?_ ?_) | (refine gdcall_ro rfl e17 ( In_p d _ _) rfl ?_ ?_ ?_ ?_) | (refine call_ro e48 (plain_p x (by have := of_decide_eq_false (by assumption : decide ((x.size : Int) > 16) = false); omega)) rfl ?_ ?_ ?_ ?_) | (refine EndX.plain ?_) | (refine nil_split (fun hn => ?_) (fun hn => ?_)) | (refine gcall_no not_false ?_) | (refine gdcall_no not_false ?_) | (refine GuardS_of _ _ _ _ _ _ (fun hg => ?_) (fun hg => ?_)) | (refine GuardD_of _ _ _ _ (fun hg => ?_) (fun hg => ?_)) | (refine CondB_of _ _ _ _ _ _ _ ?_ (fun hg => ?_) (fun hg => ?_)))
  all_goals (try (first | ((first | unfold noN | unfold Fr.below | unfold Loc.below); simp [Fr.allN, AV.allN, AV.allNL, AO.allN]; done) | rfl | trivial | assumption | (intro row hrow; simp only [List.mem_map] at hrow; obtain ⟨x, _, rfl⟩ := hrow; rfl) | (refine Wk.keep hcl ?_ ?_ ?_; (focus (simp [Fr.get] <;> fail)); (focus (simp [sto] <;> fail)); (focus (simp <;> fail))) | (simp [allP, opd, Fr.get, Fr.below, Fr.allN, AV.allN, AV.allNL, Loc.below, AO.allN, noN, killO, killT, killD, mkNames, AO.kill, AV.kill, AV.mapN, AV.mapNL]; done) | (with_reducible exact ltD (by assumption)) | omega | (simp only [decide_eq_true_eq, decide_eq_false_iff_not] at *; omega)))
  all_goals (try (simp only [Bool.not_eq_true', Bool.not_eq_false'] at *))
  all_goals (try (simp only [ruleF, *, cond_true, cond_false, Bool.false_or, Bool.true_or, Bool.or_true, Bool.or_false, Bool.and_true, Bool.true_and, Bool.false_and, Bool.and_false, Bool.not_true, Bool.not_false, cond_true, cond_false]; done))
end Go.Proofs.Ytobbkfldjemgkaa
