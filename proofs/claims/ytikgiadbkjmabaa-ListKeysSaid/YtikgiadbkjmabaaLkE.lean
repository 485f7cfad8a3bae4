/- What package list asks ahead of its work,its rows and pages;the document's too. -/
import Derived.Test.YtikgiadbkjmabaaStD
import Derived.Test.YtikgiadbkjmabaaFindB
import Derived.Test.YtikgiadbkjmabaaChk
import Derived.Test.YtikgiadbkjmabaaIdx
import Derived.Test.YtikgiadbkjmabaaMay
import Derived.Test.YtikgiadbkjmabaaMayP
import Derived.Test.YtikgiadbkjmabaaTypes
namespace Go.Proofs.Ytikgiadbkjmabaa
open Go.RowKit
set_option maxRecDepth 100000
def o41_1:List SO:=((SO.mk (some 15) (.load 54 (.tmp 14)) none) :: (SO.mk (some 16) (.callv (.tmp 11) [(.tmp 15)]) none) :: [])
theorem v41_1:type_of% (@swl _ _ o41_1.eq_1):=@swl _ _ o41_1.eq_1
def c41_2:SC:=(.seq (.reg [SO.mk (some 17) (.move (.tmp 5)) none,SO.mk (some 4) (.move (.tmp 17)) none]) (.keep [4] .ret))
theorem u41_2:type_of% (@swc _ _ c41_2.eq_1):=@swc _ _ c41_2.eq_1
def c41_3:SC:=(.cond (.tmp 16) c41_2 .skip)
theorem u41_3:type_of% (@swc _ _ c41_3.eq_1):=@swc _ _ c41_3.eq_1
def c41_4:SC:=(.seq (.reg ((SO.mk (some 11) (.move (.tmp 1)) none) :: (SO.mk (some 12) (.move (.tmp 0)) none) :: (SO.mk (some 13) (.move (.tmp 5)) none) :: (SO.mk (some 14) (.iaddr 22 (.tmp 12) (.tmp 13)) none) :: o41_1)) (.keep [16,5,8,7,0,1] c41_3))
theorem u41_4:type_of% (@swc _ _ c41_4.eq_1):=@swc _ _ c41_4.eq_1
def c41_5:SC:=(.reg [SO.mk (some 18) (.bin .add 3 (.tmp 8) (.const (Value.int .i64 1))) none,SO.mk (some 8) (.move (.tmp 18)) none])
theorem u41_5:type_of% (@swc _ _ c41_5.eq_1):=@swc _ _ c41_5.eq_1
def c41_6:SC:=(.seq (.block 1 (.seq (.reg [SO.mk (some 10) (.move (.tmp 8)) none,SO.mk (some 5) (.move (.tmp 10)) none]) (.keep [5,8,7,0,1] c41_4))) (.keep [8,7,0,1] c41_5))
theorem u41_6:type_of% (@swc _ _ c41_6.eq_1):=@swc _ _ c41_6.eq_1
def c41_7:SC:=(.seq (.cond (.tmp 9) .skip (.exit 0)) (.keep [8,7,0,1] c41_6))
theorem u41_7:type_of% (@swc _ _ c41_7.eq_1):=@swc _ _ c41_7.eq_1
def c41_8:SC:=(.seq (.reg [SO.mk (some 9) (.bin .lss 3 (.tmp 8) (.tmp 7)) none]) (.keep [9,1,0,7,8] c41_7))
theorem u41_8:type_of% (@swc _ _ c41_8.eq_1):=@swc _ _ c41_8.eq_1
def c41_9:SC:=(.block 0 (.loop (.keep [1,0,7,8] c41_8)))
theorem u41_9:type_of% (@swc _ _ c41_9.eq_1):=@swc _ _ c41_9.eq_1
def c41_10:SC:=(.seq (.reg [SO.mk (some 4) (.move (.const (Value.int .i64 (-1)))) none]) (.keep [4] .ret))
theorem u41_10:type_of% (@swc _ _ c41_10.eq_1):=@swc _ _ c41_10.eq_1
def c41_11:SC:=(.seq (.seq (.reg [SO.mk (some 6) (.move (.tmp 0)) none,SO.mk (some 7) (.len 22 (.tmp 6)) none,SO.mk (some 8) (.move (.const (Value.int .i64 0))) none]) (.keep [1,0,7,8] c41_9)) (.keep [] c41_10))
theorem u41_11:type_of% (@swc _ _ c41_11.eq_1):=@swc _ _ c41_11.eq_1
def c41:SC:=(.seq (.reg [SO.mk (some 4) (.move (.const (Value.int .i64 0))) none]) (.keep [1,0] c41_11))
theorem c41_eq:annC Try.f41 = some c41:=by kernel_rfl
theorem r41:Try.f41.results.toList = [.tmp 4]:=by kernel_rfl
theorem e41:enters Try.prog 41 = true:=by kernel_rfl
def c19_1:SC:=(.seq (.reg [SO.mk (some 5) (.move (.tmp 0)) none,SO.mk (some 6) (.move (.tmp 1)) none,SO.mk (some 7) (.call 41 [(.tmp 5),(.tmp 6)]) none,SO.mk (some 8) (.bin .geq 3 (.tmp 7) (.const (Value.int .i64 0))) none,SO.mk (some 4) (.move (.tmp 8)) none]) (.keep [4] .ret))
theorem u19_1:type_of% (@swc _ _ c19_1.eq_1):=@swc _ _ c19_1.eq_1
def c19:SC:=(.seq (.reg [SO.mk (some 4) (.move (.const (Value.bool false))) none]) (.keep [0,1] c19_1))
theorem c19_eq:annC Try.f19 = some c19:=by kernel_rfl
theorem r19:Try.f19.results.toList = [.tmp 4]:=by kernel_rfl
theorem e19:enters Try.prog 19 = true:=by kernel_rfl
def c20_1:SC:=(.seq (.reg [SO.mk (some 4) (.faddr 54 (.tmp 2) 0) none,SO.mk (some 5) (.load 9 (.tmp 4)) none,SO.mk (some 6) (.load 9 (.tmp 1)) none,SO.mk (some 7) (.bin .eql 9 (.tmp 5) (.tmp 6)) none,SO.mk (some 3) (.move (.tmp 7)) none]) (.keep [3] .ret))
theorem u20_1:type_of% (@swc _ _ c20_1.eq_1):=@swc _ _ c20_1.eq_1
def c20:SC:=(.seq (.reg [SO.mk (some 2) (.box 54 (.tmp 0)) none,SO.mk (some 3) (.move (.const (Value.bool false))) none]) (.keep [2,1] c20_1))
theorem c20_eq:annC Try.f20 = some c20:=by kernel_rfl
theorem r20:Try.f20.results.toList = [.tmp 3]:=by kernel_rfl
def c10_1:SC:=(.seq (.reg [SO.mk (some 15) (.move (.tmp 9)) none,SO.mk (some 8) (.move (.tmp 15)) none]) (.keep [8] .ret))
theorem u10_1:type_of% (@swc _ _ c10_1.eq_1):=@swc _ _ c10_1.eq_1
def c10_2:SC:=(.cond (.tmp 14) c10_1 .skip)
theorem u10_2:type_of% (@swc _ _ c10_2.eq_1):=@swc _ _ c10_2.eq_1
def c10_3:SC:=(.seq (.reg [SO.mk (some 13) (.move (.tmp 9)) none,SO.mk (some 14) (.bin .neq 30 (.tmp 13) (.const (Value.int .i64 0))) none]) (.keep [14,9,4,5,2,3] c10_2))
theorem u10_3:type_of% (@swc _ _ c10_3.eq_1):=@swc _ _ c10_3.eq_1
def c10_4:SC:=(.seq (.reg [SO.mk (some 8) (.move (.const (Value.int .i64 6))) none]) (.keep [8] .ret))
theorem u10_4:type_of% (@swc _ _ c10_4.eq_1):=@swc _ _ c10_4.eq_1
def c10_5:SC:=(.cond (.tmp 20) c10_4 .skip)
theorem u10_5:type_of% (@swc _ _ c10_5.eq_1):=@swc _ _ c10_5.eq_1
def c10_6:SC:=(.seq (.reg [SO.mk (some 26) (.move (.tmp 10)) none,SO.mk (some 8) (.move (.tmp 26)) none]) (.keep [8] .ret))
theorem u10_6:type_of% (@swc _ _ c10_6.eq_1):=@swc _ _ c10_6.eq_1
def c10_7:SC:=(.cond (.tmp 25) c10_6 .skip)
theorem u10_7:type_of% (@swc _ _ c10_7.eq_1):=@swc _ _ c10_7.eq_1
def c10_8:SC:=(.seq (.reg [SO.mk (some 24) (.move (.tmp 10)) none,SO.mk (some 25) (.bin .neq 30 (.tmp 24) (.const (Value.int .i64 0))) none]) (.keep [25,10,3] c10_7))
theorem u10_8:type_of% (@swc _ _ c10_8.eq_1):=@swc _ _ c10_8.eq_1
def o10_9:List SO:=((SO.mk (some 31) (.bin .gtr 3 (.tmp 30) (.const (Value.int .i64 50))) (some (29 ,false))) :: (SO.mk (some 32) (.pick (.tmp 29) (.const (Value.bool true)) (.tmp 31)) none) :: [])
theorem v10_9:type_of% (@swl _ _ o10_9.eq_1):=@swl _ _ o10_9.eq_1
def c10_10:SC:=(.seq (.reg [SO.mk (some 8) (.move (.const (Value.int .i64 2))) none]) (.keep [8] .ret))
theorem u10_10:type_of% (@swc _ _ c10_10.eq_1):=@swc _ _ c10_10.eq_1
def c10_11:SC:=(.cond (.tmp 32) c10_10 .skip)
theorem u10_11:type_of% (@swc _ _ c10_11.eq_1):=@swc _ _ c10_11.eq_1
def c10_12:SC:=(.seq (.reg [SO.mk (some 8) (.move (.const (Value.int .i64 0))) none]) (.keep [8] .ret))
theorem u10_12:type_of% (@swc _ _ c10_12.eq_1):=@swc _ _ c10_12.eq_1
def c10_13:SC:=(.seq (.seq (.reg ((SO.mk (some 27) (.move (.tmp 3)) none) :: (SO.mk (some 28) (.bin .lss 3 (.tmp 27) (.const (Value.int .i64 1))) none) :: (SO.mk (some 29) (.move (.tmp 28)) none) :: (SO.mk (some 30) (.move (.tmp 3)) (some (29 ,false))) :: o10_9)) (.keep [32] c10_11)) (.keep [] c10_12))
theorem u10_13:type_of% (@swc _ _ c10_13.eq_1):=@swc _ _ c10_13.eq_1
def c10_14:SC:=(.seq (.seq (.reg [SO.mk (some 21) (.move (.tmp 2)) none,SO.mk (some 22) (.build 52 [(0 ,(.tmp 21))]) none,SO.mk (some 23) (.call 21 [(.tmp 22)]) none,SO.mk (some 10) (.move (.tmp 23)) none]) (.keep [10,3] c10_8)) (.keep [3] c10_13))
theorem u10_14:type_of% (@swc _ _ c10_14.eq_1):=@swc _ _ c10_14.eq_1
def c10_15:SC:=(.seq (.seq (.reg [SO.mk (some 16) (.faddr 28 (.tmp 4) 2) none,SO.mk (some 17) (.load 22 (.tmp 16)) none,SO.mk (some 18) (.mkfn (.func 20) [] [(.tmp 5)]) none,SO.mk (some 19) (.call 19 [(.tmp 17),(.tmp 18)]) none,SO.mk (some 20) (.un .not (.tmp 19)) none]) (.keep [20,2,3] c10_5)) (.keep [2,3] c10_14))
theorem u10_15:type_of% (@swc _ _ c10_15.eq_1):=@swc _ _ c10_15.eq_1
def c10_16:SC:=(.seq (.seq (.reg [SO.mk (some 11) (.load 28 (.tmp 4)) none,SO.mk (some 12) (.call 18 [(.tmp 11)]) none,SO.mk (some 9) (.move (.tmp 12)) none]) (.keep [9,4,5,2,3] c10_3)) (.keep [4,5,2,3] c10_15))
theorem u10_16:type_of% (@swc _ _ c10_16.eq_1):=@swc _ _ c10_16.eq_1
def c10:SC:=(.seq (.reg [SO.mk (some 4) (.box 28 (.tmp 0)) none,SO.mk (some 5) (.box 9 (.tmp 1)) none,SO.mk (some 8) (.move (.const (Value.int .i64 0))) none]) (.keep [4,5,2,3] c10_16))
theorem c10_eq:annC Try.f10 = some c10:=by kernel_rfl
theorem r10:Try.f10.results.toList = [.tmp 8]:=by kernel_rfl
theorem e10:enters Try.prog 10 = true:=by kernel_rfl
def c14_1:SC:=(.seq (.reg [SO.mk (some 8) (.move (.const (Value.int .i64 9))) none]) (.keep [8] .ret))
theorem u14_1:type_of% (@swc _ _ c14_1.eq_1):=@swc _ _ c14_1.eq_1
def c14_2:SC:=(.cond (.tmp 11) c14_1 .skip)
theorem u14_2:type_of% (@swc _ _ c14_2.eq_1):=@swc _ _ c14_2.eq_1
def c14_3:SC:=(.seq (.reg [SO.mk (some 8) (.move (.const (Value.int .i64 6))) none]) (.keep [8] .ret))
theorem u14_3:type_of% (@swc _ _ c14_3.eq_1):=@swc _ _ c14_3.eq_1
def c14_4:SC:=(.cond (.tmp 15) c14_3 .skip)
theorem u14_4:type_of% (@swc _ _ c14_4.eq_1):=@swc _ _ c14_4.eq_1
def c14_5:SC:=(.seq (.reg [SO.mk (some 8) (.move (.const (Value.int .i64 1))) none]) (.keep [8] .ret))
theorem u14_5:type_of% (@swc _ _ c14_5.eq_1):=@swc _ _ c14_5.eq_1
def c14_6:SC:=(.cond (.tmp 18) c14_5 .skip)
theorem u14_6:type_of% (@swc _ _ c14_6.eq_1):=@swc _ _ c14_6.eq_1
def c14_7:SC:=(.seq (.reg [SO.mk (some 8) (.move (.const (Value.int .i64 4))) none]) (.keep [8] .ret))
theorem u14_7:type_of% (@swc _ _ c14_7.eq_1):=@swc _ _ c14_7.eq_1
def c14_8:SC:=(.cond (.tmp 21) c14_7 .skip)
theorem u14_8:type_of% (@swc _ _ c14_8.eq_1):=@swc _ _ c14_8.eq_1
def c14_9:SC:=(.seq (.reg [SO.mk (some 8) (.move (.const (Value.int .i64 2))) none]) (.keep [8] .ret))
theorem u14_9:type_of% (@swc _ _ c14_9.eq_1):=@swc _ _ c14_9.eq_1
def c14_10:SC:=(.cond (.tmp 24) c14_9 .skip)
theorem u14_10:type_of% (@swc _ _ c14_10.eq_1):=@swc _ _ c14_10.eq_1
def c14_11:SC:=(.seq (.reg [SO.mk (some 8) (.move (.const (Value.int .i64 0))) none]) (.keep [8] .ret))
theorem u14_11:type_of% (@swc _ _ c14_11.eq_1):=@swc _ _ c14_11.eq_1
def c14_12:SC:=(.seq (.seq (.reg [SO.mk (some 22) (.move (.tmp 3)) none,SO.mk (some 23) (.call 34 [(.tmp 22),(.const (Value.int .i64 1)),(.const (Value.int .i64 50))]) none,SO.mk (some 24) (.un .not (.tmp 23)) none]) (.keep [24] c14_10)) (.keep [] c14_11))
theorem u14_12:type_of% (@swc _ _ c14_12.eq_1):=@swc _ _ c14_12.eq_1
def c14_13:SC:=(.seq (.seq (.reg [SO.mk (some 19) (.move (.tmp 2)) none,SO.mk (some 20) (.call 33 [(.tmp 19)]) none,SO.mk (some 21) (.un .not (.tmp 20)) none]) (.keep [21,3] c14_8)) (.keep [3] c14_12))
theorem u14_13:type_of% (@swc _ _ c14_13.eq_1):=@swc _ _ c14_13.eq_1
def c14_14:SC:=(.seq (.seq (.reg [SO.mk (some 16) (.move (.tmp 2)) none,SO.mk (some 17) (.len 9 (.tmp 16)) none,SO.mk (some 18) (.bin .gtr 3 (.tmp 17) (.const (Value.int .i64 16))) none]) (.keep [18,2,3] c14_6)) (.keep [2,3] c14_13))
theorem u14_14:type_of% (@swc _ _ c14_14.eq_1):=@swc _ _ c14_14.eq_1
def c14_15:SC:=(.seq (.seq (.reg [SO.mk (some 12) (.load 28 (.tmp 4)) none,SO.mk (some 13) (.move (.tmp 1)) none,SO.mk (some 14) (.call 32 [(.tmp 12),(.tmp 13)]) none,SO.mk (some 15) (.bin .lss 3 (.tmp 14) (.const (Value.int .i64 0))) none]) (.keep [15,2,3] c14_4)) (.keep [2,3] c14_14))
theorem u14_15:type_of% (@swc _ _ c14_15.eq_1):=@swc _ _ c14_15.eq_1
def c14_16:SC:=(.seq (.seq (.reg [SO.mk (some 9) (.load 28 (.tmp 4)) none,SO.mk (some 10) (.call 31 [(.tmp 9)]) none,SO.mk (some 11) (.un .not (.tmp 10)) none]) (.keep [11,4,1,2,3] c14_2)) (.keep [4,1,2,3] c14_15))
theorem u14_16:type_of% (@swc _ _ c14_16.eq_1):=@swc _ _ c14_16.eq_1
def c14:SC:=(.seq (.reg [SO.mk (some 4) (.box 28 (.tmp 0)) none,SO.mk (some 8) (.move (.const (Value.int .i64 0))) none]) (.keep [4,1,2,3] c14_16))
theorem c14_eq:annC Try.f14 = some c14:=by kernel_rfl
theorem r14:Try.f14.results.toList = [.tmp 8]:=by kernel_rfl
theorem e14:enters Try.prog 14 = true:=by kernel_rfl
def o12_1:List SO:=((SO.mk none (.store 43 (.tmp 4) (.tmp 16)) none) :: [])
theorem v12_1:type_of% (@swl _ _ o12_1.eq_1):=@swl _ _ o12_1.eq_1
def o12_2:List SO:=((SO.mk (some 13) (.load 3 (.tmp 12)) none) :: (SO.mk (some 14) (.faddr 41 (.tmp 2) 7) none) :: (SO.mk (some 15) (.load 3 (.tmp 14)) none) :: (SO.mk (some 16) (.build 43 [(0 ,(.tmp 6)),(2 ,(.tmp 8)),(3 ,(.tmp 10)),(4 ,(.tmp 11)),(5 ,(.tmp 13)),(6 ,(.tmp 15))]) none) :: o12_1)
theorem v12_2:type_of% (@swl _ _ o12_2.eq_1):=@swl _ _ o12_2.eq_1
def o12_3:List SO:=((SO.mk (some 9) (.faddr 41 (.tmp 2) 4) none) :: (SO.mk (some 10) (.load 4 (.tmp 9)) none) :: (SO.mk (some 11) (.move (.tmp 1)) none) :: (SO.mk (some 12) (.faddr 41 (.tmp 2) 5) none) :: o12_2)
theorem v12_3:type_of% (@swl _ _ o12_3.eq_1):=@swl _ _ o12_3.eq_1
def c12_4:SC:=(.seq (.reg ((SO.mk (some 5) (.faddr 41 (.tmp 2) 2) none) :: (SO.mk (some 6) (.load 9 (.tmp 5)) none) :: (SO.mk (some 7) (.faddr 41 (.tmp 2) 0) none) :: (SO.mk (some 8) (.load 3 (.tmp 7)) none) :: o12_3)) (.keep [4] .ret))
theorem u12_4:type_of% (@swc _ _ c12_4.eq_1):=@swc _ _ c12_4.eq_1
def c12:SC:=(.seq (.reg [SO.mk (some 2) (.box 41 (.tmp 0)) none,SO.mk (some 4) (.alloc 43) none]) (.keep [1,2,4] c12_4))
theorem c12_eq:annC Try.f12 = some c12:=by kernel_rfl
theorem r12:Try.f12.results.toList = [.cell 4 43]:=by kernel_rfl
theorem e12:enters Try.prog 12 = true:=by kernel_rfl
def o16_1:List SO:=((SO.mk none (.store 43 (.tmp 4) (.tmp 16)) none) :: [])
theorem v16_1:type_of% (@swl _ _ o16_1.eq_1):=@swl _ _ o16_1.eq_1
def o16_2:List SO:=((SO.mk (some 13) (.load 3 (.tmp 12)) none) :: (SO.mk (some 14) (.faddr 41 (.tmp 2) 7) none) :: (SO.mk (some 15) (.load 3 (.tmp 14)) none) :: (SO.mk (some 16) (.build 43 [(0 ,(.tmp 6)),(2 ,(.tmp 8)),(3 ,(.tmp 10)),(4 ,(.tmp 11)),(5 ,(.tmp 13)),(6 ,(.tmp 15))]) none) :: o16_1)
theorem v16_2:type_of% (@swl _ _ o16_2.eq_1):=@swl _ _ o16_2.eq_1
def o16_3:List SO:=((SO.mk (some 9) (.faddr 41 (.tmp 2) 4) none) :: (SO.mk (some 10) (.load 4 (.tmp 9)) none) :: (SO.mk (some 11) (.move (.tmp 1)) none) :: (SO.mk (some 12) (.faddr 41 (.tmp 2) 5) none) :: o16_2)
theorem v16_3:type_of% (@swl _ _ o16_3.eq_1):=@swl _ _ o16_3.eq_1
def c16_4:SC:=(.seq (.reg ((SO.mk (some 5) (.faddr 41 (.tmp 2) 2) none) :: (SO.mk (some 6) (.load 9 (.tmp 5)) none) :: (SO.mk (some 7) (.faddr 41 (.tmp 2) 0) none) :: (SO.mk (some 8) (.load 3 (.tmp 7)) none) :: o16_3)) (.keep [4] .ret))
theorem u16_4:type_of% (@swc _ _ c16_4.eq_1):=@swc _ _ c16_4.eq_1
def c16:SC:=(.seq (.reg [SO.mk (some 2) (.box 41 (.tmp 0)) none,SO.mk (some 4) (.alloc 43) none]) (.keep [1,2,4] c16_4))
theorem c16_eq:annC Try.f16 = some c16:=by kernel_rfl
theorem r16:Try.f16.results.toList = [.cell 4 43]:=by kernel_rfl
theorem e16:enters Try.prog 16 = true:=by kernel_rfl
def o13_1:List SO:=((SO.mk (some 4) (.move (.tmp 13)) none) :: (SO.mk (some 5) (.move (.const (Value.bool true))) none) :: [])
theorem v13_1:type_of% (@swl _ _ o13_1.eq_1):=@swl _ _ o13_1.eq_1
def c13_2:SC:=(.seq (.reg ((SO.mk (some 10) (.move (.tmp 0)) none) :: (SO.mk (some 11) (.move (.tmp 1)) none) :: (SO.mk (some 12) (.move (.tmp 1)) none) :: (SO.mk (some 13) (.slice3 29 (.tmp 10) none (.tmp 11) (.tmp 12)) none) :: o13_1)) (.keep [4,5] .ret))
theorem u13_2:type_of% (@swc _ _ c13_2.eq_1):=@swc _ _ c13_2.eq_1
def c13_3:SC:=(.cond (.tmp 9) c13_2 .skip)
theorem u13_3:type_of% (@swc _ _ c13_3.eq_1):=@swc _ _ c13_3.eq_1
def c13_4:SC:=(.seq (.reg [SO.mk (some 14) (.move (.tmp 0)) none,SO.mk (some 4) (.move (.tmp 14)) none,SO.mk (some 5) (.move (.const (Value.bool false))) none]) (.keep [4,5] .ret))
theorem u13_4:type_of% (@swc _ _ c13_4.eq_1):=@swc _ _ c13_4.eq_1
def c13_5:SC:=(.seq (.seq (.reg [SO.mk (some 6) (.move (.tmp 0)) none,SO.mk (some 7) (.len 29 (.tmp 6)) none,SO.mk (some 8) (.move (.tmp 1)) none,SO.mk (some 9) (.bin .gtr 3 (.tmp 7) (.tmp 8)) none]) (.keep [9,1,0] c13_3)) (.keep [0] c13_4))
theorem u13_5:type_of% (@swc _ _ c13_5.eq_1):=@swc _ _ c13_5.eq_1
def c13:SC:=(.seq (.reg [SO.mk (some 4) (.move (.const (Value.slice none 0 0))) none,SO.mk (some 5) (.move (.const (Value.bool false))) none]) (.keep [1,0] c13_5))
theorem c13_eq:annC Try.f13 = some c13:=by kernel_rfl
theorem r13:Try.f13.results.toList = [.tmp 4,.tmp 5]:=by kernel_rfl
theorem e13:enters Try.prog 13 = true:=by kernel_rfl
end Go.Proofs.Ytikgiadbkjmabaa
namespace Go.Proofs.Ytikgiadbkjmabaa
open Go.RowKit
set_option maxHeartbeats 4000000
set_option maxRecDepth 20000
attribute [local irreducible] SW OSW SWL SWLn SWD SEcall SEcallv SDv SE SO1 SOg ACalls ACallv Wk EndV
set_option linter.unusedSimpArgs false
set_option linter.unusedVariables false
theorem indexK_p (xs:List BktD) (g:FuncId) (ca:List AV) (p:BktD → Bool) (C:Sto → Prop) (hb:∀ (B:Nat) (σ:Sto),C σ → ClosedS B σ → AV.allNL (fun m=>decide (m < B + 100000)) ca = true) (hf:∀ i,i < xs.length → PurevC C Try.prog (.clo (.func g) [] ca) [(fun b:BktD=>AV.agg (b.row.map .d)) xs[i]!] (Bo (p xs[i]!))) :
    PureC C Try.prog 41 [.d (.ro (xs.map BktD.row)),.clo (.func g) [] ca] (I (idxI xs p)):=by
  refine pure_ofC follows Try.func41 c41_eq r41 (Nat.le_of_ble_eq_true rfl) fun B σ hC hcl hsz=>?_
  have hlen:xs.length ≤ 2 ^ 47:=by simpa using (show Sized (.ro (xs.map BktD.row)) from hsz (.d (.ro (xs.map BktD.row))) (by simp)).len
  have hca:=hb B σ hC hcl
  clear hsz
  simp -implicitDefEqProofs only [contN,contC,Nat.reduceBEq,Bool.or_false,Bool.or_true,Bool.false_or,Bool.true_or,Bool.not_true,Bool.not_false,SEconv,w_skip,w_ret,w_exit,w_reg,w_dreg,w_oreg,HO_app,w_odone,w_onil,w_ofst,w_obr,w_seq,SK_n,SK_r,SK_x,w_keep,w_block,w_cond,w_nil,w_cons,w_consg,w_nnil,w_ncons,w_dnil,w_dcons,w_dconsg,HK_app,HD_app,HQ_n,HQ_r,HQ_x,HQ_bn,HQ_br,HQ_bx,HQ_en,HQ_er,HQ_ex,CondB_true,CondB_false,SO1,w_sdv,SDe_alloc,SDe_box,SDe_bslice,SDe_app,true_imp_iff,false_imp_iff,and_false,false_and,not_false_eq_true,not_true_eq_false,addN,mkNames,killT,killD,killO,List.foldl_nil,List.foldl_cons,List.append_nil,List.nil_append,List.cons_append,GuardS_true,GuardS_false,GuardD_true,GuardD_false,DK_true,DK_false,lt_self_add,le_self_add,decide_true,decide_false,Bool.false_eq_true,Bool.true_eq_false,Nat.add_left_cancel_iff,SE,SEalloc,SEbox,SEstore,w_bs,SEbl,SEfz,SEbs0,fzName,osOf,AV.fz1,w_app,w_mk,aev,opd,Fr.get,putO,Fr.norm,List.map_cons,List.map_nil,with1,with2,onInt,AV.lit,entry,↓reduceIte,Nat.reduceEqDiff,Nat.reduceAdd,reduceCtorEq,true_and,and_true,Option.map_some,Option.map_none,Option.bind_some,Option.bind_none,cond_true,cond_false,binV,unV,fieldV,loadV,sto,cellsAV,newF,newL,Fr.map,Loc.kill,Loc.set,AO.kill,AV.kill,AV.mapN,AV.mapNL,List.filter_nil,List.filter_cons,allP,EndV,retV,resV,resL,frz,dropL,AV.pick,nilV,tupV,imp_self,ne_eq,Int.cast_ofNat_Int,Int.reduceLT,Int.reduceToNat,List.getD_cons_zero,List.getD_cons_succ,bsliceV,buildV,afill,repl,chunk,rvs,AV.rv,RV.nrm,List.getElem?_nil,List.append_assoc,Nat.reduceMul,Nat.reducePow,Nat.zero_lt_succ,Nat.zero_add,Nat.add_zero,List.length_cons,List.length_nil,Nat.reduceLeDiff,Nat.le_refl,List.take_succ_cons,List.take_zero,List.drop_succ_cons,List.drop_zero,indexV,lenV,rowOf_mapD,rowOf_mapI,rowOf_mapA,List.length_map,Int.toNat_natCast,List.getElem?_cons_zero,List.getElem?_cons_succ,and_self,implies_true,if_true,if_false,HQ_zn,HQ_zr,HQ_wn,HQ_wr,AV.nz,AV.nzL,RV.nrm,SEbin,SEnil,nilK,srcV,dstV,appName,List.length_append,Nat.mul_one,take_map_len,take_map_app,List.getElem?_cons_zero,List.map_append,SEmkmap,SEmset,mgetV,kvOf,getM,setM,w_bsH,SEapA,SEapB,bsliceA,SEclr,nilIn,nilIn.nilC,c41,r41,v41_1,u41_2,u41_3,u41_4,u41_5,u41_6,u41_7,u41_8,u41_9,u41_10,u41_11,ty22,ty3,ty54,BktD.row]
  refine loop_nat xs.length (fun k=>∀ i,i < k → p xs[i]! = false) (fun k=>[(1,.clo (.func g) [] ca),(0,.d (.ro (xs.map BktD.row))),(7,I xs.length),(8,I k)]) (fun k=>[]) (by simp) (Wk.keep hcl (by simp [Fr.get]) (by simp) (by simp)) fun k hk hF=>?_
  have hw:IntKind.i64.wrap ((k:Int) + 1) = (k:Int) + 1:=IntWalk.i64_in _ (by omega)
  repeat' (first | (simp -implicitDefEqProofs only [*,Nat.reduceBEq,↓reduceIte,Nat.reduceEqDiff,Nat.reduceAdd,reduceCtorEq,AO.kill,Int.reduceLT,Int.reduceToNat,List.getElem?_nil,Nat.reduceMul,Nat.reducePow,Nat.reduceLeDiff,rowOf_mapD,rowOf_mapI,rowOf_mapA,List.getElem?_cons_zero,List.getElem?_cons_succ,take_map_len,take_map_app,List.getElem?_cons_zero,c41,r41,v41_1,u41_2,u41_3,u41_4,u41_5,u41_6,u41_7,u41_8,u41_9,u41_10,u41_11,ty22,ty3,ty54,BktD.row,mvcgen_simp]) | (with_reducible refine And.intro ?_ ?_) | (refine callv_roC ( hf k (ltD hg)) rfl rfl ?_ ?_ ?_ ?_ ?_ ?_) | (refine EndX.plain ?_) | (refine nil_split (fun hn=>?_) (fun hn=>?_)) | (refine gcall_no not_false ?_) | (refine gdcall_no not_false ?_) | (refine GuardS_of _ _ _ _ _ _ (fun hg=>?_) (fun hg=>?_)) | (refine GuardD_of _ _ _ _ (fun hg=>?_) (fun hg=>?_)) | (refine CondB_of _ _ _ _ _ _ _ ?_ (fun hg=>?_) (fun hg=>?_)))
  all_goals (try (first | ((first | unfold noN | unfold Fr.below | unfold Loc.below);simp [Fr.allN,AV.allN,AV.allNL,AO.allN];done) | rfl | trivial | assumption | (intro row hrow;simp only [List.mem_map] at hrow;obtain ⟨x,_,rfl⟩:=hrow;rfl) | (refine Wk.keep hcl ?_ ?_ ?_;(focus (simp [Fr.get,BktD.row]<;>fail));(focus (simp [sto,BktD.row]<;>fail));(focus (simp<;>fail))) | (simp [allP,opd,Fr.get,Fr.below,Fr.allN,AV.allN,AV.allNL,Loc.below,AO.allN,noN,killO,killT,killD,mkNames,AO.kill,AV.kill,AV.mapN,AV.mapNL];done) | (with_reducible exact ltD (by assumption)) | omega | (simp only [decide_eq_true_eq,decide_eq_false_iff_not] at *;omega)))
  all_goals (try (first | exact hC | exact ltD (by assumption) | omega | exact hca | (simp [Fr.below,Fr.allN,AV.allN,AV.allNL,Loc.below,hca];done)))
  all_goals (first | (rw [idxI_some (ltD (by assumption)) (by assumption) hF];done) | (rw [idxI_none (geD (by assumption)) hk hF];done) | (have:=ltD (by assumption);omega) | skip)
  all_goals (
    intro i hi
    rcases Nat.lt_or_ge i k with h | h
    · exact hF i h
    · have:i = k:=by omega
      subst this;assumption)
theorem containsK_p (xs:List BktD) (g:FuncId) (ca:List AV) (p:BktD → Bool) (C:Sto → Prop) (hb:∀ (B:Nat) (σ:Sto),C σ → ClosedS B σ → AV.allNL (fun m=>decide (m < B + 100000)) ca = true) (hf:∀ i,i < xs.length → PurevC C Try.prog (.clo (.func g) [] ca) [(fun b:BktD=>AV.agg (b.row.map .d)) xs[i]!] (Bo (p xs[i]!))) :
    PureC C Try.prog 19 [.d (.ro (xs.map BktD.row)),.clo (.func g) [] ca] (Bo (xs.any p)):=by
  refine pure_ofC follows Try.func19 c19_eq r19 (Nat.le_of_ble_eq_true rfl) fun B σ hC hcl hsz=>?_
  have hca:=hb B σ hC hcl
  clear hsz
  repeat' (first | (simp -implicitDefEqProofs only [*,Nat.reduceBEq,↓reduceIte,Nat.reduceEqDiff,Nat.reduceAdd,reduceCtorEq,AO.kill,Int.reduceLT,Int.reduceToNat,List.getElem?_nil,Nat.reduceMul,Nat.reducePow,Nat.reduceLeDiff,rowOf_mapD,rowOf_mapI,rowOf_mapA,List.getElem?_cons_zero,List.getElem?_cons_succ,take_map_len,take_map_app,List.getElem?_cons_zero,c19,r19,u19_1,ty3,mvcgen_simp]) | (with_reducible refine And.intro ?_ ?_) | (refine call_roC e41 ( indexK_p xs g ca p C hb hf) rfl ?_ ?_ ?_ ?_ ?_) | (refine EndX.plain ?_) | (refine nil_split (fun hn=>?_) (fun hn=>?_)) | (refine gcall_no not_false ?_) | (refine gdcall_no not_false ?_) | (refine GuardS_of _ _ _ _ _ _ (fun hg=>?_) (fun hg=>?_)) | (refine GuardD_of _ _ _ _ (fun hg=>?_) (fun hg=>?_)) | (refine CondB_of _ _ _ _ _ _ _ ?_ (fun hg=>?_) (fun hg=>?_)))
  all_goals (try (first | ((first | unfold noN | unfold Fr.below | unfold Loc.below);simp [Fr.allN,AV.allN,AV.allNL,AO.allN];done) | rfl | trivial | assumption | (intro row hrow;simp only [List.mem_map] at hrow;obtain ⟨x,_,rfl⟩:=hrow;rfl) | (refine Wk.keep hcl ?_ ?_ ?_;(focus (simp [Fr.get]<;>fail));(focus (simp [sto]<;>fail));(focus (simp<;>fail))) | (simp [allP,opd,Fr.get,Fr.below,Fr.allN,AV.allN,AV.allNL,Loc.below,AO.allN,noN,killO,killT,killD,mkNames,AO.kill,AV.kill,AV.mapN,AV.mapNL];done) | (with_reducible exact ltD (by assumption)) | omega | (simp only [decide_eq_true_eq,decide_eq_false_iff_not] at *;omega)))
  all_goals (try (first | exact hC | omega | (simp [allP,opd,Fr.get,Fr.below,Fr.allN,AV.allN,AV.allNL,Loc.below,hca];done)))
  rw [idxI_any]
def namedB (name:ByteArray) (b:BktD):Bool:=b.name.toList == name.toList
theorem chk1_p (name:ByteArray) (b:BktD) (m:Nat):PureC (fun σ=>σ m = .box [.d (.v (.string name))]) Try.prog 20 [.agg (b.row.map .d),.lp m 0] (Bo (namedB name b)):=by
  refine pure_ofC follows Try.func20 c20_eq r20 (Nat.le_of_ble_eq_true rfl) fun B σ hC hcl hsz=>?_
  clear hsz
  have hn1:m < B:=by
    rcases Nat.lt_or_ge m B with h | h
    · exact h
    · rw [(hcl m).2 h] at hC;cases hC
  have y1:∀ s,(m = B + s) = False:=fun s=>by simp;omega
  have y2:∀ s,(B + s = m) = False:=fun s=>by simp;omega
  repeat' (first | (simp -implicitDefEqProofs only [*,Nat.reduceBEq,↓reduceIte,Nat.reduceEqDiff,Nat.reduceAdd,reduceCtorEq,AO.kill,Int.reduceLT,Int.reduceToNat,List.getElem?_nil,Nat.reduceMul,Nat.reducePow,Nat.reduceLeDiff,rowOf_mapD,rowOf_mapI,rowOf_mapA,List.getElem?_cons_zero,List.getElem?_cons_succ,take_map_len,take_map_app,List.getElem?_cons_zero,c20,r20,u20_1,ty54,ty9,y1,y2,hC,BktD.row,mvcgen_simp]) | (with_reducible refine And.intro ?_ ?_) | (refine EndX.plain ?_) | (refine nil_split (fun hn=>?_) (fun hn=>?_)) | (refine gcall_no not_false ?_) | (refine gdcall_no not_false ?_) | (refine GuardS_of _ _ _ _ _ _ (fun hg=>?_) (fun hg=>?_)) | (refine GuardD_of _ _ _ _ (fun hg=>?_) (fun hg=>?_)) | (refine CondB_of _ _ _ _ _ _ _ ?_ (fun hg=>?_) (fun hg=>?_)))
  all_goals (try (first | ((first | unfold noN | unfold Fr.below | unfold Loc.below);simp [Fr.allN,AV.allN,AV.allNL,AO.allN];done) | rfl | trivial | assumption | (intro row hrow;simp only [List.mem_map] at hrow;obtain ⟨x,_,rfl⟩:=hrow;rfl) | (refine Wk.keep hcl ?_ ?_ ?_;(focus (simp [Fr.get,y1,y2,hC,BktD.row]<;>fail));(focus (simp [sto,y1,y2,hC,BktD.row]<;>fail));(focus (simp<;>fail))) | (simp [allP,opd,Fr.get,Fr.below,Fr.allN,AV.allN,AV.allNL,Loc.below,AO.allN,noN,killO,killT,killD,mkNames,AO.kill,AV.kill,AV.mapN,AV.mapNL];done) | (with_reducible exact ltD (by assumption)) | omega | (simp only [decide_eq_true_eq,decide_eq_false_iff_not] at *;omega)))
  all_goals (first | rfl | skip)
def listF (s:SttD) (name pre:ByteArray) (most:Int):Int:=bif mayF s then (bif s.bkts.any (namedB name) then (bif ruleF pre 0 0 == 0 then (bif inR most 1 50 then 0 else 2) else ruleF pre 0 0) else 6) else 9
theorem any_idx (s:SttD) (name:ByteArray):s.bkts.any (namedB name) = decide (idxD s.bkts.length (pB s.bkts name) ≥ 0):=by
  rw [Bool.eq_iff_iff,decide_eq_true_eq,idxD_ge,List.any_eq_true]
  constructor
  · rintro ⟨x,hx,hp⟩
    obtain ⟨k,hk,rfl⟩:=List.mem_iff_getElem.1 hx
    exact ⟨k,hk,by simpa [pB,namedB,hk] using hp⟩
  · rintro ⟨k,hk,hp⟩
    exact ⟨s.bkts[k],List.getElem_mem hk,by simpa [pB,namedB,hk] using hp⟩
theorem ruleF_0 (x:ByteArray):ruleF x 0 0 = bif decide ((x.size:Int) > 16) then 1 else bif lettersF x then 0 else 4:=by
  unfold ruleF
  have:(inR 0 (-1) 1073741824 && inR 0 (-1) 1073741824) = true:=by decide
  rw [this];rfl
theorem listChk_p (s:SttD) (hc:Pure Try.prog 18 [s.av] (I (bif mayF s then 0 else 9))) (name pre:ByteArray) (most:Int):Pure Try.prog 10 [s.av,.d (.v (.string name)),.d (.v (.string pre)),I most] (I (listF s name pre most)):=by
  refine pure_of follows Try.func10 c10_eq r10 (Nat.le_of_ble_eq_true rfl) fun B σ hcl hsz=>?_
  clear hsz
  unfold listF
  generalize mayF s = b at hc ⊢
  have hf:=containsK_p s.bkts 20 [.lp (B + 5) 0] (namedB name) (fun σ=>σ (B + 5) = .box [.d (.v (.string name))]) (fun B σ hC hcl=>capt1 B σ hC hcl) (fun i hi=>(chk1_p name s.bkts[i]! (B + 5)).clo (first:=[]) rfl)
  have hr:=rule_p pre 0 0
  generalize ruleF pre 0 0 = r at hr ⊢
  generalize s.bkts.any (namedB name) = an at hf ⊢
  cases b
  · simp only [cond_false] at hc ⊢
    repeat' (first | (simp -implicitDefEqProofs only [*,Nat.reduceBEq,↓reduceIte,Nat.reduceEqDiff,Nat.reduceAdd,reduceCtorEq,AO.kill,Int.reduceLT,Int.reduceToNat,List.getElem?_nil,Nat.reduceMul,Nat.reducePow,Nat.reduceLeDiff,rowOf_mapD,rowOf_mapI,rowOf_mapA,List.getElem?_cons_zero,List.getElem?_cons_succ,take_map_len,take_map_app,List.getElem?_cons_zero,c10,r10,u10_1,u10_2,u10_3,u10_4,u10_5,u10_6,u10_7,u10_8,v10_9,u10_10,u10_11,u10_12,u10_13,u10_14,u10_15,u10_16,ty28,ty9,ty30,ty22,ty52,ty3,ty54,SttD.av,SttD.cells,ints,mvcgen_simp]) | (with_reducible refine And.intro ?_ ?_) | (refine call_ro e18 ( hc) rfl ?_ ?_ ?_ ?_) | (refine gcall_ro e18 ( hc) rfl ?_ ?_ ?_ ?_) | (refine dcall_ro e18 ( hc) rfl ?_ ?_ ?_ ?_) | (refine gdcall_ro rfl e18 ( hc) rfl ?_ ?_ ?_ ?_) | (refine EndX.plain ?_) | (refine nil_split (fun hn=>?_) (fun hn=>?_)) | (refine gcall_no not_false ?_) | (refine gdcall_no not_false ?_) | (refine GuardS_of _ _ _ _ _ _ (fun hg=>?_) (fun hg=>?_)) | (refine GuardD_of _ _ _ _ (fun hg=>?_) (fun hg=>?_)) | (refine CondB_of _ _ _ _ _ _ _ ?_ (fun hg=>?_) (fun hg=>?_)))
    all_goals (try (first | ((first | unfold noN | unfold Fr.below | unfold Loc.below);simp [Fr.allN,AV.allN,AV.allNL,AO.allN];done) | rfl | trivial | assumption | (intro row hrow;simp only [List.mem_map] at hrow;obtain ⟨x,_,rfl⟩:=hrow;rfl) | (refine Wk.keep hcl ?_ ?_ ?_;(focus (simp [Fr.get,SttD.av,SttD.cells,ints]<;>fail));(focus (simp [sto,SttD.av,SttD.cells,ints]<;>fail));(focus (simp<;>fail))) | (simp [allP,opd,Fr.get,Fr.below,Fr.allN,AV.allN,AV.allNL,Loc.below,AO.allN,noN,killO,killT,killD,mkNames,AO.kill,AV.kill,AV.mapN,AV.mapNL];done) | (with_reducible exact ltD (by assumption)) | omega | (simp only [decide_eq_true_eq,decide_eq_false_iff_not] at *;omega)))
  · simp only [cond_true] at hc ⊢
    repeat' (first | (simp -implicitDefEqProofs only [*,Nat.reduceBEq,↓reduceIte,Nat.reduceEqDiff,Nat.reduceAdd,reduceCtorEq,AO.kill,Int.reduceLT,Int.reduceToNat,List.getElem?_nil,Nat.reduceMul,Nat.reducePow,Nat.reduceLeDiff,rowOf_mapD,rowOf_mapI,rowOf_mapA,List.getElem?_cons_zero,List.getElem?_cons_succ,take_map_len,take_map_app,List.getElem?_cons_zero,c10,r10,u10_1,u10_2,u10_3,u10_4,u10_5,u10_6,u10_7,u10_8,v10_9,u10_10,u10_11,u10_12,u10_13,u10_14,u10_15,u10_16,ty28,ty9,ty30,ty22,ty52,ty3,ty54,SttD.av,SttD.cells,ints,bne_self_eq_false,mvcgen_simp]) | (with_reducible refine And.intro ?_ ?_) | (refine call_ro e18 ( hc) rfl ?_ ?_ ?_ ?_) | (refine gcall_ro e18 ( hc) rfl ?_ ?_ ?_ ?_) | (refine dcall_ro e18 ( hc) rfl ?_ ?_ ?_ ?_) | (refine gdcall_ro rfl e18 ( hc) rfl ?_ ?_ ?_ ?_) | (refine call_roC e19 ( hf) rfl ?_ ?_ ?_ ?_ ?_) | (refine call_ro e21 ( hr) rfl ?_ ?_ ?_ ?_) | (refine gcall_ro e21 ( hr) rfl ?_ ?_ ?_ ?_) | (refine dcall_ro e21 ( hr) rfl ?_ ?_ ?_ ?_) | (refine gdcall_ro rfl e21 ( hr) rfl ?_ ?_ ?_ ?_) | (refine EndX.plain ?_) | (refine nil_split (fun hn=>?_) (fun hn=>?_)) | (refine gcall_no not_false ?_) | (refine gdcall_no not_false ?_) | (refine GuardS_of _ _ _ _ _ _ (fun hg=>?_) (fun hg=>?_)) | (refine GuardD_of _ _ _ _ (fun hg=>?_) (fun hg=>?_)) | (refine CondB_of _ _ _ _ _ _ _ ?_ (fun hg=>?_) (fun hg=>?_)))
    all_goals (try (first | ((first | unfold noN | unfold Fr.below | unfold Loc.below);simp [Fr.allN,AV.allN,AV.allNL,AO.allN];done) | rfl | trivial | assumption | (intro row hrow;simp only [List.mem_map] at hrow;obtain ⟨x,_,rfl⟩:=hrow;rfl) | (refine Wk.keep hcl ?_ ?_ ?_;(focus (simp [Fr.get,SttD.av,SttD.cells,ints,bne_self_eq_false]<;>fail));(focus (simp [sto,SttD.av,SttD.cells,ints,bne_self_eq_false]<;>fail));(focus (simp<;>fail))) | (simp [allP,opd,Fr.get,Fr.below,Fr.allN,AV.allN,AV.allNL,Loc.below,AO.allN,noN,killO,killT,killD,mkNames,AO.kill,AV.kill,AV.mapN,AV.mapNL];done) | (with_reducible exact ltD (by assumption)) | omega | (simp only [decide_eq_true_eq,decide_eq_false_iff_not] at *;omega)))
    all_goals (simp only [Bool.not_eq_true',Bool.not_eq_false'] at *)
    all_goals (try (have g3:(r == 0) = false:=by (have g2:(r != 0) = true:=by assumption);simpa [bne] using g2))
    all_goals (try (have g3:(r == 0) = true:=by (have g2:(r != 0) = false:=by assumption);simpa [bne] using g2))
    all_goals (try (have g4:=inR_no1 (a:=most) (b:=1) (c:=50) (by assumption)))
    all_goals (try (have g4:=inR_no2 (a:=most) (b:=1) (c:=50) (by assumption)))
    all_goals (try (have g4:=inR_yes (a:=most) (b:=1) (c:=50) (by assumption) (by assumption)))
    all_goals (simp only [*,cond_true,cond_false];done)
theorem listFault_p (s:SttD) (hc:Pure Try.prog 31 [s.av] (Bo (mayF s))) (name pre:ByteArray) (most:Int):Pure Try.prog 14 [s.av,.d (.v (.string name)),.d (.v (.string pre)),I most] (I (listF s name pre most)):=by
  refine pure_of follows Try.func14 c14_eq r14 (Nat.le_of_ble_eq_true rfl) fun B σ hcl hsz=>?_
  clear hsz
  unfold listF
  rw [any_idx,ruleF_0]
  have hi:=bucketAt_p s name
  generalize idxD s.bkts.length (pB s.bkts name) = ix at hi ⊢
  generalize mayF s = b at hc ⊢
  repeat' (first | (simp -implicitDefEqProofs only [*,Nat.reduceBEq,↓reduceIte,Nat.reduceEqDiff,Nat.reduceAdd,reduceCtorEq,AO.kill,Int.reduceLT,Int.reduceToNat,List.getElem?_nil,Nat.reduceMul,Nat.reducePow,Nat.reduceLeDiff,rowOf_mapD,rowOf_mapI,rowOf_mapA,List.getElem?_cons_zero,List.getElem?_cons_succ,take_map_len,take_map_app,List.getElem?_cons_zero,c14,r14,u14_1,u14_2,u14_3,u14_4,u14_5,u14_6,u14_7,u14_8,u14_9,u14_10,u14_11,u14_12,u14_13,u14_14,u14_15,u14_16,ty28,ty3,ty9,SttD.av,SttD.cells,ints,mvcgen_simp]) | (with_reducible refine And.intro ?_ ?_) | (refine call_ro e31 ( hc) rfl ?_ ?_ ?_ ?_) | (refine gcall_ro e31 ( hc) rfl ?_ ?_ ?_ ?_) | (refine dcall_ro e31 ( hc) rfl ?_ ?_ ?_ ?_) | (refine gdcall_ro rfl e31 ( hc) rfl ?_ ?_ ?_ ?_) | (refine call_ro e32 ( hi) rfl ?_ ?_ ?_ ?_) | (refine gcall_ro e32 ( hi) rfl ?_ ?_ ?_ ?_) | (refine dcall_ro e32 ( hi) rfl ?_ ?_ ?_ ?_) | (refine gdcall_ro rfl e32 ( hi) rfl ?_ ?_ ?_ ?_) | (refine call_ro e33 (plain_p pre (by have:=of_decide_eq_false (by assumption:decide ((pre.size:Int) > 16) = false);omega)) rfl ?_ ?_ ?_ ?_) | (refine call_ro e34 ( In_p most 1 50) rfl ?_ ?_ ?_ ?_) | (refine gcall_ro e34 ( In_p most 1 50) rfl ?_ ?_ ?_ ?_) | (refine dcall_ro e34 ( In_p most 1 50) rfl ?_ ?_ ?_ ?_) | (refine gdcall_ro rfl e34 ( In_p most 1 50) rfl ?_ ?_ ?_ ?_) | (refine EndX.plain ?_) | (refine nil_split (fun hn=>?_) (fun hn=>?_)) | (refine gcall_no not_false ?_) | (refine gdcall_no not_false ?_) | (refine GuardS_of _ _ _ _ _ _ (fun hg=>?_) (fun hg=>?_)) | (refine GuardD_of _ _ _ _ (fun hg=>?_) (fun hg=>?_)) | (refine CondB_of _ _ _ _ _ _ _ ?_ (fun hg=>?_) (fun hg=>?_)))
  all_goals (try (first | ((first | unfold noN | unfold Fr.below | unfold Loc.below);simp [Fr.allN,AV.allN,AV.allNL,AO.allN];done) | rfl | trivial | assumption | (intro row hrow;simp only [List.mem_map] at hrow;obtain ⟨x,_,rfl⟩:=hrow;rfl) | (refine Wk.keep hcl ?_ ?_ ?_;(focus (simp [Fr.get,SttD.av,SttD.cells,ints]<;>fail));(focus (simp [sto,SttD.av,SttD.cells,ints]<;>fail));(focus (simp<;>fail))) | (simp [allP,opd,Fr.get,Fr.below,Fr.allN,AV.allN,AV.allNL,Loc.below,AO.allN,noN,killO,killT,killD,mkNames,AO.kill,AV.kill,AV.mapN,AV.mapNL];done) | (with_reducible exact ltD (by assumption)) | omega | (simp only [decide_eq_true_eq,decide_eq_false_iff_not] at *;omega)))
  all_goals (try (simp only [Bool.not_eq_true',Bool.not_eq_false'] at *))
  all_goals (try (have g3:decide (ix ≥ 0) = false:=by (have g2:decide (ix < 0) = true:=by assumption);simpa using g2))
  all_goals (try (have g3:decide (ix ≥ 0) = true:=by (have g2:decide (ix < 0) = false:=by assumption);simpa using g2))
  all_goals (try (have g4:inR most 1 50 = _:=by assumption))
  all_goals (simp only [*,cond_true,cond_false,beq_self_eq_true];try rfl)
structure RowD where
  key:ByteArray
  com:Bool
  id:Int
  mark:Bool
  lat:Bool
  size:Int
  tier:Int
instance:Inhabited RowD:=⟨⟨⟨#[]⟩,false,0,false,false,0,0⟩⟩
def RowD.row (x:RowD):List RV:=[.v (.string x.key),.v (.bool x.com),.v (.int .i64 x.id),.v (.bool x.mark),.v (.bool x.lat),.v (.int .i64 x.size),.v (.int .i64 x.tier)]
def rowD (v:VerD) (l:Bool):RowD:=⟨v.key,false,v.id,v.mark,l,v.size,v.tier⟩
theorem listRow_p (v:VerD) (l:Bool):Pure Try.prog 12 [.agg (v.row.map .d),Bo l] (.agg ((rowD v l).row.map .d)):=by
  refine pure_of follows Try.func12 c12_eq r12 (Nat.le_of_ble_eq_true rfl) fun B σ hcl hsz=>?_
  clear hsz
  repeat' (first | (simp -implicitDefEqProofs only [*,Nat.reduceBEq,↓reduceIte,Nat.reduceEqDiff,Nat.reduceAdd,reduceCtorEq,AO.kill,Int.reduceLT,Int.reduceToNat,List.getElem?_nil,Nat.reduceMul,Nat.reducePow,Nat.reduceLeDiff,rowOf_mapD,rowOf_mapI,rowOf_mapA,List.getElem?_cons_zero,List.getElem?_cons_succ,take_map_len,take_map_app,List.getElem?_cons_zero,c12,r12,v12_1,v12_2,v12_3,u12_4,ty41,ty43,ty9,ty3,ty4,VerD.row,RowD.row,rowD,mvcgen_simp]) | (with_reducible refine And.intro ?_ ?_) | (refine EndX.plain ?_) | (refine nil_split (fun hn=>?_) (fun hn=>?_)) | (refine gcall_no not_false ?_) | (refine gdcall_no not_false ?_) | (refine GuardS_of _ _ _ _ _ _ (fun hg=>?_) (fun hg=>?_)) | (refine GuardD_of _ _ _ _ (fun hg=>?_) (fun hg=>?_)) | (refine CondB_of _ _ _ _ _ _ _ ?_ (fun hg=>?_) (fun hg=>?_)))
  all_goals (try (first | ((first | unfold noN | unfold Fr.below | unfold Loc.below);simp [Fr.allN,AV.allN,AV.allNL,AO.allN];done) | rfl | trivial | assumption | (intro row hrow;simp only [List.mem_map] at hrow;obtain ⟨x,_,rfl⟩:=hrow;rfl) | (refine Wk.keep hcl ?_ ?_ ?_;(focus (simp [Fr.get,VerD.row,RowD.row,rowD]<;>fail));(focus (simp [sto,VerD.row,RowD.row,rowD]<;>fail));(focus (simp<;>fail))) | (simp [allP,opd,Fr.get,Fr.below,Fr.allN,AV.allN,AV.allNL,Loc.below,AO.allN,noN,killO,killT,killD,mkNames,AO.kill,AV.kill,AV.mapN,AV.mapNL];done) | (with_reducible exact ltD (by assumption)) | omega | (simp only [decide_eq_true_eq,decide_eq_false_iff_not] at *;omega)))
theorem rowOf_p (v:VerD) (l:Bool):Pure Try.prog 16 [.agg (v.row.map .d),Bo l] (.agg ((rowD v l).row.map .d)):=by
  refine pure_of follows Try.func16 c16_eq r16 (Nat.le_of_ble_eq_true rfl) fun B σ hcl hsz=>?_
  clear hsz
  repeat' (first | (simp -implicitDefEqProofs only [*,Nat.reduceBEq,↓reduceIte,Nat.reduceEqDiff,Nat.reduceAdd,reduceCtorEq,AO.kill,Int.reduceLT,Int.reduceToNat,List.getElem?_nil,Nat.reduceMul,Nat.reducePow,Nat.reduceLeDiff,rowOf_mapD,rowOf_mapI,rowOf_mapA,List.getElem?_cons_zero,List.getElem?_cons_succ,take_map_len,take_map_app,List.getElem?_cons_zero,c16,r16,v16_1,v16_2,v16_3,u16_4,ty41,ty43,ty9,ty3,ty4,VerD.row,RowD.row,rowD,mvcgen_simp]) | (with_reducible refine And.intro ?_ ?_) | (refine EndX.plain ?_) | (refine nil_split (fun hn=>?_) (fun hn=>?_)) | (refine gcall_no not_false ?_) | (refine gdcall_no not_false ?_) | (refine GuardS_of _ _ _ _ _ _ (fun hg=>?_) (fun hg=>?_)) | (refine GuardD_of _ _ _ _ (fun hg=>?_) (fun hg=>?_)) | (refine CondB_of _ _ _ _ _ _ _ ?_ (fun hg=>?_) (fun hg=>?_)))
  all_goals (try (first | ((first | unfold noN | unfold Fr.below | unfold Loc.below);simp [Fr.allN,AV.allN,AV.allNL,AO.allN];done) | rfl | trivial | assumption | (intro row hrow;simp only [List.mem_map] at hrow;obtain ⟨x,_,rfl⟩:=hrow;rfl) | (refine Wk.keep hcl ?_ ?_ ?_;(focus (simp [Fr.get,VerD.row,RowD.row,rowD]<;>fail));(focus (simp [sto,VerD.row,RowD.row,rowD]<;>fail));(focus (simp<;>fail))) | (simp [allP,opd,Fr.get,Fr.below,Fr.allN,AV.allN,AV.allNL,Loc.below,AO.allN,noN,killO,killT,killD,mkNames,AO.kill,AV.kill,AV.mapN,AV.mapNL];done) | (with_reducible exact ltD (by assumption)) | omega | (simp only [decide_eq_true_eq,decide_eq_false_iff_not] at *;omega)))
def pageL (l:List RowD) (most:Int):List RowD:=bif decide ((l.length:Int) > most) then l.take most.toNat else l
theorem page_p (l:List RowD) (most:Int) (h:1 ≤ most):Pure Try.prog 13 [.d (.ro (l.map RowD.row)),I most] (.tup [.d (.ro ((pageL l most).map RowD.row)),Bo (decide ((l.length:Int) > most))]):=by
  refine pure_of follows Try.func13 c13_eq r13 (Nat.le_of_ble_eq_true rfl) fun B σ hcl hsz=>?_
  clear hsz
  unfold pageL
  repeat' (first | (simp -implicitDefEqProofs only [*,Nat.reduceBEq,↓reduceIte,Nat.reduceEqDiff,Nat.reduceAdd,reduceCtorEq,AO.kill,Int.reduceLT,Int.reduceToNat,List.getElem?_nil,Nat.reduceMul,Nat.reducePow,Nat.reduceLeDiff,rowOf_mapD,rowOf_mapI,rowOf_mapA,List.getElem?_cons_zero,List.getElem?_cons_succ,take_map_len,take_map_app,List.getElem?_cons_zero,c13,r13,v13_1,u13_2,u13_3,u13_4,u13_5,ty29,ty3,ty43,bnd,slice3V,Option.getD_some,Option.getD_none,mvcgen_simp]) | (with_reducible refine And.intro ?_ ?_) | (refine EndX.plain ?_) | (refine nil_split (fun hn=>?_) (fun hn=>?_)) | (refine gcall_no not_false ?_) | (refine gdcall_no not_false ?_) | (refine GuardS_of _ _ _ _ _ _ (fun hg=>?_) (fun hg=>?_)) | (refine GuardD_of _ _ _ _ (fun hg=>?_) (fun hg=>?_)) | (refine CondB_of _ _ _ _ _ _ _ ?_ (fun hg=>?_) (fun hg=>?_)))
  all_goals (try (first | ((first | unfold noN | unfold Fr.below | unfold Loc.below);simp [Fr.allN,AV.allN,AV.allNL,AO.allN];done) | rfl | trivial | assumption | (intro row hrow;simp only [List.mem_map] at hrow;obtain ⟨x,_,rfl⟩:=hrow;rfl) | (refine Wk.keep hcl ?_ ?_ ?_;(focus (simp [Fr.get,bnd,slice3V,Option.getD_some,Option.getD_none]<;>fail));(focus (simp [sto,bnd,slice3V,Option.getD_some,Option.getD_none]<;>fail));(focus (simp<;>fail))) | (simp [allP,opd,Fr.get,Fr.below,Fr.allN,AV.allN,AV.allNL,Loc.below,AO.allN,noN,killO,killT,killD,mkNames,AO.kill,AV.kill,AV.mapN,AV.mapNL];done) | (with_reducible exact ltD (by assumption)) | omega | (simp only [decide_eq_true_eq,decide_eq_false_iff_not] at *;omega)))
  trace_state
end Go.Proofs.Ytikgiadbkjmabaa
