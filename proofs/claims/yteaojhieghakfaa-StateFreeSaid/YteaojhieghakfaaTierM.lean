/- The laws of what is next, what lives, where to put a piece, walked. -/
import Derived.Test.YteaojhieghakfaaTierN
import Derived.Test.YteaojhieghakfaaTierW
import Derived.Test.YteaojhieghakfaaTierQ
import Derived.Test.YteaojhieghakfaaMayP
import Derived.Test.YteaojhieghakfaaTypes
namespace Go.Proofs.Yteaojhieghakfaa
open Go.RowKit
set_option maxRecDepth 100000
theorem r9 : Try.f9.results.toList = [.tmp 2] := by kernel_rfl
def o5_1 : List SO := ((SO.mk (some 11) (.extract (.tmp 7) 1) none) :: (SO.mk (some 3) (.alloc 41) none) :: (SO.mk none (.store 41 (.tmp 3) (.tmp 10)) none) :: (SO.mk (some 4) (.move (.tmp 11)) none) :: [])
def o5_2 : List SO := ((SO.mk (some 16) (.extract (.tmp 12) 1) none) :: (SO.mk (some 5) (.alloc 41) none) :: (SO.mk none (.store 41 (.tmp 5) (.tmp 15)) none) :: (SO.mk (some 6) (.move (.tmp 16)) none) :: [])
def o5_3 : List SO := ((SO.mk (some 2) (.move (.tmp 24)) none) :: [])
def o5_4 : List SO := ((SO.mk (some 21) (.load 41 (.tmp 3)) (some (20 , true))) :: (SO.mk (some 22) (.load 41 (.tmp 5)) (some (20 , true))) :: (SO.mk (some 23) (.bin .eql 41 (.tmp 21) (.tmp 22)) (some (20 , true))) :: (SO.mk (some 24) (.pick (.tmp 20) (.tmp 23) (.const (Value.bool false))) none) :: o5_3)
def c5_5 : SC := (.seq (.reg ((SO.mk (some 17) (.move (.tmp 4)) none) :: (SO.mk (some 18) (.move (.tmp 6)) none) :: (SO.mk (some 19) (.bin .eql 31 (.tmp 17) (.tmp 18)) none) :: (SO.mk (some 20) (.move (.tmp 19)) none) :: o5_4)) (.keep [2] .ret))
def c5_6 : SC := (.seq (.reg ((SO.mk (some 13) (.load 30 (.tmp 1)) none) :: (SO.mk (some 14) (.call 15 [(.tmp 13)]) none) :: (SO.mk (some 12) (.move (.tmp 14)) none) :: (SO.mk (some 15) (.extract (.tmp 12) 0) none) :: o5_2)) (.keep [4, 6, 3, 5] c5_5))
def c5_7 : SC := (.seq (.reg ((SO.mk (some 8) (.load 30 (.tmp 1)) none) :: (SO.mk (some 9) (.call 14 [(.tmp 8)]) none) :: (SO.mk (some 7) (.move (.tmp 9)) none) :: (SO.mk (some 10) (.extract (.tmp 7) 0) none) :: o5_1)) (.keep [1, 4, 3] c5_6))
def c5 : SC := (.seq (.reg [SO.mk (some 1) (.box 30 (.tmp 0)) none, SO.mk (some 2) (.move (.const (Value.bool false))) none]) (.keep [1] c5_7))
theorem r5 : Try.f5.results.toList = [.tmp 2] := by kernel_rfl
theorem e5 : enters Try.prog 5 = true := by kernel_rfl
def o4_1 : List SO := ((SO.mk (some 11) (.extract (.tmp 7) 1) none) :: (SO.mk (some 3) (.move (.tmp 10)) none) :: (SO.mk (some 4) (.move (.tmp 11)) none) :: [])
def o4_2 : List SO := ((SO.mk (some 16) (.extract (.tmp 12) 1) none) :: (SO.mk (some 5) (.move (.tmp 15)) none) :: (SO.mk (some 6) (.move (.tmp 16)) none) :: [])
def o4_3 : List SO := ((SO.mk (some 2) (.move (.tmp 24)) none) :: [])
def o4_4 : List SO := ((SO.mk (some 21) (.move (.tmp 3)) (some (20 , true))) :: (SO.mk (some 22) (.move (.tmp 5)) (some (20 , true))) :: (SO.mk (some 23) (.call 13 [(.tmp 21), (.tmp 22)]) (some (20 , true))) :: (SO.mk (some 24) (.pick (.tmp 20) (.tmp 23) (.const (Value.bool false))) none) :: o4_3)
def c4_5 : SC := (.seq (.reg ((SO.mk (some 17) (.move (.tmp 4)) none) :: (SO.mk (some 18) (.move (.tmp 6)) none) :: (SO.mk (some 19) (.bin .eql 31 (.tmp 17) (.tmp 18)) none) :: (SO.mk (some 20) (.move (.tmp 19)) none) :: o4_4)) (.keep [2] .ret))
def c4_6 : SC := (.seq (.reg ((SO.mk (some 13) (.load 30 (.tmp 1)) none) :: (SO.mk (some 14) (.call 12 [(.tmp 13)]) none) :: (SO.mk (some 12) (.move (.tmp 14)) none) :: (SO.mk (some 15) (.extract (.tmp 12) 0) none) :: o4_2)) (.keep [4, 6, 3, 5] c4_5))
def c4_7 : SC := (.seq (.reg ((SO.mk (some 8) (.load 30 (.tmp 1)) none) :: (SO.mk (some 9) (.call 11 [(.tmp 8)]) none) :: (SO.mk (some 7) (.move (.tmp 9)) none) :: (SO.mk (some 10) (.extract (.tmp 7) 0) none) :: o4_1)) (.keep [1, 4, 3] c4_6))
def c4 : SC := (.seq (.reg [SO.mk (some 1) (.box 30 (.tmp 0)) none, SO.mk (some 2) (.move (.const (Value.bool false))) none]) (.keep [1] c4_7))
theorem r4 : Try.f4.results.toList = [.tmp 2] := by kernel_rfl
theorem e4 : enters Try.prog 4 = true := by kernel_rfl
def o3_1 : List SO := ((SO.mk (some 23) (.extract (.tmp 15) 0) none) :: (SO.mk (some 24) (.extract (.tmp 15) 1) none) :: (SO.mk (some 11) (.move (.tmp 23)) none) :: (SO.mk (some 12) (.move (.tmp 24)) none) :: [])
def o3_2 : List SO := ((SO.mk (some 20) (.move (.tmp 3)) none) :: (SO.mk (some 21) (.move (.tmp 4)) none) :: (SO.mk (some 22) (.call 8 [(.tmp 16), (.tmp 17), (.tmp 19), (.tmp 20), (.tmp 21)]) none) :: (SO.mk (some 15) (.move (.tmp 22)) none) :: o3_1)
def o3_3 : List SO := ((SO.mk (some 16) (.load 23 (.tmp 5)) none) :: (SO.mk (some 17) (.load 30 (.tmp 6)) none) :: (SO.mk (some 18) (.move (.tmp 2)) none) :: (SO.mk (some 19) (.call 9 [(.tmp 18)]) none) :: o3_2)
def o3_4 : List SO := ((SO.mk (some 33) (.extract (.tmp 25) 1) none) :: (SO.mk (some 13) (.move (.tmp 32)) none) :: (SO.mk (some 14) (.move (.tmp 33)) none) :: [])
def o3_5 : List SO := ((SO.mk (some 30) (.move (.tmp 4)) none) :: (SO.mk (some 31) (.call 10 [(.tmp 26), (.tmp 27), (.tmp 28), (.tmp 29), (.tmp 30)]) none) :: (SO.mk (some 25) (.move (.tmp 31)) none) :: (SO.mk (some 32) (.extract (.tmp 25) 0) none) :: o3_4)
def o3_6 : List SO := ((SO.mk (some 10) (.move (.tmp 41)) none) :: [])
def o3_7 : List SO := ((SO.mk (some 38) (.move (.tmp 11)) (some (37 , true))) :: (SO.mk (some 39) (.move (.tmp 13)) (some (37 , true))) :: (SO.mk (some 40) (.bin .eql 3 (.tmp 38) (.tmp 39)) (some (37 , true))) :: (SO.mk (some 41) (.pick (.tmp 37) (.tmp 40) (.const (Value.bool false))) none) :: o3_6)
def c3_8 : SC := (.seq (.reg ((SO.mk (some 34) (.move (.tmp 12)) none) :: (SO.mk (some 35) (.move (.tmp 14)) none) :: (SO.mk (some 36) (.bin .eql 31 (.tmp 34) (.tmp 35)) none) :: (SO.mk (some 37) (.move (.tmp 36)) none) :: o3_7)) (.keep [10] .ret))
def c3_9 : SC := (.seq (.reg ((SO.mk (some 26) (.load 23 (.tmp 5)) none) :: (SO.mk (some 27) (.load 30 (.tmp 6)) none) :: (SO.mk (some 28) (.move (.tmp 2)) none) :: (SO.mk (some 29) (.move (.tmp 3)) none) :: o3_5)) (.keep [12, 14, 11, 13] c3_8))
def c3_10 : SC := (.seq (.dreg false o3_3 []) (.keep [5, 6, 2, 3, 4, 12, 11] c3_9))
def c3 : SC := (.seq (.reg [SO.mk (some 5) (.box 23 (.tmp 0)) none, SO.mk (some 6) (.box 30 (.tmp 1)) none, SO.mk (some 10) (.move (.const (Value.bool false))) none]) (.keep [5, 6, 2, 3, 4] c3_10))
theorem r3 : Try.f3.results.toList = [.tmp 10] := by kernel_rfl
theorem e3 : enters Try.prog 3 = true := by kernel_rfl
end Go.Proofs.Yteaojhieghakfaa
namespace Go.Proofs.Yteaojhieghakfaa
open Go.RowKit
set_option maxHeartbeats 4000000
set_option maxRecDepth 20000
attribute [local irreducible] SW SWL SWLn SWD SEcall SEcallv SDv SE SO1 SOg ACalls ACallv Wk EndV
set_option linter.unusedSimpArgs false
set_option linter.unusedVariables false
end Go.Proofs.Yteaojhieghakfaa
