/- Records, as trees; what a record must be like. -/
import Derived.Test.YtckjgipcephmfaaDoorKFit
import Derived.Test.YtckjgipcephmfaaDoorTypes
namespace Go.Proofs.YtckjgipcephmfaaDoor
open Go.RowKit
set_option maxRecDepth 100000
def o35_1 : List SO := ((SO.mk (some 59) (.load 3 (.tmp 58)) (some (57 , true))) :: (SO.mk (some 60) (.bin .eql 3 (.tmp 59) (.const (Value.int .i64 0))) (some (57 , true))) :: (SO.mk (some 61) (.pick (.tmp 57) (.tmp 60) (.const (Value.bool false))) none) :: (SO.mk (some 2) (.move (.tmp 61)) none) :: [])
theorem v35_1 : type_of% (@swl _ _ o35_1.eq_1) := @swl _ _ o35_1.eq_1
def o35_2 : List SO := ((SO.mk (some 55) (.bin .eql 3 (.tmp 54) (.const (Value.int .i64 0))) (some (52 , true))) :: (SO.mk (some 56) (.pick (.tmp 52) (.tmp 55) (.const (Value.bool false))) none) :: (SO.mk (some 57) (.move (.tmp 56)) none) :: (SO.mk (some 58) (.faddr 36 (.tmp 1) 11) (some (57 , true))) :: o35_1)
theorem v35_2 : type_of% (@swl _ _ o35_2.eq_1) := @swl _ _ o35_2.eq_1
def o35_3 : List SO := ((SO.mk (some 51) (.pick (.tmp 47) (.tmp 50) (.const (Value.bool false))) none) :: (SO.mk (some 52) (.move (.tmp 51)) none) :: (SO.mk (some 53) (.faddr 36 (.tmp 1) 10) (some (52 , true))) :: (SO.mk (some 54) (.load 3 (.tmp 53)) (some (52 , true))) :: o35_2)
theorem v35_3 : type_of% (@swl _ _ o35_3.eq_1) := @swl _ _ o35_3.eq_1
def o35_4 : List SO := ((SO.mk (some 47) (.move (.tmp 46)) none) :: (SO.mk (some 48) (.faddr 36 (.tmp 1) 9) (some (47 , true))) :: (SO.mk (some 49) (.load 3 (.tmp 48)) (some (47 , true))) :: (SO.mk (some 50) (.bin .eql 3 (.tmp 49) (.const (Value.int .i64 0))) (some (47 , true))) :: o35_3)
theorem v35_4 : type_of% (@swl _ _ o35_4.eq_1) := @swl _ _ o35_4.eq_1
def o35_5 : List SO := ((SO.mk (some 43) (.load 34 (.tmp 42)) (some (41 , true))) :: (SO.mk (some 44) (.len 34 (.tmp 43)) (some (41 , true))) :: (SO.mk (some 45) (.bin .eql 3 (.tmp 44) (.const (Value.int .i64 0))) (some (41 , true))) :: (SO.mk (some 46) (.pick (.tmp 41) (.tmp 45) (.const (Value.bool false))) none) :: o35_4)
theorem v35_5 : type_of% (@swl _ _ o35_5.eq_1) := @swl _ _ o35_5.eq_1
def o35_6 : List SO := ((SO.mk (some 39) (.bin .eql 3 (.tmp 38) (.const (Value.int .i64 0))) (some (36 , true))) :: (SO.mk (some 40) (.pick (.tmp 36) (.tmp 39) (.const (Value.bool false))) none) :: (SO.mk (some 41) (.move (.tmp 40)) none) :: (SO.mk (some 42) (.faddr 36 (.tmp 1) 8) (some (41 , true))) :: o35_5)
theorem v35_6 : type_of% (@swl _ _ o35_6.eq_1) := @swl _ _ o35_6.eq_1
def o35_7 : List SO := ((SO.mk (some 35) (.pick (.tmp 31) (.tmp 34) (.const (Value.bool false))) none) :: (SO.mk (some 36) (.move (.tmp 35)) none) :: (SO.mk (some 37) (.faddr 36 (.tmp 1) 7) (some (36 , true))) :: (SO.mk (some 38) (.load 3 (.tmp 37)) (some (36 , true))) :: o35_6)
theorem v35_7 : type_of% (@swl _ _ o35_7.eq_1) := @swl _ _ o35_7.eq_1
def o35_8 : List SO := ((SO.mk (some 31) (.move (.tmp 30)) none) :: (SO.mk (some 32) (.faddr 36 (.tmp 1) 6) (some (31 , true))) :: (SO.mk (some 33) (.load 3 (.tmp 32)) (some (31 , true))) :: (SO.mk (some 34) (.bin .eql 3 (.tmp 33) (.const (Value.int .i64 0))) (some (31 , true))) :: o35_7)
theorem v35_8 : type_of% (@swl _ _ o35_8.eq_1) := @swl _ _ o35_8.eq_1
def o35_9 : List SO := ((SO.mk (some 27) (.faddr 36 (.tmp 1) 5) (some (26 , true))) :: (SO.mk (some 28) (.load 3 (.tmp 27)) (some (26 , true))) :: (SO.mk (some 29) (.bin .eql 3 (.tmp 28) (.const (Value.int .i64 0))) (some (26 , true))) :: (SO.mk (some 30) (.pick (.tmp 26) (.tmp 29) (.const (Value.bool false))) none) :: o35_8)
theorem v35_9 : type_of% (@swl _ _ o35_9.eq_1) := @swl _ _ o35_9.eq_1
def o35_10 : List SO := ((SO.mk (some 23) (.load 4 (.tmp 22)) (some (21 , true))) :: (SO.mk (some 24) (.un .not (.tmp 23)) (some (21 , true))) :: (SO.mk (some 25) (.pick (.tmp 21) (.tmp 24) (.const (Value.bool false))) none) :: (SO.mk (some 26) (.move (.tmp 25)) none) :: o35_9)
theorem v35_10 : type_of% (@swl _ _ o35_10.eq_1) := @swl _ _ o35_10.eq_1
def o35_11 : List SO := ((SO.mk (some 19) (.un .not (.tmp 18)) (some (16 , true))) :: (SO.mk (some 20) (.pick (.tmp 16) (.tmp 19) (.const (Value.bool false))) none) :: (SO.mk (some 21) (.move (.tmp 20)) none) :: (SO.mk (some 22) (.faddr 36 (.tmp 1) 4) (some (21 , true))) :: o35_10)
theorem v35_11 : type_of% (@swl _ _ o35_11.eq_1) := @swl _ _ o35_11.eq_1
def o35_12 : List SO := ((SO.mk (some 15) (.pick (.tmp 11) (.tmp 14) (.const (Value.bool false))) none) :: (SO.mk (some 16) (.move (.tmp 15)) none) :: (SO.mk (some 17) (.faddr 36 (.tmp 1) 3) (some (16 , true))) :: (SO.mk (some 18) (.load 4 (.tmp 17)) (some (16 , true))) :: o35_11)
theorem v35_12 : type_of% (@swl _ _ o35_12.eq_1) := @swl _ _ o35_12.eq_1
def o35_13 : List SO := ((SO.mk (some 11) (.move (.tmp 10)) none) :: (SO.mk (some 12) (.faddr 36 (.tmp 1) 2) (some (11 , true))) :: (SO.mk (some 13) (.load 9 (.tmp 12)) (some (11 , true))) :: (SO.mk (some 14) (.bin .eql 9 (.tmp 13) (.const (Value.string ⟨#[]⟩))) (some (11 , true))) :: o35_12)
theorem v35_13 : type_of% (@swl _ _ o35_13.eq_1) := @swl _ _ o35_13.eq_1
def o35_14 : List SO := ((SO.mk (some 7) (.faddr 36 (.tmp 1) 1) (some (6 , true))) :: (SO.mk (some 8) (.load 9 (.tmp 7)) (some (6 , true))) :: (SO.mk (some 9) (.bin .eql 9 (.tmp 8) (.const (Value.string ⟨#[]⟩))) (some (6 , true))) :: (SO.mk (some 10) (.pick (.tmp 6) (.tmp 9) (.const (Value.bool false))) none) :: o35_13)
theorem v35_14 : type_of% (@swl _ _ o35_14.eq_1) := @swl _ _ o35_14.eq_1
def c35_15 : SC := (.seq (.reg ((SO.mk (some 3) (.faddr 36 (.tmp 1) 0) none) :: (SO.mk (some 4) (.load 3 (.tmp 3)) none) :: (SO.mk (some 5) (.bin .eql 3 (.tmp 4) (.const (Value.int .i64 0))) none) :: (SO.mk (some 6) (.move (.tmp 5)) none) :: o35_14)) (.keep [2] .ret))
theorem u35_15 : type_of% (@swc _ _ c35_15.eq_1) := @swc _ _ c35_15.eq_1
def c35 : SC := (.seq (.reg [SO.mk (some 1) (.box 36 (.tmp 0)) none, SO.mk (some 2) (.move (.const (Value.bool false))) none]) (.keep [1] c35_15))
theorem c35_eq : annC Tryd.f35 = some c35 := by kernel_rfl
theorem r35 : Tryd.f35.results.toList = [.tmp 2] := by kernel_rfl
theorem e35 : enters Tryd.prog 35 = true := by kernel_rfl
def o23_1 : List SO := ((SO.mk (some 59) (.load 3 (.tmp 58)) (some (57 , true))) :: (SO.mk (some 60) (.bin .eql 3 (.tmp 59) (.const (Value.int .i64 0))) (some (57 , true))) :: (SO.mk (some 61) (.pick (.tmp 57) (.tmp 60) (.const (Value.bool false))) none) :: (SO.mk (some 2) (.move (.tmp 61)) none) :: [])
theorem v23_1 : type_of% (@swl _ _ o23_1.eq_1) := @swl _ _ o23_1.eq_1
def o23_2 : List SO := ((SO.mk (some 55) (.bin .eql 3 (.tmp 54) (.const (Value.int .i64 0))) (some (52 , true))) :: (SO.mk (some 56) (.pick (.tmp 52) (.tmp 55) (.const (Value.bool false))) none) :: (SO.mk (some 57) (.move (.tmp 56)) none) :: (SO.mk (some 58) (.faddr 36 (.tmp 1) 11) (some (57 , true))) :: o23_1)
theorem v23_2 : type_of% (@swl _ _ o23_2.eq_1) := @swl _ _ o23_2.eq_1
def o23_3 : List SO := ((SO.mk (some 51) (.pick (.tmp 47) (.tmp 50) (.const (Value.bool false))) none) :: (SO.mk (some 52) (.move (.tmp 51)) none) :: (SO.mk (some 53) (.faddr 36 (.tmp 1) 10) (some (52 , true))) :: (SO.mk (some 54) (.load 3 (.tmp 53)) (some (52 , true))) :: o23_2)
theorem v23_3 : type_of% (@swl _ _ o23_3.eq_1) := @swl _ _ o23_3.eq_1
def o23_4 : List SO := ((SO.mk (some 47) (.move (.tmp 46)) none) :: (SO.mk (some 48) (.faddr 36 (.tmp 1) 9) (some (47 , true))) :: (SO.mk (some 49) (.load 3 (.tmp 48)) (some (47 , true))) :: (SO.mk (some 50) (.bin .eql 3 (.tmp 49) (.const (Value.int .i64 0))) (some (47 , true))) :: o23_3)
theorem v23_4 : type_of% (@swl _ _ o23_4.eq_1) := @swl _ _ o23_4.eq_1
def o23_5 : List SO := ((SO.mk (some 43) (.load 34 (.tmp 42)) (some (41 , true))) :: (SO.mk (some 44) (.len 34 (.tmp 43)) (some (41 , true))) :: (SO.mk (some 45) (.bin .eql 3 (.tmp 44) (.const (Value.int .i64 0))) (some (41 , true))) :: (SO.mk (some 46) (.pick (.tmp 41) (.tmp 45) (.const (Value.bool false))) none) :: o23_4)
theorem v23_5 : type_of% (@swl _ _ o23_5.eq_1) := @swl _ _ o23_5.eq_1
def o23_6 : List SO := ((SO.mk (some 39) (.bin .eql 3 (.tmp 38) (.const (Value.int .i64 0))) (some (36 , true))) :: (SO.mk (some 40) (.pick (.tmp 36) (.tmp 39) (.const (Value.bool false))) none) :: (SO.mk (some 41) (.move (.tmp 40)) none) :: (SO.mk (some 42) (.faddr 36 (.tmp 1) 8) (some (41 , true))) :: o23_5)
theorem v23_6 : type_of% (@swl _ _ o23_6.eq_1) := @swl _ _ o23_6.eq_1
def o23_7 : List SO := ((SO.mk (some 35) (.pick (.tmp 31) (.tmp 34) (.const (Value.bool false))) none) :: (SO.mk (some 36) (.move (.tmp 35)) none) :: (SO.mk (some 37) (.faddr 36 (.tmp 1) 7) (some (36 , true))) :: (SO.mk (some 38) (.load 3 (.tmp 37)) (some (36 , true))) :: o23_6)
theorem v23_7 : type_of% (@swl _ _ o23_7.eq_1) := @swl _ _ o23_7.eq_1
def o23_8 : List SO := ((SO.mk (some 31) (.move (.tmp 30)) none) :: (SO.mk (some 32) (.faddr 36 (.tmp 1) 6) (some (31 , true))) :: (SO.mk (some 33) (.load 3 (.tmp 32)) (some (31 , true))) :: (SO.mk (some 34) (.bin .eql 3 (.tmp 33) (.const (Value.int .i64 0))) (some (31 , true))) :: o23_7)
theorem v23_8 : type_of% (@swl _ _ o23_8.eq_1) := @swl _ _ o23_8.eq_1
def o23_9 : List SO := ((SO.mk (some 27) (.faddr 36 (.tmp 1) 5) (some (26 , true))) :: (SO.mk (some 28) (.load 3 (.tmp 27)) (some (26 , true))) :: (SO.mk (some 29) (.bin .eql 3 (.tmp 28) (.const (Value.int .i64 0))) (some (26 , true))) :: (SO.mk (some 30) (.pick (.tmp 26) (.tmp 29) (.const (Value.bool false))) none) :: o23_8)
theorem v23_9 : type_of% (@swl _ _ o23_9.eq_1) := @swl _ _ o23_9.eq_1
def o23_10 : List SO := ((SO.mk (some 23) (.load 4 (.tmp 22)) (some (21 , true))) :: (SO.mk (some 24) (.un .not (.tmp 23)) (some (21 , true))) :: (SO.mk (some 25) (.pick (.tmp 21) (.tmp 24) (.const (Value.bool false))) none) :: (SO.mk (some 26) (.move (.tmp 25)) none) :: o23_9)
theorem v23_10 : type_of% (@swl _ _ o23_10.eq_1) := @swl _ _ o23_10.eq_1
def o23_11 : List SO := ((SO.mk (some 19) (.un .not (.tmp 18)) (some (16 , true))) :: (SO.mk (some 20) (.pick (.tmp 16) (.tmp 19) (.const (Value.bool false))) none) :: (SO.mk (some 21) (.move (.tmp 20)) none) :: (SO.mk (some 22) (.faddr 36 (.tmp 1) 4) (some (21 , true))) :: o23_10)
theorem v23_11 : type_of% (@swl _ _ o23_11.eq_1) := @swl _ _ o23_11.eq_1
def o23_12 : List SO := ((SO.mk (some 15) (.pick (.tmp 11) (.tmp 14) (.const (Value.bool false))) none) :: (SO.mk (some 16) (.move (.tmp 15)) none) :: (SO.mk (some 17) (.faddr 36 (.tmp 1) 3) (some (16 , true))) :: (SO.mk (some 18) (.load 4 (.tmp 17)) (some (16 , true))) :: o23_11)
theorem v23_12 : type_of% (@swl _ _ o23_12.eq_1) := @swl _ _ o23_12.eq_1
def o23_13 : List SO := ((SO.mk (some 11) (.move (.tmp 10)) none) :: (SO.mk (some 12) (.faddr 36 (.tmp 1) 2) (some (11 , true))) :: (SO.mk (some 13) (.load 9 (.tmp 12)) (some (11 , true))) :: (SO.mk (some 14) (.bin .eql 9 (.tmp 13) (.const (Value.string ⟨#[]⟩))) (some (11 , true))) :: o23_12)
theorem v23_13 : type_of% (@swl _ _ o23_13.eq_1) := @swl _ _ o23_13.eq_1
def o23_14 : List SO := ((SO.mk (some 7) (.faddr 36 (.tmp 1) 1) (some (6 , true))) :: (SO.mk (some 8) (.load 9 (.tmp 7)) (some (6 , true))) :: (SO.mk (some 9) (.bin .eql 9 (.tmp 8) (.const (Value.string ⟨#[]⟩))) (some (6 , true))) :: (SO.mk (some 10) (.pick (.tmp 6) (.tmp 9) (.const (Value.bool false))) none) :: o23_13)
theorem v23_14 : type_of% (@swl _ _ o23_14.eq_1) := @swl _ _ o23_14.eq_1
def c23_15 : SC := (.seq (.reg ((SO.mk (some 3) (.faddr 36 (.tmp 1) 0) none) :: (SO.mk (some 4) (.load 3 (.tmp 3)) none) :: (SO.mk (some 5) (.bin .eql 3 (.tmp 4) (.const (Value.int .i64 0))) none) :: (SO.mk (some 6) (.move (.tmp 5)) none) :: o23_14)) (.keep [2] .ret))
theorem u23_15 : type_of% (@swc _ _ c23_15.eq_1) := @swc _ _ c23_15.eq_1
def c23 : SC := (.seq (.reg [SO.mk (some 1) (.box 36 (.tmp 0)) none, SO.mk (some 2) (.move (.const (Value.bool false))) none]) (.keep [1] c23_15))
theorem c23_eq : annC Tryd.f23 = some c23 := by kernel_rfl
theorem r23 : Tryd.f23.results.toList = [.tmp 2] := by kernel_rfl
theorem e23 : enters Tryd.prog 23 = true := by kernel_rfl
def o36_1 : List SO := ((SO.mk (some 15) (.bin .eql 3 (.tmp 14) (.const (Value.int .i64 0))) (some (11 , true))) :: (SO.mk (some 16) (.pick (.tmp 11) (.tmp 15) (.const (Value.bool false))) none) :: (SO.mk (some 2) (.move (.tmp 16)) none) :: [])
theorem v36_1 : type_of% (@swl _ _ o36_1.eq_1) := @swl _ _ o36_1.eq_1
def o36_2 : List SO := ((SO.mk (some 11) (.move (.tmp 10)) none) :: (SO.mk (some 12) (.faddr 40 (.tmp 1) 2) (some (11 , true))) :: (SO.mk (some 13) (.load 34 (.tmp 12)) (some (11 , true))) :: (SO.mk (some 14) (.len 34 (.tmp 13)) (some (11 , true))) :: o36_1)
theorem v36_2 : type_of% (@swl _ _ o36_2.eq_1) := @swl _ _ o36_2.eq_1
def o36_3 : List SO := ((SO.mk (some 7) (.faddr 40 (.tmp 1) 1) (some (6 , true))) :: (SO.mk (some 8) (.load 3 (.tmp 7)) (some (6 , true))) :: (SO.mk (some 9) (.bin .eql 3 (.tmp 8) (.const (Value.int .i64 0))) (some (6 , true))) :: (SO.mk (some 10) (.pick (.tmp 6) (.tmp 9) (.const (Value.bool false))) none) :: o36_2)
theorem v36_3 : type_of% (@swl _ _ o36_3.eq_1) := @swl _ _ o36_3.eq_1
def c36_4 : SC := (.seq (.reg ((SO.mk (some 3) (.faddr 40 (.tmp 1) 0) none) :: (SO.mk (some 4) (.load 3 (.tmp 3)) none) :: (SO.mk (some 5) (.bin .eql 3 (.tmp 4) (.const (Value.int .i64 0))) none) :: (SO.mk (some 6) (.move (.tmp 5)) none) :: o36_3)) (.keep [2] .ret))
theorem u36_4 : type_of% (@swc _ _ c36_4.eq_1) := @swc _ _ c36_4.eq_1
def c36 : SC := (.seq (.reg [SO.mk (some 1) (.box 40 (.tmp 0)) none, SO.mk (some 2) (.move (.const (Value.bool false))) none]) (.keep [1] c36_4))
theorem c36_eq : annC Tryd.f36 = some c36 := by kernel_rfl
theorem r36 : Tryd.f36.results.toList = [.tmp 2] := by kernel_rfl
theorem e36 : enters Tryd.prog 36 = true := by kernel_rfl
def c22_1 : SC := (.cond (.tmp 9) .skip (.exit 0))
theorem u22_1 : type_of% (@swc _ _ c22_1.eq_1) := @swc _ _ c22_1.eq_1
def o22_2 : List SO := ((SO.mk (some 16) (.move (.tmp 0)) none) :: (SO.mk (some 17) (.call 21 [(.tmp 15), (.const (Value.int .i64 0)), (.tmp 16)]) none) :: (SO.mk (some 18) (.un .not (.tmp 17)) none) :: [])
theorem v22_2 : type_of% (@swl _ _ o22_2.eq_1) := @swl _ _ o22_2.eq_1
def c22_3 : SC := (.seq (.reg [SO.mk (some 4) (.move (.const (Value.bool false))) none]) (.keep [4] .ret))
theorem u22_3 : type_of% (@swc _ _ c22_3.eq_1) := @swc _ _ c22_3.eq_1
def c22_4 : SC := (.cond (.tmp 18) c22_3 .skip)
theorem u22_4 : type_of% (@swc _ _ c22_4.eq_1) := @swc _ _ c22_4.eq_1
def c22_5 : SC := (.reg [SO.mk (some 10) (.move (.tmp 5)) none, SO.mk (some 11) (.bin .add 3 (.tmp 10) (.const (Value.int .i64 1))) none, SO.mk (some 5) (.move (.tmp 11)) none])
theorem u22_5 : type_of% (@swc _ _ c22_5.eq_1) := @swc _ _ c22_5.eq_1
def c22_6 : SC := (.seq (.block 1 (.seq (.reg ((SO.mk (some 12) (.move (.tmp 1)) none) :: (SO.mk (some 13) (.move (.tmp 5)) none) :: (SO.mk (some 14) (.iaddr 34 (.tmp 12) (.tmp 13)) none) :: (SO.mk (some 15) (.load 3 (.tmp 14)) none) :: o22_2)) (.keep [18, 5, 0, 1] c22_4))) (.keep [5, 0, 1] c22_5))
theorem u22_6 : type_of% (@swc _ _ c22_6.eq_1) := @swc _ _ c22_6.eq_1
def c22_7 : SC := (.seq (.seq (.reg [SO.mk (some 6) (.move (.tmp 5)) none, SO.mk (some 7) (.move (.tmp 1)) none, SO.mk (some 8) (.len 34 (.tmp 7)) none, SO.mk (some 9) (.bin .lss 3 (.tmp 6) (.tmp 8)) none]) (.keep [9, 1, 0, 5] c22_1)) (.keep [5, 0, 1] c22_6))
theorem u22_7 : type_of% (@swc _ _ c22_7.eq_1) := @swc _ _ c22_7.eq_1
def c22_8 : SC := (.block 0 (.loop (.keep [1, 0, 5] c22_7)))
theorem u22_8 : type_of% (@swc _ _ c22_8.eq_1) := @swc _ _ c22_8.eq_1
def c22_9 : SC := (.seq (.reg [SO.mk (some 4) (.move (.const (Value.bool true))) none]) (.keep [4] .ret))
theorem u22_9 : type_of% (@swc _ _ c22_9.eq_1) := @swc _ _ c22_9.eq_1
def c22_10 : SC := (.seq (.seq (.reg [SO.mk (some 5) (.move (.const (Value.int .i64 0))) none]) (.keep [1, 0, 5] c22_8)) (.keep [] c22_9))
theorem u22_10 : type_of% (@swc _ _ c22_10.eq_1) := @swc _ _ c22_10.eq_1
def c22 : SC := (.seq (.reg [SO.mk (some 4) (.move (.const (Value.bool false))) none]) (.keep [1, 0] c22_10))
theorem c22_eq : annC Tryd.f22 = some c22 := by kernel_rfl
theorem r22 : Tryd.f22.results.toList = [.tmp 4] := by kernel_rfl
theorem e22 : enters Tryd.prog 22 = true := by kernel_rfl
end Go.Proofs.YtckjgipcephmfaaDoor
namespace Go.Proofs.YtckjgipcephmfaaDoor
open Go.RowKit
set_option maxHeartbeats 4000000
set_option maxRecDepth 20000
attribute [local irreducible] SW SWL SWLn SWD SEcall SEcallv SDv SE SO1 SOg ACalls ACallv Wk EndV
set_option linter.unusedSimpArgs false
set_option linter.unusedVariables false
structure RecD where
  kind : Int
  id : Int
  n : Int
  name : ByteArray
  key : ByteArray
  pre : ByteArray
  frz : Int
  drop : Int
  ver : VerD
  ask : AskD
  part : PartD
  secs : List Int
  vol : Int
  pos : Int
instance : Inhabited RecD := ⟨⟨0, 0, 0, ⟨#[]⟩, ⟨#[]⟩, ⟨#[]⟩, 0, 0, default, default, default, [], 0, 0⟩⟩
def RecD.row (r : RecD) : List RV := [.v (.int .i64 r.kind), .v (.int .i64 r.id), .v (.int .i64 r.n), .v (.string r.name), .v (.string r.key), .v (.string r.pre), .v (.int .i64 r.frz), .v (.int .i64 r.drop),
  .v (.int .i64 r.ver.id), .v (.string r.ver.bkt), .v (.string r.ver.key), .v (.bool r.ver.null), .v (.bool r.ver.mark), .v (.int .i64 r.ver.size), .v (.int .i64 r.ver.time), .v (.int .i64 r.ver.tier), ints r.ver.secs, .v (.int .i64 r.ver.vol), .v (.int .i64 r.ver.pos), .v (.int .i64 r.ver.till),
  .v (.int .i64 r.ask.ver), .v (.int .i64 r.ask.days), .v (.int .i64 r.ask.cls), .v (.int .i64 r.part.num), .v (.int .i64 r.part.size), ints r.part.secs, ints r.secs, .v (.int .i64 r.vol), .v (.int .i64 r.pos)]
def RecD.av (r : RecD) : AV := .agg (r.row.map .d)
def VerD.av (v : VerD) : AV := .agg (v.row.map .d)
def PartD.av (p : PartD) : AV := .agg (p.row.map .d)
structure RecD.wf (r : RecD) : Prop where
  f1 : -9223372036854775808 ≤ r.frz ∧ r.frz ≤ 9223372036854775807
  d1 : -9223372036854775808 ≤ r.drop ∧ r.drop ≤ 9223372036854775807
def noT (s : ByteArray) : Bool := s.toList == (⟨#[]⟩ : ByteArray).toList
def emptyV (v : VerD) : Bool := v.id == 0 && noT v.bkt && noT v.key && !v.null && !v.mark && v.size == 0 && v.time == 0 && v.tier == 0 && (v.secs.length : Int) == 0 && v.vol == 0 && v.pos == 0 && v.till == 0
def nothP (p : PartD) : Bool := p.num == 0 && p.size == 0 && (p.secs.length : Int) == 0
def ruleZ (a : ByteArray) (x y : Int) : Bool := noT a && (x == 0 && (y == 0 && true))
def rule0 (r : RecD) : Bool := ruleZ r.pre r.frz r.drop
def askZ (x y z : Int) : Bool := x == 0 && (y == 0 && (z == 0 && true))
def ask0 (a : AskD) : Bool := askZ a.ver a.days a.cls
def rngA (r : RecD) : Bool := fitsF 16777215 [r.id, r.ver.id, r.ask.ver]
def rngB (r : RecD) : Bool := fitsF 65535 [r.pos, r.ver.size, r.ver.pos, r.ask.days, r.part.size]
def rngC (r : RecD) : Bool := fitsF 255 [r.vol, r.ver.tier, r.ver.vol, r.ask.cls, r.part.num]
def rngD (r : RecD) : Bool := fitsF 4294967295 [r.n, IntKind.i64.wrap (r.frz + 1), IntKind.i64.wrap (r.drop + 1), r.ver.time, r.ver.till] && decide (r.frz ≥ -1) && decide (r.drop ≥ -1)
def rngF (r : RecD) : Bool := rngC r && rngB r && rngA r && rngD r
def szF (r : RecD) : Bool := namesF r.secs [r.name, r.key, r.pre, r.ver.bkt, r.ver.key] && namesF r.ver.secs [] && namesF r.part.secs []
def kId (k : Int) : Bool := k == 5 || k == 6 || k == 8 || k == 9 || k == 10 || k == 11 || k == 12
def kName (k : Int) : Bool := k == 1 || k == 2 || k == 3 || k == 10
def kN (k : Int) : Bool := k == 2 || k == 8 || k == 13
def kVol (k : Int) : Bool := k == 6 || k == 14
def bareF (r : RecD) : Bool := (kId r.kind || r.id == 0) && (kN r.kind || r.n == 0) && (kName r.kind || noT r.name) && (r.kind == 10 || noT r.key) && (r.kind == 3 || rule0 r) && (r.kind == 4 || emptyV r.ver) && (r.kind == 7 || ask0 r.ask) && (r.kind == 11 || nothP r.part) && (r.kind == 8 || (r.secs.length : Int) == 0) && (kVol r.kind || r.vol == 0) && (r.kind == 6 || r.pos == 0)
def kindF (r : RecD) : Bool := decide (r.kind ≥ 1) && decide (r.kind ≤ 14)
def recF (r : RecD) : Int := bif !kindF r then 3 else bif !rngF r then 2 else bif !szF r then 1 else bif !bareF r then 4 else 0
theorem empty_p (v : VerD) : Pure Tryd.prog 35 [v.av] (Bo (emptyV v)) := by
  refine pure_of follows Tryd.func35 c35_eq r35 (Nat.le_of_ble_eq_true rfl) fun B σ hcl _ => ?_
  repeat' (first | (simp -implicitDefEqProofs only [*, contN, contC, Nat.reduceBEq, Bool.or_false, Bool.or_true, Bool.false_or, Bool.true_or, Bool.not_true, Bool.not_false, SEconv, w_skip, w_ret, w_exit, w_reg, w_dreg, w_seq, SK_n, SK_r, SK_x, w_keep, w_block, w_cond, w_nil, w_cons, w_consg, w_nnil, w_ncons, w_dnil, w_dcons, w_dconsg, HK_app, HD_app, HQ_n, HQ_r, HQ_x, HQ_bn, HQ_br, HQ_bx, HQ_en, HQ_er, HQ_ex, CondB_true, CondB_false, SO1, w_sdv, SDe_alloc, SDe_box, SDe_bslice, SDe_app, true_imp_iff, false_imp_iff, and_false, false_and, not_false_eq_true, not_true_eq_false, addN, mkNames, killT, killD, killO, List.foldl_nil, List.foldl_cons, List.append_nil, List.nil_append, List.cons_append, GuardS_true, GuardS_false, GuardD_true, GuardD_false, DK_true, DK_false, lt_self_add, le_self_add, decide_true, decide_false, Bool.false_eq_true, Bool.true_eq_false, Nat.add_left_cancel_iff, SE, SEalloc, SEbox, SEstore, w_bs, SEbl, SEfz, SEbs0, fzName, osOf, AV.fz1, w_app, w_mk, aev, opd, Fr.get, putO, Fr.norm, List.map_cons, List.map_nil, with1, with2, onInt, AV.lit, entry, ↓reduceIte, Nat.reduceEqDiff, Nat.reduceAdd, reduceCtorEq, true_and, and_true, Option.map_some, Option.map_none, Option.bind_some, Option.bind_none, cond_true, cond_false, binV, unV, fieldV, loadV, sto, cellsAV, newF, newL, Fr.map, Loc.kill, Loc.set, AO.kill, AV.kill, AV.mapN, AV.mapNL, List.filter_nil, List.filter_cons, allP, EndV, retV, resV, resL, frz, dropL, AV.pick, nilV, tupV, imp_self, ne_eq, Int.cast_ofNat_Int, Int.reduceLT, Int.reduceToNat, List.getD_cons_zero, List.getD_cons_succ, bsliceV, buildV, afill, repl, chunk, rvs, AV.rv, RV.nrm, List.getElem?_nil, List.append_assoc, Nat.reduceMul, Nat.reducePow, Nat.zero_lt_succ, Nat.zero_add, Nat.add_zero, List.length_cons, List.length_nil, Nat.reduceLeDiff, Nat.le_refl, List.take_succ_cons, List.take_zero, List.drop_succ_cons, List.drop_zero, indexV, lenV, rowOf_mapD, rowOf_mapI, rowOf_mapA, List.length_map, Int.toNat_natCast, List.getElem?_cons_zero, List.getElem?_cons_succ, and_self, implies_true, if_true, if_false, HQ_zn, HQ_zr, HQ_wn, HQ_wr, AV.nz, AV.nzL, RV.nrm, SEbin, SEnil, nilK, srcV, dstV, appName, List.length_append, Nat.mul_one, take_map_len, take_map_app, List.getElem?_cons_zero, List.map_append, SEmkmap, SEmset, mgetV, kvOf, getM, setM, c35, r35, v35_1, v35_2, v35_3, v35_4, v35_5, v35_6, v35_7, v35_8, v35_9, v35_10, v35_11, v35_12, v35_13, v35_14, u35_15, ty36, ty3, ty9, ty4, ty34, VerD.av, VerD.row, ints]) | (with_reducible refine And.intro ?_ ?_) | (refine EndX.plain ?_) | (refine nil_split (fun hn => ?_) (fun hn => ?_)) | (refine gcall_no not_false ?_) | (refine gdcall_no not_false ?_) | (refine GuardS_of _ _ _ _ _ _ (fun hg => ?_) (fun hg => ?_)) | (refine GuardD_of _ _ _ _ (fun hg => ?_) (fun hg => ?_)) | (refine CondB_of _ _ _ _ _ _ _ ?_ (fun hg => ?_) (fun hg => ?_)))
  all_goals (try (first | ((first | unfold noN | unfold Fr.below | unfold Loc.below); simp [Fr.allN, AV.allN, AV.allNL, AO.allN]; done) | rfl | trivial | assumption | (intro row hrow; simp only [List.mem_map] at hrow; obtain ⟨x, _, rfl⟩ := hrow; rfl) | (refine Wk.keep hcl ?_ ?_ ?_; (focus (simp [Fr.get, VerD.av, VerD.row, ints] <;> fail)); (focus (simp [sto, VerD.av, VerD.row, ints] <;> fail)); (focus (simp <;> fail))) | (simp [allP, opd, Fr.get, Fr.below, Fr.allN, AV.allN, AV.allNL, Loc.below, AO.allN, noN, killO, killT, killD, mkNames, AO.kill, AV.kill, AV.mapN, AV.mapNL]; done) | (with_reducible exact ltD (by assumption)) | omega | (simp only [decide_eq_true_eq, decide_eq_false_iff_not] at *; omega)))
  all_goals (first | (simp only [emptyV, noT, *, Bool.false_or, Bool.true_or, Bool.or_true, Bool.or_false, Bool.and_true, Bool.true_and, Bool.false_and, Bool.and_false, Bool.not_true, Bool.not_false, cond_true, cond_false]; done) | trace_state)
theorem noVersion_p (v : VerD) : Pure Tryd.prog 23 [v.av] (Bo (emptyV v)) := by
  refine pure_of follows Tryd.func23 c23_eq r23 (Nat.le_of_ble_eq_true rfl) fun B σ hcl _ => ?_
  repeat' (first | (simp -implicitDefEqProofs only [*, contN, contC, Nat.reduceBEq, Bool.or_false, Bool.or_true, Bool.false_or, Bool.true_or, Bool.not_true, Bool.not_false, SEconv, w_skip, w_ret, w_exit, w_reg, w_dreg, w_seq, SK_n, SK_r, SK_x, w_keep, w_block, w_cond, w_nil, w_cons, w_consg, w_nnil, w_ncons, w_dnil, w_dcons, w_dconsg, HK_app, HD_app, HQ_n, HQ_r, HQ_x, HQ_bn, HQ_br, HQ_bx, HQ_en, HQ_er, HQ_ex, CondB_true, CondB_false, SO1, w_sdv, SDe_alloc, SDe_box, SDe_bslice, SDe_app, true_imp_iff, false_imp_iff, and_false, false_and, not_false_eq_true, not_true_eq_false, addN, mkNames, killT, killD, killO, List.foldl_nil, List.foldl_cons, List.append_nil, List.nil_append, List.cons_append, GuardS_true, GuardS_false, GuardD_true, GuardD_false, DK_true, DK_false, lt_self_add, le_self_add, decide_true, decide_false, Bool.false_eq_true, Bool.true_eq_false, Nat.add_left_cancel_iff, SE, SEalloc, SEbox, SEstore, w_bs, SEbl, SEfz, SEbs0, fzName, osOf, AV.fz1, w_app, w_mk, aev, opd, Fr.get, putO, Fr.norm, List.map_cons, List.map_nil, with1, with2, onInt, AV.lit, entry, ↓reduceIte, Nat.reduceEqDiff, Nat.reduceAdd, reduceCtorEq, true_and, and_true, Option.map_some, Option.map_none, Option.bind_some, Option.bind_none, cond_true, cond_false, binV, unV, fieldV, loadV, sto, cellsAV, newF, newL, Fr.map, Loc.kill, Loc.set, AO.kill, AV.kill, AV.mapN, AV.mapNL, List.filter_nil, List.filter_cons, allP, EndV, retV, resV, resL, frz, dropL, AV.pick, nilV, tupV, imp_self, ne_eq, Int.cast_ofNat_Int, Int.reduceLT, Int.reduceToNat, List.getD_cons_zero, List.getD_cons_succ, bsliceV, buildV, afill, repl, chunk, rvs, AV.rv, RV.nrm, List.getElem?_nil, List.append_assoc, Nat.reduceMul, Nat.reducePow, Nat.zero_lt_succ, Nat.zero_add, Nat.add_zero, List.length_cons, List.length_nil, Nat.reduceLeDiff, Nat.le_refl, List.take_succ_cons, List.take_zero, List.drop_succ_cons, List.drop_zero, indexV, lenV, rowOf_mapD, rowOf_mapI, rowOf_mapA, List.length_map, Int.toNat_natCast, List.getElem?_cons_zero, List.getElem?_cons_succ, and_self, implies_true, if_true, if_false, HQ_zn, HQ_zr, HQ_wn, HQ_wr, AV.nz, AV.nzL, RV.nrm, SEbin, SEnil, nilK, srcV, dstV, appName, List.length_append, Nat.mul_one, take_map_len, take_map_app, List.getElem?_cons_zero, List.map_append, SEmkmap, SEmset, mgetV, kvOf, getM, setM, c23, r23, v23_1, v23_2, v23_3, v23_4, v23_5, v23_6, v23_7, v23_8, v23_9, v23_10, v23_11, v23_12, v23_13, v23_14, u23_15, ty36, ty3, ty9, ty4, ty34, VerD.av, VerD.row, ints]) | (with_reducible refine And.intro ?_ ?_) | (refine EndX.plain ?_) | (refine nil_split (fun hn => ?_) (fun hn => ?_)) | (refine gcall_no not_false ?_) | (refine gdcall_no not_false ?_) | (refine GuardS_of _ _ _ _ _ _ (fun hg => ?_) (fun hg => ?_)) | (refine GuardD_of _ _ _ _ (fun hg => ?_) (fun hg => ?_)) | (refine CondB_of _ _ _ _ _ _ _ ?_ (fun hg => ?_) (fun hg => ?_)))
  all_goals (try (first | ((first | unfold noN | unfold Fr.below | unfold Loc.below); simp [Fr.allN, AV.allN, AV.allNL, AO.allN]; done) | rfl | trivial | assumption | (intro row hrow; simp only [List.mem_map] at hrow; obtain ⟨x, _, rfl⟩ := hrow; rfl) | (refine Wk.keep hcl ?_ ?_ ?_; (focus (simp [Fr.get, VerD.av, VerD.row, ints] <;> fail)); (focus (simp [sto, VerD.av, VerD.row, ints] <;> fail)); (focus (simp <;> fail))) | (simp [allP, opd, Fr.get, Fr.below, Fr.allN, AV.allN, AV.allNL, Loc.below, AO.allN, noN, killO, killT, killD, mkNames, AO.kill, AV.kill, AV.mapN, AV.mapNL]; done) | (with_reducible exact ltD (by assumption)) | omega | (simp only [decide_eq_true_eq, decide_eq_false_iff_not] at *; omega)))
  all_goals (first | (simp only [emptyV, noT, *, Bool.false_or, Bool.true_or, Bool.or_true, Bool.or_false, Bool.and_true, Bool.true_and, Bool.false_and, Bool.and_false, Bool.not_true, Bool.not_false, cond_true, cond_false]; done) | trace_state)
theorem nothing_p (p : PartD) : Pure Tryd.prog 36 [p.av] (Bo (nothP p)) := by
  refine pure_of follows Tryd.func36 c36_eq r36 (Nat.le_of_ble_eq_true rfl) fun B σ hcl _ => ?_
  repeat' (first | (simp -implicitDefEqProofs only [*, contN, contC, Nat.reduceBEq, Bool.or_false, Bool.or_true, Bool.false_or, Bool.true_or, Bool.not_true, Bool.not_false, SEconv, w_skip, w_ret, w_exit, w_reg, w_dreg, w_seq, SK_n, SK_r, SK_x, w_keep, w_block, w_cond, w_nil, w_cons, w_consg, w_nnil, w_ncons, w_dnil, w_dcons, w_dconsg, HK_app, HD_app, HQ_n, HQ_r, HQ_x, HQ_bn, HQ_br, HQ_bx, HQ_en, HQ_er, HQ_ex, CondB_true, CondB_false, SO1, w_sdv, SDe_alloc, SDe_box, SDe_bslice, SDe_app, true_imp_iff, false_imp_iff, and_false, false_and, not_false_eq_true, not_true_eq_false, addN, mkNames, killT, killD, killO, List.foldl_nil, List.foldl_cons, List.append_nil, List.nil_append, List.cons_append, GuardS_true, GuardS_false, GuardD_true, GuardD_false, DK_true, DK_false, lt_self_add, le_self_add, decide_true, decide_false, Bool.false_eq_true, Bool.true_eq_false, Nat.add_left_cancel_iff, SE, SEalloc, SEbox, SEstore, w_bs, SEbl, SEfz, SEbs0, fzName, osOf, AV.fz1, w_app, w_mk, aev, opd, Fr.get, putO, Fr.norm, List.map_cons, List.map_nil, with1, with2, onInt, AV.lit, entry, ↓reduceIte, Nat.reduceEqDiff, Nat.reduceAdd, reduceCtorEq, true_and, and_true, Option.map_some, Option.map_none, Option.bind_some, Option.bind_none, cond_true, cond_false, binV, unV, fieldV, loadV, sto, cellsAV, newF, newL, Fr.map, Loc.kill, Loc.set, AO.kill, AV.kill, AV.mapN, AV.mapNL, List.filter_nil, List.filter_cons, allP, EndV, retV, resV, resL, frz, dropL, AV.pick, nilV, tupV, imp_self, ne_eq, Int.cast_ofNat_Int, Int.reduceLT, Int.reduceToNat, List.getD_cons_zero, List.getD_cons_succ, bsliceV, buildV, afill, repl, chunk, rvs, AV.rv, RV.nrm, List.getElem?_nil, List.append_assoc, Nat.reduceMul, Nat.reducePow, Nat.zero_lt_succ, Nat.zero_add, Nat.add_zero, List.length_cons, List.length_nil, Nat.reduceLeDiff, Nat.le_refl, List.take_succ_cons, List.take_zero, List.drop_succ_cons, List.drop_zero, indexV, lenV, rowOf_mapD, rowOf_mapI, rowOf_mapA, List.length_map, Int.toNat_natCast, List.getElem?_cons_zero, List.getElem?_cons_succ, and_self, implies_true, if_true, if_false, HQ_zn, HQ_zr, HQ_wn, HQ_wr, AV.nz, AV.nzL, RV.nrm, SEbin, SEnil, nilK, srcV, dstV, appName, List.length_append, Nat.mul_one, take_map_len, take_map_app, List.getElem?_cons_zero, List.map_append, SEmkmap, SEmset, mgetV, kvOf, getM, setM, c36, r36, v36_1, v36_2, v36_3, u36_4, ty40, ty3, ty34, PartD.av, PartD.row, ints]) | (with_reducible refine And.intro ?_ ?_) | (refine EndX.plain ?_) | (refine nil_split (fun hn => ?_) (fun hn => ?_)) | (refine gcall_no not_false ?_) | (refine gdcall_no not_false ?_) | (refine GuardS_of _ _ _ _ _ _ (fun hg => ?_) (fun hg => ?_)) | (refine GuardD_of _ _ _ _ (fun hg => ?_) (fun hg => ?_)) | (refine CondB_of _ _ _ _ _ _ _ ?_ (fun hg => ?_) (fun hg => ?_)))
  all_goals (try (first | ((first | unfold noN | unfold Fr.below | unfold Loc.below); simp [Fr.allN, AV.allN, AV.allNL, AO.allN]; done) | rfl | trivial | assumption | (intro row hrow; simp only [List.mem_map] at hrow; obtain ⟨x, _, rfl⟩ := hrow; rfl) | (refine Wk.keep hcl ?_ ?_ ?_; (focus (simp [Fr.get, PartD.av, PartD.row, ints] <;> fail)); (focus (simp [sto, PartD.av, PartD.row, ints] <;> fail)); (focus (simp <;> fail))) | (simp [allP, opd, Fr.get, Fr.below, Fr.allN, AV.allN, AV.allNL, Loc.below, AO.allN, noN, killO, killT, killD, mkNames, AO.kill, AV.kill, AV.mapN, AV.mapNL]; done) | (with_reducible exact ltD (by assumption)) | omega | (simp only [decide_eq_true_eq, decide_eq_false_iff_not] at *; omega)))
  all_goals (first | (simp only [nothP, *, Bool.false_or, Bool.true_or, Bool.or_true, Bool.or_false, Bool.and_true, Bool.true_and, Bool.false_and, Bool.and_false, Bool.not_true, Bool.not_false, cond_true, cond_false]; done) | trace_state)
theorem fitsF_yes {most : Int} {l : List Int} {k : Nat} (hk : l.length ≤ k) (h : ∀ i, i < k → noFit most l[i]! = false) : fitsF most l = true := by
  unfold fitsF
  rw [Bool.not_eq_true', List.any_eq_false]
  intro x hx
  obtain ⟨i, hi, rfl⟩ := List.getElem_of_mem hx
  have := h i (by omega)
  rw [getElem!_pos l i hi] at this
  simpa using this
theorem fitsF_no {most : Int} {l : List Int} {k : Nat} (hk : k < l.length) (h : noFit most l[k]! = true) : fitsF most l = false := by
  unfold fitsF
  rw [Bool.not_eq_false', List.any_eq_true]
  exact ⟨l[k]!, by rw [getElem!_pos l k hk]; exact List.getElem_mem hk, h⟩
theorem inR_fit (n most : Int) : (!inR n 0 most) = noFit most n := by
  unfold inR noFit
  rw [Bool.eq_iff_iff]; simp
theorem allIn_p (most : Int) (l : List Int) : Pure Tryd.prog 22 [I most, .d (.ro (l.map int_))] (Bo (fitsF most l)) := by
  refine pure_of follows Tryd.func22 c22_eq r22 (Nat.le_of_ble_eq_true rfl) fun B σ hcl hsz => ?_
  have hlen : l.length ≤ 2 ^ 47 := by simpa using (show Sized (.ro (l.map int_)) from hsz (.d (.ro (l.map int_))) (by simp)).len
  clear hsz
  repeat' (first | (simp -implicitDefEqProofs only [*, contN, contC, Nat.reduceBEq, Bool.or_false, Bool.or_true, Bool.false_or, Bool.true_or, Bool.not_true, Bool.not_false, SEconv, w_skip, w_ret, w_exit, w_reg, w_dreg, w_seq, SK_n, SK_r, SK_x, w_keep, w_block, w_cond, w_nil, w_cons, w_consg, w_nnil, w_ncons, w_dnil, w_dcons, w_dconsg, HK_app, HD_app, HQ_n, HQ_r, HQ_x, HQ_bn, HQ_br, HQ_bx, HQ_en, HQ_er, HQ_ex, CondB_true, CondB_false, SO1, w_sdv, SDe_alloc, SDe_box, SDe_bslice, SDe_app, true_imp_iff, false_imp_iff, and_false, false_and, not_false_eq_true, not_true_eq_false, addN, mkNames, killT, killD, killO, List.foldl_nil, List.foldl_cons, List.append_nil, List.nil_append, List.cons_append, GuardS_true, GuardS_false, GuardD_true, GuardD_false, DK_true, DK_false, lt_self_add, le_self_add, decide_true, decide_false, Bool.false_eq_true, Bool.true_eq_false, Nat.add_left_cancel_iff, SE, SEalloc, SEbox, SEstore, w_bs, SEbl, SEfz, SEbs0, fzName, osOf, AV.fz1, w_app, w_mk, aev, opd, Fr.get, putO, Fr.norm, List.map_cons, List.map_nil, with1, with2, onInt, AV.lit, entry, ↓reduceIte, Nat.reduceEqDiff, Nat.reduceAdd, reduceCtorEq, true_and, and_true, Option.map_some, Option.map_none, Option.bind_some, Option.bind_none, cond_true, cond_false, binV, unV, fieldV, loadV, sto, cellsAV, newF, newL, Fr.map, Loc.kill, Loc.set, AO.kill, AV.kill, AV.mapN, AV.mapNL, List.filter_nil, List.filter_cons, allP, EndV, retV, resV, resL, frz, dropL, AV.pick, nilV, tupV, imp_self, ne_eq, Int.cast_ofNat_Int, Int.reduceLT, Int.reduceToNat, List.getD_cons_zero, List.getD_cons_succ, bsliceV, buildV, afill, repl, chunk, rvs, AV.rv, RV.nrm, List.getElem?_nil, List.append_assoc, Nat.reduceMul, Nat.reducePow, Nat.zero_lt_succ, Nat.zero_add, Nat.add_zero, List.length_cons, List.length_nil, Nat.reduceLeDiff, Nat.le_refl, List.take_succ_cons, List.take_zero, List.drop_succ_cons, List.drop_zero, indexV, lenV, rowOf_mapD, rowOf_mapI, rowOf_mapA, List.length_map, Int.toNat_natCast, List.getElem?_cons_zero, List.getElem?_cons_succ, and_self, implies_true, if_true, if_false, HQ_zn, HQ_zr, HQ_wn, HQ_wr, AV.nz, AV.nzL, RV.nrm, SEbin, SEnil, nilK, srcV, dstV, appName, List.length_append, Nat.mul_one, take_map_len, take_map_app, List.getElem?_cons_zero, List.map_append, SEmkmap, SEmset, mgetV, kvOf, getM, setM, c22, r22, u22_1, v22_2, u22_3, u22_4, u22_5, u22_6, u22_7, u22_8, u22_9, u22_10, ty34, ty3, int_, inR_fit]) | (with_reducible refine And.intro ?_ ?_) | (refine call_ro e21 ( In_p _ _ _) rfl ?_ ?_ ?_ ?_) | (refine gcall_ro e21 ( In_p _ _ _) rfl ?_ ?_ ?_ ?_) | (refine dcall_ro e21 ( In_p _ _ _) rfl ?_ ?_ ?_ ?_) | (refine gdcall_ro rfl e21 ( In_p _ _ _) rfl ?_ ?_ ?_ ?_) | (refine loop_nat (l.length) (fun k => ∀ i, i < k → noFit most l[i]! = false) (fun k => [(1, .d (.ro (l.map int_))), (0, I most), (5, I k)]) (fun k => []) ?_ (Wk.keep hcl ?_ ?_ ?_) fun k hk hF => ?_; rotate_left 1; (focus (simp [Fr.get, newF, Fr.map, AV.kill, AV.mapN, int_, inR_fit] <;> fail)); (focus (simp [sto, newL, Loc.kill, Loc.set, AO.kill, AV.kill, AV.mapN, int_, inR_fit] <;> fail)); (focus (simp [newL, Loc.kill, Loc.set, int_, inR_fit] <;> fail)); (try have hw : IntKind.i64.wrap ((k : Int) + 1) = (k : Int) + 1 := IntWalk.i64_in _ (by omega))) | (refine EndX.plain ?_) | (refine nil_split (fun hn => ?_) (fun hn => ?_)) | (refine gcall_no not_false ?_) | (refine gdcall_no not_false ?_) | (refine GuardS_of _ _ _ _ _ _ (fun hg => ?_) (fun hg => ?_)) | (refine GuardD_of _ _ _ _ (fun hg => ?_) (fun hg => ?_)) | (refine CondB_of _ _ _ _ _ _ _ ?_ (fun hg => ?_) (fun hg => ?_)))
  all_goals (try (first | ((first | unfold noN | unfold Fr.below | unfold Loc.below); simp [Fr.allN, AV.allN, AV.allNL, AO.allN]; done) | rfl | trivial | assumption | (intro row hrow; simp only [List.mem_map] at hrow; obtain ⟨x, _, rfl⟩ := hrow; rfl) | (refine Wk.keep hcl ?_ ?_ ?_; (focus (simp [Fr.get, int_, inR_fit] <;> fail)); (focus (simp [sto, int_, inR_fit] <;> fail)); (focus (simp <;> fail))) | (simp [allP, opd, Fr.get, Fr.below, Fr.allN, AV.allN, AV.allNL, Loc.below, AO.allN, noN, killO, killT, killD, mkNames, AO.kill, AV.kill, AV.mapN, AV.mapNL]; done) | (with_reducible exact ltD (by assumption)) | omega | (simp only [decide_eq_true_eq, decide_eq_false_iff_not] at *; omega)))
  all_goals first
    | (rw [fitsF_no (ltD (by assumption)) (by assumption)]; done)
    | (rw [fitsF_yes (geD (by assumption)) (by assumption)]; done)
    | (intro i hi; omega)
    | (intro i hi
       rcases Nat.lt_or_ge i k with h | h
       · exact hF i h
       · have : i = k := by omega
         subst this; assumption)
end Go.Proofs.YtckjgipcephmfaaDoor
