/- ring.Commit. -/
import Derived.Test.YtkcfnhfbdcnhjaaFormat
import Derived.Test.YtkcfnhfbdcnhjaaFrame
import Derived.Test.YtkcfnhfbdcnhjaaJrn
import Derived.Test.YtkcfnhfbdcnhjaaTypes
namespace Go.Proofs.Ytkcfnhfbdcnhjaa
open Go.RowKit
set_option maxRecDepth 100000
/-- icehouse_ring.Commit -/
def o27_1 : List SO := ((SO.mk (some 9) (.alloc 47) none) :: (SO.mk (some 10) (.move (.const (Value.int .i64 0))) none) :: [])
theorem v27_1 (P : Program) (B : Nat) (T0 : List Nat) (r : Sto) (K : Fr → Loc → Prop) (a : Fr) (l : Loc) : SWL P B T0 r o27_1 K a l = SWL P B T0 r ((SO.mk (some 9) (.alloc 47) none) :: (SO.mk (some 10) (.move (.const (Value.int .i64 0))) none) :: []) K a l := (rfl)
def o27_2 : List SO := ((SO.mk none (.store 47 (.tmp 9) (.tmp 23)) none) :: (SO.mk (some 10) (.move (.tmp 24)) none) :: [])
theorem v27_2 (P : Program) (B : Nat) (T0 : List Nat) (r : Sto) (K : Fr → Loc → Prop) (a : Fr) (l : Loc) : SWL P B T0 r o27_2 K a l = SWL P B T0 r ((SO.mk none (.store 47 (.tmp 9) (.tmp 23)) none) :: (SO.mk (some 10) (.move (.tmp 24)) none) :: []) K a l := (rfl)
def c27_3 : SC := (.seq (.reg ((SO.mk (some 22) (.build 28 []) none) :: (SO.mk (some 23) (.build 47 []) none) :: (SO.mk (some 24) (.move (.tmp 11)) none) :: (SO.mk none (.store 28 (.tmp 8) (.tmp 22)) none) :: o27_2)) (.keep [8, 9, 10] .ret))
theorem u27_3 (P : Program) (B : Nat) (T0 : List Nat) (r : Sto) (Q : Ex → Fr → Loc → Prop) (a : Fr) (l : Loc) : SW P B T0 r c27_3 Q a l = SW P B T0 r (.seq (.reg ((SO.mk (some 22) (.build 28 []) none) :: (SO.mk (some 23) (.build 47 []) none) :: (SO.mk (some 24) (.move (.tmp 11)) none) :: (SO.mk none (.store 28 (.tmp 8) (.tmp 22)) none) :: o27_2)) (.keep [8, 9, 10] .ret)) Q a l := (rfl)
def c27_4 : SC := (.cond (.tmp 21) c27_3 .skip)
theorem u27_4 (P : Program) (B : Nat) (T0 : List Nat) (r : Sto) (Q : Ex → Fr → Loc → Prop) (a : Fr) (l : Loc) : SW P B T0 r c27_4 Q a l = SW P B T0 r (.cond (.tmp 21) c27_3 .skip) Q a l := (rfl)
def c27_5 : SC := (.seq (.reg [SO.mk (some 20) (.move (.tmp 11)) none, SO.mk (some 21) (.bin .neq 30 (.tmp 20) (.const (Value.int .i64 0))) none]) (.keep [21, 11, 5, 3, 4, 6, 8, 9] c27_4))
theorem u27_5 (P : Program) (B : Nat) (T0 : List Nat) (r : Sto) (Q : Ex → Fr → Loc → Prop) (a : Fr) (l : Loc) : SW P B T0 r c27_5 Q a l = SW P B T0 r (.seq (.reg [SO.mk (some 20) (.move (.tmp 11)) none, SO.mk (some 21) (.bin .neq 30 (.tmp 20) (.const (Value.int .i64 0))) none]) (.keep [21, 11, 5, 3, 4, 6, 8, 9] c27_4)) Q a l := (rfl)
def o27_6 : List SO := ((SO.mk none (.store 47 (.tmp 9) (.tmp 31)) none) :: (SO.mk (some 10) (.move (.tmp 32)) none) :: [])
theorem v27_6 (P : Program) (B : Nat) (T0 : List Nat) (r : Sto) (K : Fr → Loc → Prop) (a : Fr) (l : Loc) : SWL P B T0 r o27_6 K a l = SWL P B T0 r ((SO.mk none (.store 47 (.tmp 9) (.tmp 31)) none) :: (SO.mk (some 10) (.move (.tmp 32)) none) :: []) K a l := (rfl)
def c27_7 : SC := (.seq (.reg ((SO.mk (some 30) (.build 28 []) none) :: (SO.mk (some 31) (.build 47 []) none) :: (SO.mk (some 32) (.move (.tmp 12)) none) :: (SO.mk none (.store 28 (.tmp 8) (.tmp 30)) none) :: o27_6)) (.keep [8, 9, 10] .ret))
theorem u27_7 (P : Program) (B : Nat) (T0 : List Nat) (r : Sto) (Q : Ex → Fr → Loc → Prop) (a : Fr) (l : Loc) : SW P B T0 r c27_7 Q a l = SW P B T0 r (.seq (.reg ((SO.mk (some 30) (.build 28 []) none) :: (SO.mk (some 31) (.build 47 []) none) :: (SO.mk (some 32) (.move (.tmp 12)) none) :: (SO.mk none (.store 28 (.tmp 8) (.tmp 30)) none) :: o27_6)) (.keep [8, 9, 10] .ret)) Q a l := (rfl)
def c27_8 : SC := (.cond (.tmp 29) c27_7 .skip)
theorem u27_8 (P : Program) (B : Nat) (T0 : List Nat) (r : Sto) (Q : Ex → Fr → Loc → Prop) (a : Fr) (l : Loc) : SW P B T0 r c27_8 Q a l = SW P B T0 r (.cond (.tmp 29) c27_7 .skip) Q a l := (rfl)
def c27_9 : SC := (.seq (.reg [SO.mk (some 28) (.move (.tmp 12)) none, SO.mk (some 29) (.bin .neq 30 (.tmp 28) (.const (Value.int .i64 0))) none]) (.keep [29, 12, 5, 3, 4, 6, 8, 9] c27_8))
theorem u27_9 (P : Program) (B : Nat) (T0 : List Nat) (r : Sto) (Q : Ex → Fr → Loc → Prop) (a : Fr) (l : Loc) : SW P B T0 r c27_9 Q a l = SW P B T0 r (.seq (.reg [SO.mk (some 28) (.move (.tmp 12)) none, SO.mk (some 29) (.bin .neq 30 (.tmp 28) (.const (Value.int .i64 0))) none]) (.keep [29, 12, 5, 3, 4, 6, 8, 9] c27_8)) Q a l := (rfl)
def o27_10 : List SO := ((SO.mk (some 37) (.bin .quo 3 (.tmp 36) (.const (Value.int .i64 52))) none) :: (SO.mk (some 38) (.minmax false [(.const (Value.int .i64 1)), (.tmp 37)]) none) :: (SO.mk (some 13) (.move (.tmp 38)) none) :: [])
theorem v27_10 (P : Program) (B : Nat) (T0 : List Nat) (r : Sto) (K : Fr → Loc → Prop) (a : Fr) (l : Loc) : SWL P B T0 r o27_10 K a l = SWL P B T0 r ((SO.mk (some 37) (.bin .quo 3 (.tmp 36) (.const (Value.int .i64 52))) none) :: (SO.mk (some 38) (.minmax false [(.const (Value.int .i64 1)), (.tmp 37)]) none) :: (SO.mk (some 13) (.move (.tmp 38)) none) :: []) K a l := (rfl)
def o27_11 : List SO := ((SO.mk (some 47) (.faddr 47 (.tmp 6) 7) (some (46 , false))) :: (SO.mk (some 48) (.load 3 (.tmp 47)) (some (46 , false))) :: (SO.mk (some 49) (.bin .eql 3 (.tmp 48) (.const (Value.int .i64 1048576))) (some (46 , false))) :: (SO.mk (some 50) (.pick (.tmp 46) (.const (Value.bool true)) (.tmp 49)) none) :: [])
theorem v27_11 (P : Program) (B : Nat) (T0 : List Nat) (r : Sto) (K : Fr → Loc → Prop) (a : Fr) (l : Loc) : SWL P B T0 r o27_11 K a l = SWL P B T0 r ((SO.mk (some 47) (.faddr 47 (.tmp 6) 7) (some (46 , false))) :: (SO.mk (some 48) (.load 3 (.tmp 47)) (some (46 , false))) :: (SO.mk (some 49) (.bin .eql 3 (.tmp 48) (.const (Value.int .i64 1048576))) (some (46 , false))) :: (SO.mk (some 50) (.pick (.tmp 46) (.const (Value.bool true)) (.tmp 49)) none) :: []) K a l := (rfl)
def o27_12 : List SO := ((SO.mk (some 43) (.faddr 23 (.tmp 4) 0) none) :: (SO.mk (some 44) (.load 3 (.tmp 43)) none) :: (SO.mk (some 45) (.bin .gtr 3 (.tmp 42) (.tmp 44)) none) :: (SO.mk (some 46) (.move (.tmp 45)) none) :: o27_11)
theorem v27_12 (P : Program) (B : Nat) (T0 : List Nat) (r : Sto) (K : Fr → Loc → Prop) (a : Fr) (l : Loc) : SWL P B T0 r o27_12 K a l = SWL P B T0 r ((SO.mk (some 43) (.faddr 23 (.tmp 4) 0) none) :: (SO.mk (some 44) (.load 3 (.tmp 43)) none) :: (SO.mk (some 45) (.bin .gtr 3 (.tmp 42) (.tmp 44)) none) :: (SO.mk (some 46) (.move (.tmp 45)) none) :: o27_11) K a l := (rfl)
def c27_13 : SC := (.seq (.reg [SO.mk (some 51) (.build 28 []) none, SO.mk (some 52) (.build 47 []) none, SO.mk none (.store 28 (.tmp 8) (.tmp 51)) none, SO.mk none (.store 47 (.tmp 9) (.tmp 52)) none, SO.mk (some 10) (.move (.const (Value.int .i64 8))) none]) (.keep [8, 9, 10] .ret))
theorem u27_13 (P : Program) (B : Nat) (T0 : List Nat) (r : Sto) (Q : Ex → Fr → Loc → Prop) (a : Fr) (l : Loc) : SW P B T0 r c27_13 Q a l = SW P B T0 r (.seq (.reg [SO.mk (some 51) (.build 28 []) none, SO.mk (some 52) (.build 47 []) none, SO.mk none (.store 28 (.tmp 8) (.tmp 51)) none, SO.mk none (.store 47 (.tmp 9) (.tmp 52)) none, SO.mk (some 10) (.move (.const (Value.int .i64 8))) none]) (.keep [8, 9, 10] .ret)) Q a l := (rfl)
def c27_14 : SC := (.cond (.tmp 50) c27_13 .skip)
theorem u27_14 (P : Program) (B : Nat) (T0 : List Nat) (r : Sto) (Q : Ex → Fr → Loc → Prop) (a : Fr) (l : Loc) : SW P B T0 r c27_14 Q a l = SW P B T0 r (.cond (.tmp 50) c27_13 .skip) Q a l := (rfl)
def o27_15 : List SO := ((SO.mk (some 16) (.alloc 86) none) :: [])
theorem v27_15 (P : Program) (B : Nat) (C : List Nat) (σ0 : Sto) (l0 : Loc) (K : Fr → Loc → Prop) (a : Fr) (l : Loc) : SWD P B C σ0 l0 o27_15 K a l = SWD P B C σ0 l0 ((SO.mk (some 16) (.alloc 86) none) :: []) K a l := (rfl)
def o27_16 : List SO := ((SO.mk (some 77) (.len 29 (.tmp 76)) none) :: (SO.mk (some 78) (.minmax true [(.tmp 75), (.tmp 77)]) none) :: (SO.mk (some 79) (.slice 29 (.tmp 70) (some (.tmp 72)) (some (.tmp 78))) none) :: (SO.mk (some 80) (.build 86 [(0 , (.tmp 62)), (1 , (.tmp 64)), (2 , (.tmp 65)), (3 , (.tmp 69)), (4 , (.tmp 79))]) none) :: o27_15)
theorem v27_16 (P : Program) (B : Nat) (C : List Nat) (σ0 : Sto) (l0 : Loc) (K : Fr → Loc → Prop) (a : Fr) (l : Loc) : SWD P B C σ0 l0 o27_16 K a l = SWD P B C σ0 l0 ((SO.mk (some 77) (.len 29 (.tmp 76)) none) :: (SO.mk (some 78) (.minmax true [(.tmp 75), (.tmp 77)]) none) :: (SO.mk (some 79) (.slice 29 (.tmp 70) (some (.tmp 72)) (some (.tmp 78))) none) :: (SO.mk (some 80) (.build 86 [(0 , (.tmp 62)), (1 , (.tmp 64)), (2 , (.tmp 65)), (3 , (.tmp 69)), (4 , (.tmp 79))]) none) :: o27_15) K a l := (rfl)
def o27_17 : List SO := ((SO.mk (some 73) (.move (.tmp 15)) none) :: (SO.mk (some 74) (.bin .add 3 (.tmp 73) (.const (Value.int .i64 1))) none) :: (SO.mk (some 75) (.bin .mul 3 (.tmp 74) (.const (Value.int .i64 52))) none) :: (SO.mk (some 76) (.move (.tmp 3)) none) :: o27_16)
theorem v27_17 (P : Program) (B : Nat) (C : List Nat) (σ0 : Sto) (l0 : Loc) (K : Fr → Loc → Prop) (a : Fr) (l : Loc) : SWD P B C σ0 l0 o27_17 K a l = SWD P B C σ0 l0 ((SO.mk (some 73) (.move (.tmp 15)) none) :: (SO.mk (some 74) (.bin .add 3 (.tmp 73) (.const (Value.int .i64 1))) none) :: (SO.mk (some 75) (.bin .mul 3 (.tmp 74) (.const (Value.int .i64 52))) none) :: (SO.mk (some 76) (.move (.tmp 3)) none) :: o27_16) K a l := (rfl)
def o27_18 : List SO := ((SO.mk (some 69) (.bin .eql 3 (.tmp 66) (.tmp 68)) none) :: (SO.mk (some 70) (.move (.tmp 3)) none) :: (SO.mk (some 71) (.move (.tmp 15)) none) :: (SO.mk (some 72) (.bin .mul 3 (.tmp 71) (.const (Value.int .i64 52))) none) :: o27_17)
theorem v27_18 (P : Program) (B : Nat) (C : List Nat) (σ0 : Sto) (l0 : Loc) (K : Fr → Loc → Prop) (a : Fr) (l : Loc) : SWD P B C σ0 l0 o27_18 K a l = SWD P B C σ0 l0 ((SO.mk (some 69) (.bin .eql 3 (.tmp 66) (.tmp 68)) none) :: (SO.mk (some 70) (.move (.tmp 3)) none) :: (SO.mk (some 71) (.move (.tmp 15)) none) :: (SO.mk (some 72) (.bin .mul 3 (.tmp 71) (.const (Value.int .i64 52))) none) :: o27_17) K a l := (rfl)
def o27_19 : List SO := ((SO.mk (some 65) (.move (.tmp 15)) none) :: (SO.mk (some 66) (.move (.tmp 15)) none) :: (SO.mk (some 67) (.move (.tmp 13)) none) :: (SO.mk (some 68) (.bin .sub 3 (.tmp 67) (.const (Value.int .i64 1))) none) :: o27_18)
theorem v27_19 (P : Program) (B : Nat) (C : List Nat) (σ0 : Sto) (l0 : Loc) (K : Fr → Loc → Prop) (a : Fr) (l : Loc) : SWD P B C σ0 l0 o27_19 K a l = SWD P B C σ0 l0 ((SO.mk (some 65) (.move (.tmp 15)) none) :: (SO.mk (some 66) (.move (.tmp 15)) none) :: (SO.mk (some 67) (.move (.tmp 13)) none) :: (SO.mk (some 68) (.bin .sub 3 (.tmp 67) (.const (Value.int .i64 1))) none) :: o27_18) K a l := (rfl)
def o27_20 : List SO := ((SO.mk (some 61) (.faddr 47 (.tmp 6) 1) none) :: (SO.mk (some 62) (.load 3 (.tmp 61)) none) :: (SO.mk (some 63) (.faddr 47 (.tmp 6) 7) none) :: (SO.mk (some 64) (.load 3 (.tmp 63)) none) :: o27_19)
theorem v27_20 (P : Program) (B : Nat) (C : List Nat) (σ0 : Sto) (l0 : Loc) (K : Fr → Loc → Prop) (a : Fr) (l : Loc) : SWD P B C σ0 l0 o27_20 K a l = SWD P B C σ0 l0 ((SO.mk (some 61) (.faddr 47 (.tmp 6) 1) none) :: (SO.mk (some 62) (.load 3 (.tmp 61)) none) :: (SO.mk (some 63) (.faddr 47 (.tmp 6) 7) none) :: (SO.mk (some 64) (.load 3 (.tmp 63)) none) :: o27_19) K a l := (rfl)
theorem m27_20 (B : Nat) : mkNames B o27_20 = [B + 16] := (rfl)
def o27_21 : List SO := ((SO.mk (some 89) (.bin .add 3 (.const (Value.int .i64 2)) (.tmp 88)) none) :: (SO.mk (some 90) (.load 86 (.tmp 16)) none) :: (SO.mk (some 91) (.call 58 [(.tmp 90)]) none) :: [])
theorem v27_21 (P : Program) (B : Nat) (C : List Nat) (σ0 : Sto) (l0 : Loc) (K : Fr → Loc → Prop) (a : Fr) (l : Loc) : SWD P B C σ0 l0 o27_21 K a l = SWD P B C σ0 l0 ((SO.mk (some 89) (.bin .add 3 (.const (Value.int .i64 2)) (.tmp 88)) none) :: (SO.mk (some 90) (.load 86 (.tmp 16)) none) :: (SO.mk (some 91) (.call 58 [(.tmp 90)]) none) :: []) K a l := (rfl)
def o27_22 : List SO := ((SO.mk (some 85) (.bin .add 3 (.tmp 83) (.tmp 84)) none) :: (SO.mk (some 86) (.faddr 23 (.tmp 4) 0) none) :: (SO.mk (some 87) (.load 3 (.tmp 86)) none) :: (SO.mk (some 88) (.bin .rem 3 (.tmp 85) (.tmp 87)) none) :: o27_21)
theorem v27_22 (P : Program) (B : Nat) (C : List Nat) (σ0 : Sto) (l0 : Loc) (K : Fr → Loc → Prop) (a : Fr) (l : Loc) : SWD P B C σ0 l0 o27_22 K a l = SWD P B C σ0 l0 ((SO.mk (some 85) (.bin .add 3 (.tmp 83) (.tmp 84)) none) :: (SO.mk (some 86) (.faddr 23 (.tmp 4) 0) none) :: (SO.mk (some 87) (.load 3 (.tmp 86)) none) :: (SO.mk (some 88) (.bin .rem 3 (.tmp 85) (.tmp 87)) none) :: o27_21) K a l := (rfl)
def o27_23 : List SO := ((SO.mk (some 81) (.move (.tmp 14)) none) :: (SO.mk (some 82) (.faddr 47 (.tmp 6) 6) none) :: (SO.mk (some 83) (.load 3 (.tmp 82)) none) :: (SO.mk (some 84) (.move (.tmp 15)) none) :: o27_22)
theorem v27_23 (P : Program) (B : Nat) (C : List Nat) (σ0 : Sto) (l0 : Loc) (K : Fr → Loc → Prop) (a : Fr) (l : Loc) : SWD P B C σ0 l0 o27_23 K a l = SWD P B C σ0 l0 ((SO.mk (some 81) (.move (.tmp 14)) none) :: (SO.mk (some 82) (.faddr 47 (.tmp 6) 6) none) :: (SO.mk (some 83) (.load 3 (.tmp 82)) none) :: (SO.mk (some 84) (.move (.tmp 15)) none) :: o27_22) K a l := (rfl)
theorem m27_23 (B : Nat) : mkNames B o27_23 = [] := (rfl)
def c27_24 : SC := (.dreg false o27_23 [SO.mk (some 92) (.call 49 [(.tmp 81), (.tmp 89), (.tmp 91)]) none])
theorem u27_24 (P : Program) (B : Nat) (T0 : List Nat) (r : Sto) (Q : Ex → Fr → Loc → Prop) (a : Fr) (l : Loc) : SW P B T0 r c27_24 Q a l = SW P B T0 r (.dreg false o27_23 [SO.mk (some 92) (.call 49 [(.tmp 81), (.tmp 89), (.tmp 91)]) none]) Q a l := (rfl)
def c27_25 : SC := (.seq (.dreg false o27_20 [SO.mk none (.store 86 (.tmp 16) (.tmp 80)) none]) (.keep [15, 16, 58, 57, 3, 4, 13, 14, 6, 8, 9] c27_24))
theorem u27_25 (P : Program) (B : Nat) (T0 : List Nat) (r : Sto) (Q : Ex → Fr → Loc → Prop) (a : Fr) (l : Loc) : SW P B T0 r c27_25 Q a l = SW P B T0 r (.seq (.dreg false o27_20 [SO.mk none (.store 86 (.tmp 16) (.tmp 80)) none]) (.keep [15, 16, 58, 57, 3, 4, 13, 14, 6, 8, 9] c27_24)) Q a l := (rfl)
def c27_26 : SC := (.reg [SO.mk (some 93) (.bin .add 3 (.tmp 58) (.const (Value.int .i64 1))) none, SO.mk (some 58) (.move (.tmp 93)) none])
theorem u27_26 (P : Program) (B : Nat) (T0 : List Nat) (r : Sto) (Q : Ex → Fr → Loc → Prop) (a : Fr) (l : Loc) : SW P B T0 r c27_26 Q a l = SW P B T0 r (.reg [SO.mk (some 93) (.bin .add 3 (.tmp 58) (.const (Value.int .i64 1))) none, SO.mk (some 58) (.move (.tmp 93)) none]) Q a l := (rfl)
def c27_27 : SC := (.seq (.block 1 (.seq (.reg [SO.mk (some 60) (.move (.tmp 58)) none, SO.mk (some 15) (.move (.tmp 60)) none]) (.keep [15, 58, 57, 3, 4, 13, 14, 6, 8, 9] c27_25))) (.keep [58, 57, 3, 4, 13, 14, 6, 8, 9] c27_26))
theorem u27_27 (P : Program) (B : Nat) (T0 : List Nat) (r : Sto) (Q : Ex → Fr → Loc → Prop) (a : Fr) (l : Loc) : SW P B T0 r c27_27 Q a l = SW P B T0 r (.seq (.block 1 (.seq (.reg [SO.mk (some 60) (.move (.tmp 58)) none, SO.mk (some 15) (.move (.tmp 60)) none]) (.keep [15, 58, 57, 3, 4, 13, 14, 6, 8, 9] c27_25))) (.keep [58, 57, 3, 4, 13, 14, 6, 8, 9] c27_26)) Q a l := (rfl)
def c27_28 : SC := (.seq (.cond (.tmp 59) .skip (.exit 0)) (.keep [58, 57, 3, 4, 13, 14, 6, 8, 9] c27_27))
theorem u27_28 (P : Program) (B : Nat) (T0 : List Nat) (r : Sto) (Q : Ex → Fr → Loc → Prop) (a : Fr) (l : Loc) : SW P B T0 r c27_28 Q a l = SW P B T0 r (.seq (.cond (.tmp 59) .skip (.exit 0)) (.keep [58, 57, 3, 4, 13, 14, 6, 8, 9] c27_27)) Q a l := (rfl)
def c27_29 : SC := (.seq (.reg [SO.mk (some 59) (.bin .lss 3 (.tmp 58) (.tmp 57)) none]) (.keep [59, 3, 57, 58, 4, 13, 14, 6, 8, 9] c27_28))
theorem u27_29 (P : Program) (B : Nat) (T0 : List Nat) (r : Sto) (Q : Ex → Fr → Loc → Prop) (a : Fr) (l : Loc) : SW P B T0 r c27_29 Q a l = SW P B T0 r (.seq (.reg [SO.mk (some 59) (.bin .lss 3 (.tmp 58) (.tmp 57)) none]) (.keep [59, 3, 57, 58, 4, 13, 14, 6, 8, 9] c27_28)) Q a l := (rfl)
def c27_30 : SC := (.block 0 (.loop (.keep [3, 57, 58, 4, 13, 14, 6, 8, 9] c27_29)))
theorem u27_30 (P : Program) (B : Nat) (T0 : List Nat) (r : Sto) (Q : Ex → Fr → Loc → Prop) (a : Fr) (l : Loc) : SW P B T0 r c27_30 Q a l = SW P B T0 r (.block 0 (.loop (.keep [3, 57, 58, 4, 13, 14, 6, 8, 9] c27_29))) Q a l := (rfl)
def o27_31 : List SO := ((SO.mk (some 108) (.load 3 (.tmp 107)) none) :: (SO.mk (some 109) (.bin .add 3 (.tmp 108) (.const (Value.int .i64 1))) none) :: (SO.mk (some 110) (.faddr 47 (.tmp 6) 6) none) :: [])
theorem v27_31 (P : Program) (B : Nat) (C : List Nat) (σ0 : Sto) (l0 : Loc) (K : Fr → Loc → Prop) (a : Fr) (l : Loc) : SWD P B C σ0 l0 o27_31 K a l = SWD P B C σ0 l0 ((SO.mk (some 108) (.load 3 (.tmp 107)) none) :: (SO.mk (some 109) (.bin .add 3 (.tmp 108) (.const (Value.int .i64 1))) none) :: (SO.mk (some 110) (.faddr 47 (.tmp 6) 6) none) :: []) K a l := (rfl)
def o27_32 : List SO := ((SO.mk (some 104) (.load 3 (.tmp 103)) none) :: (SO.mk (some 105) (.move (.tmp 13)) none) :: (SO.mk (some 106) (.bin .add 3 (.tmp 104) (.tmp 105)) none) :: (SO.mk (some 107) (.faddr 47 (.tmp 6) 7) none) :: o27_31)
theorem v27_32 (P : Program) (B : Nat) (C : List Nat) (σ0 : Sto) (l0 : Loc) (K : Fr → Loc → Prop) (a : Fr) (l : Loc) : SWD P B C σ0 l0 o27_32 K a l = SWD P B C σ0 l0 ((SO.mk (some 104) (.load 3 (.tmp 103)) none) :: (SO.mk (some 105) (.move (.tmp 13)) none) :: (SO.mk (some 106) (.bin .add 3 (.tmp 104) (.tmp 105)) none) :: (SO.mk (some 107) (.faddr 47 (.tmp 6) 7) none) :: o27_31) K a l := (rfl)
def o27_33 : List SO := ((SO.mk (some 100) (.faddr 23 (.tmp 4) 0) none) :: (SO.mk (some 101) (.load 3 (.tmp 100)) none) :: (SO.mk (some 102) (.bin .rem 3 (.tmp 99) (.tmp 101)) none) :: (SO.mk (some 103) (.faddr 47 (.tmp 6) 8) none) :: o27_32)
theorem v27_33 (P : Program) (B : Nat) (C : List Nat) (σ0 : Sto) (l0 : Loc) (K : Fr → Loc → Prop) (a : Fr) (l : Loc) : SWD P B C σ0 l0 o27_33 K a l = SWD P B C σ0 l0 ((SO.mk (some 100) (.faddr 23 (.tmp 4) 0) none) :: (SO.mk (some 101) (.load 3 (.tmp 100)) none) :: (SO.mk (some 102) (.bin .rem 3 (.tmp 99) (.tmp 101)) none) :: (SO.mk (some 103) (.faddr 47 (.tmp 6) 8) none) :: o27_32) K a l := (rfl)
def o27_34 : List SO := ((SO.mk (some 96) (.faddr 47 (.tmp 6) 6) none) :: (SO.mk (some 97) (.load 3 (.tmp 96)) none) :: (SO.mk (some 98) (.move (.tmp 13)) none) :: (SO.mk (some 99) (.bin .add 3 (.tmp 97) (.tmp 98)) none) :: o27_33)
theorem v27_34 (P : Program) (B : Nat) (C : List Nat) (σ0 : Sto) (l0 : Loc) (K : Fr → Loc → Prop) (a : Fr) (l : Loc) : SWD P B C σ0 l0 o27_34 K a l = SWD P B C σ0 l0 ((SO.mk (some 96) (.faddr 47 (.tmp 6) 6) none) :: (SO.mk (some 97) (.load 3 (.tmp 96)) none) :: (SO.mk (some 98) (.move (.tmp 13)) none) :: (SO.mk (some 99) (.bin .add 3 (.tmp 97) (.tmp 98)) none) :: o27_33) K a l := (rfl)
theorem m27_34 (B : Nat) : mkNames B o27_34 = [] := (rfl)
def o27_35 : List SO := ((SO.mk (some 10) (.move (.tmp 118)) none) :: [])
theorem v27_35 (P : Program) (B : Nat) (T0 : List Nat) (r : Sto) (K : Fr → Loc → Prop) (a : Fr) (l : Loc) : SWL P B T0 r o27_35 K a l = SWL P B T0 r ((SO.mk (some 10) (.move (.tmp 118)) none) :: []) K a l := (rfl)
def o27_36 : List SO := ((SO.mk (some 117) (.extract (.tmp 115) 1) none) :: (SO.mk (some 118) (.extract (.tmp 115) 2) none) :: (SO.mk none (.store 28 (.tmp 8) (.tmp 116)) none) :: (SO.mk none (.store 47 (.tmp 9) (.tmp 117)) none) :: o27_35)
theorem v27_36 (P : Program) (B : Nat) (T0 : List Nat) (r : Sto) (K : Fr → Loc → Prop) (a : Fr) (l : Loc) : SWL P B T0 r o27_36 K a l = SWL P B T0 r ((SO.mk (some 117) (.extract (.tmp 115) 1) none) :: (SO.mk (some 118) (.extract (.tmp 115) 2) none) :: (SO.mk none (.store 28 (.tmp 8) (.tmp 116)) none) :: (SO.mk none (.store 47 (.tmp 9) (.tmp 117)) none) :: o27_35) K a l := (rfl)
def c27_37 : SC := (.seq (.reg ((SO.mk (some 113) (.move (.tmp 14)) none) :: (SO.mk (some 114) (.load 47 (.tmp 6)) none) :: (SO.mk (some 115) (.call 52 [(.tmp 113), (.tmp 114)]) none) :: (SO.mk (some 116) (.extract (.tmp 115) 0) none) :: o27_36)) (.keep [8, 9, 10] .ret))
theorem u27_37 (P : Program) (B : Nat) (T0 : List Nat) (r : Sto) (Q : Ex → Fr → Loc → Prop) (a : Fr) (l : Loc) : SW P B T0 r c27_37 Q a l = SW P B T0 r (.seq (.reg ((SO.mk (some 113) (.move (.tmp 14)) none) :: (SO.mk (some 114) (.load 47 (.tmp 6)) none) :: (SO.mk (some 115) (.call 52 [(.tmp 113), (.tmp 114)]) none) :: (SO.mk (some 116) (.extract (.tmp 115) 0) none) :: o27_36)) (.keep [8, 9, 10] .ret)) Q a l := (rfl)
def c27_38 : SC := (.seq (.dreg false o27_34 [SO.mk none (.store 3 (.tmp 110) (.tmp 102)) none, SO.mk (some 111) (.faddr 47 (.tmp 6) 8) none, SO.mk none (.store 3 (.tmp 111) (.tmp 106)) none, SO.mk (some 112) (.faddr 47 (.tmp 6) 7) none, SO.mk none (.store 3 (.tmp 112) (.tmp 109)) none]) (.keep [14, 6, 8, 9] c27_37))
theorem u27_38 (P : Program) (B : Nat) (T0 : List Nat) (r : Sto) (Q : Ex → Fr → Loc → Prop) (a : Fr) (l : Loc) : SW P B T0 r c27_38 Q a l = SW P B T0 r (.seq (.dreg false o27_34 [SO.mk none (.store 3 (.tmp 110) (.tmp 102)) none, SO.mk (some 111) (.faddr 47 (.tmp 6) 8) none, SO.mk none (.store 3 (.tmp 111) (.tmp 106)) none, SO.mk (some 112) (.faddr 47 (.tmp 6) 7) none, SO.mk none (.store 3 (.tmp 112) (.tmp 109)) none]) (.keep [14, 6, 8, 9] c27_37)) Q a l := (rfl)
def c27_39 : SC := (.seq (.reg [SO.mk (some 94) (.move (.tmp 14)) none, SO.mk (some 95) (.call 51 [(.tmp 94)]) none]) (.keep [4, 13, 14, 6, 8, 9] c27_38))
theorem u27_39 (P : Program) (B : Nat) (T0 : List Nat) (r : Sto) (Q : Ex → Fr → Loc → Prop) (a : Fr) (l : Loc) : SW P B T0 r c27_39 Q a l = SW P B T0 r (.seq (.reg [SO.mk (some 94) (.move (.tmp 14)) none, SO.mk (some 95) (.call 51 [(.tmp 94)]) none]) (.keep [4, 13, 14, 6, 8, 9] c27_38)) Q a l := (rfl)
def c27_40 : SC := (.seq (.seq (.reg [SO.mk (some 57) (.move (.tmp 13)) none, SO.mk (some 58) (.move (.const (Value.int .i64 0))) none]) (.keep [3, 57, 58, 4, 13, 14, 6, 8, 9] c27_30)) (.keep [4, 13, 14, 6, 8, 9] c27_39))
theorem u27_40 (P : Program) (B : Nat) (T0 : List Nat) (r : Sto) (Q : Ex → Fr → Loc → Prop) (a : Fr) (l : Loc) : SW P B T0 r c27_40 Q a l = SW P B T0 r (.seq (.seq (.reg [SO.mk (some 57) (.move (.tmp 13)) none, SO.mk (some 58) (.move (.const (Value.int .i64 0))) none]) (.keep [3, 57, 58, 4, 13, 14, 6, 8, 9] c27_30)) (.keep [4, 13, 14, 6, 8, 9] c27_39)) Q a l := (rfl)
def c27_41 : SC := (.seq (.reg [SO.mk (some 53) (.load 23 (.tmp 4)) none, SO.mk (some 54) (.load 28 (.tmp 5)) none, SO.mk (some 55) (.build 78 [(0 , (.tmp 53)), (1 , (.tmp 54))]) none, SO.mk (some 56) (.box 78 (.tmp 55)) none, SO.mk (some 14) (.move (.tmp 56)) none]) (.keep [3, 4, 13, 14, 6, 8, 9] c27_40))
theorem u27_41 (P : Program) (B : Nat) (T0 : List Nat) (r : Sto) (Q : Ex → Fr → Loc → Prop) (a : Fr) (l : Loc) : SW P B T0 r c27_41 Q a l = SW P B T0 r (.seq (.reg [SO.mk (some 53) (.load 23 (.tmp 4)) none, SO.mk (some 54) (.load 28 (.tmp 5)) none, SO.mk (some 55) (.build 78 [(0 , (.tmp 53)), (1 , (.tmp 54))]) none, SO.mk (some 56) (.box 78 (.tmp 55)) none, SO.mk (some 14) (.move (.tmp 56)) none]) (.keep [3, 4, 13, 14, 6, 8, 9] c27_40)) Q a l := (rfl)
def c27_42 : SC := (.seq (.seq (.reg ((SO.mk (some 39) (.faddr 47 (.tmp 6) 8) none) :: (SO.mk (some 40) (.load 3 (.tmp 39)) none) :: (SO.mk (some 41) (.move (.tmp 13)) none) :: (SO.mk (some 42) (.bin .add 3 (.tmp 40) (.tmp 41)) none) :: o27_12)) (.keep [50, 5, 3, 4, 13, 6, 8, 9] c27_14)) (.keep [5, 3, 4, 13, 6, 8, 9] c27_41))
theorem u27_42 (P : Program) (B : Nat) (T0 : List Nat) (r : Sto) (Q : Ex → Fr → Loc → Prop) (a : Fr) (l : Loc) : SW P B T0 r c27_42 Q a l = SW P B T0 r (.seq (.seq (.reg ((SO.mk (some 39) (.faddr 47 (.tmp 6) 8) none) :: (SO.mk (some 40) (.load 3 (.tmp 39)) none) :: (SO.mk (some 41) (.move (.tmp 13)) none) :: (SO.mk (some 42) (.bin .add 3 (.tmp 40) (.tmp 41)) none) :: o27_12)) (.keep [50, 5, 3, 4, 13, 6, 8, 9] c27_14)) (.keep [5, 3, 4, 13, 6, 8, 9] c27_41)) Q a l := (rfl)
def c27_43 : SC := (.seq (.reg ((SO.mk (some 33) (.move (.tmp 3)) none) :: (SO.mk (some 34) (.len 29 (.tmp 33)) none) :: (SO.mk (some 35) (.bin .add 3 (.tmp 34) (.const (Value.int .i64 52))) none) :: (SO.mk (some 36) (.bin .sub 3 (.tmp 35) (.const (Value.int .i64 1))) none) :: o27_10)) (.keep [5, 3, 4, 13, 6, 8, 9] c27_42))
theorem u27_43 (P : Program) (B : Nat) (T0 : List Nat) (r : Sto) (Q : Ex → Fr → Loc → Prop) (a : Fr) (l : Loc) : SW P B T0 r c27_43 Q a l = SW P B T0 r (.seq (.reg ((SO.mk (some 33) (.move (.tmp 3)) none) :: (SO.mk (some 34) (.len 29 (.tmp 33)) none) :: (SO.mk (some 35) (.bin .add 3 (.tmp 34) (.const (Value.int .i64 52))) none) :: (SO.mk (some 36) (.bin .sub 3 (.tmp 35) (.const (Value.int .i64 1))) none) :: o27_10)) (.keep [5, 3, 4, 13, 6, 8, 9] c27_42)) Q a l := (rfl)
def c27_44 : SC := (.seq (.seq (.reg [SO.mk (some 25) (.load 23 (.tmp 4)) none, SO.mk (some 26) (.load 47 (.tmp 6)) none, SO.mk (some 27) (.call 54 [(.tmp 25), (.tmp 26)]) none, SO.mk (some 12) (.move (.tmp 27)) none]) (.keep [12, 5, 3, 4, 6, 8, 9] c27_9)) (.keep [5, 3, 4, 6, 8, 9] c27_43))
theorem u27_44 (P : Program) (B : Nat) (T0 : List Nat) (r : Sto) (Q : Ex → Fr → Loc → Prop) (a : Fr) (l : Loc) : SW P B T0 r c27_44 Q a l = SW P B T0 r (.seq (.seq (.reg [SO.mk (some 25) (.load 23 (.tmp 4)) none, SO.mk (some 26) (.load 47 (.tmp 6)) none, SO.mk (some 27) (.call 54 [(.tmp 25), (.tmp 26)]) none, SO.mk (some 12) (.move (.tmp 27)) none]) (.keep [12, 5, 3, 4, 6, 8, 9] c27_9)) (.keep [5, 3, 4, 6, 8, 9] c27_43)) Q a l := (rfl)
def c27_45 : SC := (.seq (.seq (.reg [SO.mk (some 17) (.load 23 (.tmp 4)) none, SO.mk (some 18) (.load 28 (.tmp 5)) none, SO.mk (some 19) (.call 32 [(.tmp 17), (.tmp 18)]) none, SO.mk (some 11) (.move (.tmp 19)) none]) (.keep [11, 5, 3, 4, 6, 8, 9] c27_5)) (.keep [5, 3, 4, 6, 8, 9] c27_44))
theorem u27_45 (P : Program) (B : Nat) (T0 : List Nat) (r : Sto) (Q : Ex → Fr → Loc → Prop) (a : Fr) (l : Loc) : SW P B T0 r c27_45 Q a l = SW P B T0 r (.seq (.seq (.reg [SO.mk (some 17) (.load 23 (.tmp 4)) none, SO.mk (some 18) (.load 28 (.tmp 5)) none, SO.mk (some 19) (.call 32 [(.tmp 17), (.tmp 18)]) none, SO.mk (some 11) (.move (.tmp 19)) none]) (.keep [11, 5, 3, 4, 6, 8, 9] c27_5)) (.keep [5, 3, 4, 6, 8, 9] c27_44)) Q a l := (rfl)
def c27 : SC := (.seq (.reg ((SO.mk (some 4) (.box 23 (.tmp 0)) none) :: (SO.mk (some 5) (.box 28 (.tmp 1)) none) :: (SO.mk (some 6) (.box 47 (.tmp 2)) none) :: (SO.mk (some 8) (.alloc 28) none) :: o27_1)) (.keep [5, 3, 4, 6, 8, 9] c27_45))
theorem c27_eq : annC Try.f27 = some c27 := by kernel_rfl
theorem r27 : Try.f27.results.toList = [.cell 8 28, .cell 9 47, .tmp 10] := by kernel_rfl
theorem e27 : enters Try.prog 27 = true := by kernel_rfl
end Go.Proofs.Ytkcfnhfbdcnhjaa
namespace Go.Proofs.Ytkcfnhfbdcnhjaa
open Go.RowKit
set_option maxHeartbeats 4000000
set_option maxRecDepth 20000
attribute [local irreducible] SW SWL SWLn SWD SEcall SEcallv SDv SE SO1 SOg ACalls ACallv Wk EndV
set_option linter.unusedSimpArgs false
set_option linter.unusedVariables false
def m52 (b : List UInt8) : Nat := (b.length + 51) / 52
def kN (b : List UInt8) : Nat := max 1 (m52 b)
def posC (g : GeoD) (j : JrnD) (i : Nat) : Int := 2 + (j.place + i).tmod g.ring
def cmA (g : GeoD) (j : JrnD) (b : List UInt8) (n x : Nat) : TodD := ⟨false, posC g j x, frB j.epoch j.next x ((x : Int) == (n : Int) - 1) (chS 52 b x)⟩
def cmK (g : GeoD) (j : JrnD) (b : List UInt8) (n i : Nat) : List TodD := (List.range i).map (cmA g j b n)
def cmE (g : GeoD) (j : JrnD) (b : List UInt8) (n i : Nat) : List TodD := cmK g j b n i ++ [⟨true, 0, []⟩]
theorem cmK0 (g : GeoD) (j : JrnD) (b : List UInt8) (n : Nat) : cmK g j b n 0 = [] := rfl
theorem cmK_len (g : GeoD) (j : JrnD) (b : List UInt8) (n k : Nat) : (cmK g j b n k).length = k := by simp [cmK]
theorem cmK_next (g : GeoD) (j : JrnD) (b : List UInt8) (n k : Nat) : cmK g j b n (k + 1) = cmK g j b n k ++ [cmA g j b n k] := by simp [cmK, List.range_succ]
theorem run_snoc (g : GeoD) (d : DevD) (ts : List TodD) (t : TodD) : runF g d (ts ++ [t]) = stepF g (runF g d ts) t := by
  unfold runF; rw [List.foldl_append]; rfl
theorem cm_next (g : GeoD) (d : DevD) (j : JrnD) (b : List UInt8) (n k : Nat) : stepF g (runF g d (cmK g j b n k)) (cmA g j b n k) = runF g d (cmK g j b n (k + 1)) := by
  rw [cmK_next, run_snoc]
def j2 (g : GeoD) (j : JrnD) (n : Nat) : JrnD := ⟨j.gen, j.epoch, j.area, j.length, j.start, j.first, (j.place + n).tmod g.ring, j.next + 1, j.used + n⟩
theorem jrn_or (g : GeoD) (j : JrnD) : jrnF g j = 0 ∨ ((jrnF g j == 0) = false ∧ (jrnF g j != 0) = true) := by
  by_cases h : jrnF g j = 0
  · exact .inl h
  · exact .inr ⟨by simpa using h, by simpa using h⟩
theorem jok_of {g : GeoD} {j : JrnD} (hg : geoOk g = true) (h : jrnF g j = 0) : JOk g j := by
  unfold jrnF at h
  rw [if_pos hg] at h
  by_cases hj : JOk g j
  · exact hj
  · rw [if_neg hj] at h; exact absurd h (by decide)
theorem jrn_0 {g : GeoD} {j : JrnD} (hg : geoOk g = true) (h : JOk g j) : jrnF g j = 0 := (jrn_ok hg h).symm
structure JB (g : GeoD) (j : JrnD) : Prop where
  p1 : 0 ≤ j.place
  p2 : j.place < g.ring
theorem jB {g : GeoD} {j : JrnD} (hB : GeoB g) (h : JOk g j) : JB g j := by
  have h1 := h.s1
  have h2 := h.u1
  have h3 := hB.r1
  refine ⟨?_, ?_⟩ <;> rw [h.p]
  · exact Int.tmod_nonneg _ (by omega)
  · exact Int.tmod_lt_of_pos _ (by omega)
theorem tmod_b {g : GeoD} (hB : GeoB g) {x : Int} (h : 0 ≤ x) : 0 ≤ x.tmod g.ring ∧ x.tmod g.ring < g.ring := by
  have h3 := hB.r1
  exact ⟨Int.tmod_nonneg _ h, Int.tmod_lt_of_pos _ (by omega)⟩
theorem geo_dev {g : GeoD} {d : DevD} (h : devF g d = 0) : geoOk g = true := by
  unfold devF at h
  cases hg : geoOk g with
  | true => rfl
  | false => rw [hg] at h; simp at h
theorem minW2 (k k' : IntKind) (x y : Int) : minV true [.d (.v (.int k x)), .d (.v (.int k' y))] = some (.d (.v (.int k (if decide (y < x) = true then y else x)))) := rfl
theorem aokB (n : Nat) (cs : List AV) : (AO.box cs).kill n = .box (cs.map (AV.kill n)) := rfl
theorem aokD (n : Nat) : AO.dead.kill n = .dead := rfl
theorem aokA (n k : Nat) (E : TypeId) (rows : List (List RV)) : (AO.arr k E rows).kill n = .arr k E rows := rfl
theorem maxW (k k' : IntKind) (x y : Int) : minV false [.d (.v (.int k x)), .d (.v (.int k' y))] = some (.d (.v (.int k (if decide (x < y) = true then y else x)))) := rfl
theorem k_w (b : List UInt8) (hb : b.length ≤ 2 ^ 47) : IntKind.i64.wrap ((b.length : Int) + 52) = (b.length : Int) + 52 ∧ IntKind.i64.wrap ((b.length : Int) + 52 - 1) = (b.length : Int) + 52 - 1 ∧ IntKind.i64.wrap (((b.length : Int) + 52 - 1).tdiv 52) = (m52 b : Int) := by
  refine ⟨IntWalk.i64_in _ (by omega), IntWalk.i64_in _ (by omega), ?_⟩
  rw [Int.tdiv_eq_ediv_of_nonneg (by omega)]
  have : ((b.length : Int) + 52 - 1) / 52 = (m52 b : Int) := by unfold m52; omega
  rw [this]
  exact IntWalk.i64_in _ (by unfold m52; omega)
theorem k_max (b : List UInt8) : (if decide ((1 : Int) < (m52 b : Int)) = true then (m52 b : Int) else 1) = (kN b : Int) := by
  unfold kN
  simp only [decide_eq_true_eq]
  split <;> omega
theorem kN_b {b : List UInt8} (hb : b.length ≤ 2 ^ 47) : 1 ≤ kN b ∧ kN b ≤ 2 ^ 47 := by unfold kN m52; omega
def enC (b : List UInt8) (k : Nat) : Int := if decide ((b.length : Int) < ((k : Int) + 1) * 52) = true then (b.length : Int) else ((k : Int) + 1) * 52
theorem enC_facts {b : List UInt8} {k : Nat} (hk : k < kN b) : (k : Int) * 52 ≤ enC b k ∧ enC b k ≤ b.length ∧ List.take ((enC b k).toNat - ((k : Int) * 52).toNat) (List.drop ((k : Int) * 52).toNat b) = chS 52 b k := by
  have hkm : k * 52 ≤ b.length := by unfold kN m52 at hk; omega
  have e1 : ((k : Int) * 52).toNat = k * 52 := by omega
  unfold enC chS
  rw [e1]
  by_cases hc : (b.length : Int) < ((k : Int) + 1) * 52
  · rw [if_pos (by simpa using hc)]
    refine ⟨by omega, by omega, ?_⟩
    rw [Int.toNat_natCast, List.take_of_length_le (by rw [List.length_drop]; omega), List.take_of_length_le (by rw [List.length_drop]; omega)]
  · rw [if_neg (by simpa using hc)]
    refine ⟨by omega, by omega, ?_⟩
    congr 1; omega
theorem chS_len (b : List UInt8) (i : Nat) : (chS 52 b i).length ≤ 52 := by unfold chS; rw [List.length_take]; omega
attribute [local irreducible] handO runF endR jEnd frB chS kN m52 enC
theorem hputC (g : GeoD) (d : DevD) (j : JrnD) (b : List UInt8) (n k : Nat) (hw : d.fit) (B : Nat) (σ : Sto) (m : Nat) (hm : m < B) (hσ : σ m = handO g (runF g d (cmK g j b n k))) : ACalls Try.prog 49 [.lp m 0, I (2 + (j.place + k).tmod g.ring), .d (.ro ((frB j.epoch j.next k ((k : Int) == (n : Int) - 1) (chS 52 b k)).map by_))] σ B [] (fun v σ' => v = .tup [] ∧ σ' = sto [(m, handO g (runF g d (cmK g j b n (k + 1))))] σ) := by
  rw [← cm_next]
  exact hput_p g (runF g d (cmK g j b n k)) _ _ (runF_fit hw _) B σ m hm hσ
theorem hflushC (g : GeoD) (d : DevD) (j : JrnD) (b : List UInt8) (n k : Nat) (hw : d.fit) (B : Nat) (σ : Sto) (m : Nat) (hm : m < B) (hσ : σ m = handO g (runF g d (cmK g j b n k))) : ACalls Try.prog 51 [.lp m 0] σ B [] (fun v σ' => v = .tup [] ∧ σ' = sto [(m, handO g (runF g d (cmE g j b n k)))] σ) := by
  unfold cmE
  rw [run_snoc]
  exact hflush_p g (runF g d (cmK g j b n k)) (runF_fit hw _) B σ m hm hσ
theorem commit_ok (g : GeoD) (d : DevD) (j : JrnD) (b : List UInt8) (hwf : d.fit) (h1 : devF g d = 0) (hj : JOk g j) (h3 : ¬ (j.used + kN b > g.ring)) (h4 : ¬ (j.next = 1048576)) : Pure Try.prog 27 [g.av, d.av, j.av, .d (bytes b)] (doneV (runF g d (cmE g j b (kN b) (kN b))) (j2 g j (kN b))) := by
  refine pureY_of follows Try.func27 c27_eq r27 (Nat.le_of_ble_eq_true rfl) fun B σ hcl hsz => ?_
  have hb : b.length ≤ 2 ^ 47 := by simpa using (show Sized (bytes b) from hsz (.d (bytes b)) (by simp)).len
  clear hsz
  have hg := geo_dev h1
  have hB := geoB hg
  obtain ⟨gr1, gr2, ga1, ga2, gh1, gh2⟩ := id hB
  have hJ := jrn_0 hg hj
  obtain ⟨jp1, jp2⟩ := jB hB hj
  obtain ⟨g1, g2, e1, e2, f1, n1, n2, a1, a2, l1, l2, s1, s2, u1, u2, pp⟩ := id hj
  obtain ⟨w1, w2, w3⟩ := k_w b hb
  have w4 := k_max b
  obtain ⟨k1, k2⟩ := kN_b hb
  have k3 : kN b ≤ 60 := by omega
  have q0 : (g.ring = 0) = False := eq_false (by omega)
  have q1 : IntKind.i64.wrap (j.used + (kN b : Int)) = j.used + kN b := IntWalk.i64_in _ (by omega)
  have q2 : decide (j.used + (kN b : Int) > g.ring) = false := by simpa using h3
  have q3 : (j.next == 1048576) = false := by simpa using h4
  have q4 : IntKind.i64.wrap (j.next + 1) = j.next + 1 := IntWalk.i64_in _ (by omega)
  have q5 : IntKind.i64.wrap (j.place + (kN b : Int)) = j.place + (kN b : Int) := IntWalk.i64_in _ (by omega)
  have q6 : IntKind.i64.wrap ((kN b : Int) - 1) = (kN b : Int) - 1 := IntWalk.i64_in _ (by omega)
  have t1 : ∀ i : Nat, decide ((i : Int) < kN b) = true → IntKind.i64.wrap (j.place + (i : Int)) = j.place + (i : Int) := fun i hi => by
    have := ltD hi
    exact IntWalk.i64_in _ (by omega)
  have t2 : ∀ i : Nat, decide ((i : Int) < kN b) = true → IntKind.i64.wrap (2 + (j.place + (i : Int)).tmod g.ring) = 2 + (j.place + (i : Int)).tmod g.ring := fun i hi => by
    have := ltD hi
    have := tmod_b hB (x := j.place + (i : Int)) (by omega)
    exact IntWalk.i64_in _ (by omega)
  have t3 : ∀ i : Nat, decide ((i : Int) < kN b) = true → IntKind.i64.wrap ((i : Int) * 52) = (i : Int) * 52 := fun i hi => by
    have := ltD hi
    exact IntWalk.i64_in _ (by omega)
  have t4 : ∀ i : Nat, decide ((i : Int) < kN b) = true → IntKind.i64.wrap (((i : Int) + 1) * 52) = ((i : Int) + 1) * 52 := fun i hi => by
    have := ltD hi
    exact IntWalk.i64_in _ (by omega)
  have t5 : ∀ i : Nat, decide ((i : Int) < kN b) = true → IntKind.i64.wrap ((i : Int) + 1) = (i : Int) + 1 := fun i hi => by
    have := ltD hi
    exact IntWalk.i64_in _ (by omega)
  have t6 : ∀ i : Nat, (if decide ((b.length : Int) < ((i : Int) + 1) * 52) = true then (b.length : Int) else ((i : Int) + 1) * 52) = enC b i := fun i => by unfold enC; rfl
  have t7 : ∀ i : Nat, decide ((i : Int) < kN b) = true → ((i : Int) * 52 ≤ enC b i) = True := fun i hi => eq_true (enC_facts (ltD hi)).1
  have t8 : ∀ i : Nat, decide ((i : Int) < kN b) = true → (enC b i ≤ (b.length : Int)) = True := fun i hi => eq_true (enC_facts (ltD hi)).2.1
  have t9 : ∀ i : Nat, decide ((i : Int) < kN b) = true → List.take ((enC b i).toNat - ((i : Int) * 52).toNat) (List.drop ((i : Int) * 52).toNat b) = chS 52 b i := fun i hi => (enC_facts (ltD hi)).2.2
  clear hB gr1 gr2 ga1 ga2 gh1 gh2 jp1 jp2 g1 g2 e1 e2 f1 n1 n2 a1 a2 l1 l2 s1 s2 u1 u2 pp k1 k3 hj hg h3 h4
  repeat' (first | (simp -implicitDefEqProofs only [*, contN, contC, Nat.reduceBEq, Bool.or_false, Bool.or_true, Bool.false_or, Bool.true_or, Bool.not_true, Bool.not_false, w_skip, w_ret, w_exit, w_reg, w_dreg, w_seq, SK_n, SK_r, SK_x, w_keep, w_block, w_cond, w_nil, w_cons, w_consg, w_nnil, w_ncons, w_dnil, w_dcons, w_dconsg, HK_app, HD_app, HQ_n, HQ_r, HQ_x, HQ_bn, HQ_br, HQ_bx, HQ_en, HQ_er, HQ_ex, CondB_true, CondB_false, SO1, w_sdv, SDe_alloc, SDe_box, SDe_bslice, SDe_app, true_imp_iff, false_imp_iff, and_false, false_and, not_false_eq_true, not_true_eq_false, addN, mkNames, killT, killD, killO, List.foldl_nil, List.foldl_cons, List.append_nil, List.nil_append, List.cons_append, GuardS_true, GuardS_false, GuardD_true, GuardD_false, DK_true, DK_false, lt_self_add, le_self_add, decide_true, decide_false, Bool.false_eq_true, Bool.true_eq_false, Nat.add_left_cancel_iff, SE, SEalloc, SEbox, SEstore, w_bs, SEbl, SEfz, SEbs0, fzName, osOf, AV.fz1, w_app, w_mk, aev, opd, Fr.get, putO, Fr.norm, List.map_cons, List.map_nil, with1, with2, onInt, AV.lit, entry, ↓reduceIte, Nat.reduceEqDiff, Nat.reduceAdd, reduceCtorEq, true_and, and_true, Option.map_some, Option.map_none, Option.bind_some, Option.bind_none, cond_true, cond_false, binV, unV, fieldV, loadV, sto, cellsAV, newF, newL, Fr.map, Loc.kill, Loc.set, AV.kill, AV.mapN, AV.mapNL, List.filter_nil, List.filter_cons, allP, EndV, retV, resV, resL, frz, dropL, AV.pick, nilV, tupV, imp_self, ne_eq, Int.cast_ofNat_Int, Int.reduceLT, Int.reduceToNat, List.getD_cons_zero, List.getD_cons_succ, bsliceV, buildV, afill, repl, chunk, rvs, AV.rv, RV.nrm, List.getElem?_nil, List.append_assoc, Nat.reduceMul, Nat.reducePow, Nat.zero_lt_succ, Nat.zero_add, Nat.add_zero, List.length_cons, List.length_nil, Nat.reduceLeDiff, Nat.le_refl, List.take_succ_cons, List.take_zero, List.drop_succ_cons, List.drop_zero, indexV, lenV, rowOf_mapD, rowOf_mapI, rowOf_mapA, List.length_map, Int.toNat_natCast, List.getElem?_cons_zero, List.getElem?_cons_succ, and_self, implies_true, if_true, if_false, HQ_zn, HQ_zr, HQ_wn, HQ_wr, AV.nz, AV.nzL, RV.nrm, SEbin, SEnil, nilK, srcV, dstV, appName, List.length_append, Nat.mul_one, take_map_len, take_map_app, List.getElem?_cons_zero, List.map_append, c27, r27, v27_1, v27_2, u27_3, u27_4, u27_5, v27_6, u27_7, u27_8, u27_9, v27_10, v27_11, v27_12, u27_13, u27_14, v27_15, v27_16, v27_17, v27_18, v27_19, v27_20, m27_20, v27_21, v27_22, v27_23, m27_23, u27_24, u27_25, u27_26, u27_27, u27_28, u27_29, u27_30, v27_31, v27_32, v27_33, v27_34, m27_34, v27_35, v27_36, u27_37, u27_38, u27_39, u27_40, u27_41, u27_42, u27_43, u27_44, u27_45, ty23, ty28, ty47, ty30, ty29, ty3, ty78, ty86, ty5, aokB, aokD, aokA, GeoD.av, GeoD.cells, DevD.av, DevD.cells, JrnD.av, JrnD.cells, bytes, ↓handO_allN, ↓handO_kill, ↓handO_nz, hand0, runF_nil, cmK0, HQ_yn, HQ_yr, Loc.nz, AO.nz, bne_self_eq_false, doneV, minW2, maxW, bnd, sliceV, Option.getD_some, Option.getD_none, Rows_byK, ← List.map_take, ← List.map_drop]) | (with_reducible refine And.intro ?_ ?_) | (refine call_ro e32 ( check_p g d) rfl ?_ ?_ ?_ ?_) | (refine gcall_ro e32 ( check_p g d) rfl ?_ ?_ ?_ ?_) | (refine dcall_ro e32 ( check_p g d) rfl ?_ ?_ ?_ ?_) | (refine gdcall_ro rfl e32 ( check_p g d) rfl ?_ ?_ ?_ ?_) | (refine call_ro e54 ( ringCheck_p g j) rfl ?_ ?_ ?_ ?_) | (refine gcall_ro e54 ( ringCheck_p g j) rfl ?_ ?_ ?_ ?_) | (refine dcall_ro e54 ( ringCheck_p g j) rfl ?_ ?_ ?_ ?_) | (refine gdcall_ro rfl e54 ( ringCheck_p g j) rfl ?_ ?_ ?_ ?_) | (refine call_ro e58 ( frame_p j.epoch j.next k ((k : Int) == (kN b : Int) - 1) (chS 52 b k) (Nat.le_trans (chS_len b k) (by decide))) rfl ?_ ?_ ?_ ?_) | (refine gcall_ro e58 ( frame_p j.epoch j.next k ((k : Int) == (kN b : Int) - 1) (chS 52 b k) (Nat.le_trans (chS_len b k) (by decide))) rfl ?_ ?_ ?_ ?_) | (refine dcall_ro e58 ( frame_p j.epoch j.next k ((k : Int) == (kN b : Int) - 1) (chS 52 b k) (Nat.le_trans (chS_len b k) (by decide))) rfl ?_ ?_ ?_ ?_) | (refine gdcall_ro rfl e58 ( frame_p j.epoch j.next k ((k : Int) == (kN b : Int) - 1) (chS 52 b k) (Nat.le_trans (chS_len b k) (by decide))) rfl ?_ ?_ ?_ ?_) | (refine call_own [] [(B + 56, handO g (runF g d (cmK g j b (kN b) (k + 1))))] e49 (hputC g d j b (kN b) k hwf _ _ (B + 56) (by omega) (by simp [sto])) rfl ?_ ?_ ?_ ?_ ?_) | (refine call_own [] [(B + 56, handO g (runF g d (cmE g j b (kN b) k)))] e51 (hflushC g d j b (kN b) k hwf _ _ (B + 56) (by omega) (by simp [sto])) rfl ?_ ?_ ?_ ?_ ?_) | (refine call_roC e52 ( hend_p g (runF g d (cmE g j b (kN b) k)) (j2 g j (kN b)) (B + 56)) rfl ?_ ?_ ?_ ?_ ?_) | (refine loop_nat (kN b) (fun _ => True) (fun k => [(3, .d (bytes b)), (57, I (kN b)), (58, I k), (4, .lp (B + 4) 0), (13, I (kN b)), (14, .lp (B + 56) 0), (6, .lp (B + 6) 0), (8, .lp (B + 8) 0), (9, .lp (B + 9) 0)]) (fun k => [(B + 56, handO g (runF g d (cmK g j b (kN b) k))), (B + 4, .box g.cells), (B + 6, .box j.cells), (B + 8, .box [.d (.v (.slice none 0 0)), .d (.v (.slice none 0 0)), .d (.v (.slice none 0 0)), I 0]), (B + 9, .box [I 0, I 0, I 0, I 0, I 0, I 0, I 0, I 0, I 0])]) ?_ (Wk.keep hcl ?_ ?_ ?_) fun k hk hF => ?_; rotate_left 1; (focus (simp [Fr.get, newF, Fr.map, AV.kill, AV.mapN, aokB, aokD, aokA, GeoD.av, GeoD.cells, DevD.av, DevD.cells, JrnD.av, JrnD.cells, bytes, ↓handO_allN, ↓handO_kill, ↓handO_nz, hand0, runF_nil, cmK0, HQ_yn, HQ_yr, Loc.nz, AO.nz, bne_self_eq_false, doneV, minW2, maxW, bnd, sliceV, Option.getD_some, Option.getD_none, Rows_byK, ← List.map_take, ← List.map_drop] <;> fail)); (focus (simp [sto, newL, Loc.kill, Loc.set, AO.kill, AV.kill, AV.mapN, aokB, aokD, aokA, GeoD.av, GeoD.cells, DevD.av, DevD.cells, JrnD.av, JrnD.cells, bytes, ↓handO_allN, ↓handO_kill, ↓handO_nz, hand0, runF_nil, cmK0, HQ_yn, HQ_yr, Loc.nz, AO.nz, bne_self_eq_false, doneV, minW2, maxW, bnd, sliceV, Option.getD_some, Option.getD_none, Rows_byK, ← List.map_take, ← List.map_drop] <;> fail)); (focus (simp [newL, Loc.kill, Loc.set, aokB, aokD, aokA, GeoD.av, GeoD.cells, DevD.av, DevD.cells, JrnD.av, JrnD.cells, bytes, ↓handO_allN, ↓handO_kill, ↓handO_nz, hand0, runF_nil, cmK0, HQ_yn, HQ_yr, Loc.nz, AO.nz, bne_self_eq_false, doneV, minW2, maxW, bnd, sliceV, Option.getD_some, Option.getD_none, Rows_byK, ← List.map_take, ← List.map_drop] <;> fail)); (try have hw : IntKind.i64.wrap ((k : Int) + 1) = (k : Int) + 1 := IntWalk.i64_in _ (by omega))) | (refine EndX.plain ?_) | (refine nil_split (fun hn => ?_) (fun hn => ?_)) | (refine gcall_no not_false ?_) | (refine gdcall_no not_false ?_) | (refine GuardS_of _ _ _ _ _ _ (fun hg => ?_) (fun hg => ?_)) | (refine GuardD_of _ _ _ _ (fun hg => ?_) (fun hg => ?_)) | (refine CondB_of _ _ _ _ _ _ _ ?_ (fun hg => ?_) (fun hg => ?_)))
  all_goals (try (first | ((first | unfold noN | unfold Fr.below | unfold Loc.below); simp [Fr.allN, AV.allN, AV.allNL, AO.allN]; done) | rfl | trivial | assumption | (intro row hrow; simp only [List.mem_map] at hrow; obtain ⟨x, _, rfl⟩ := hrow; rfl) | (refine Wk.keep hcl ?_ ?_ ?_; (focus (simp [Fr.get, aokB, aokD, aokA, GeoD.av, GeoD.cells, DevD.av, DevD.cells, JrnD.av, JrnD.cells, bytes, ↓handO_allN, ↓handO_kill, ↓handO_nz, hand0, runF_nil, cmK0, HQ_yn, HQ_yr, Loc.nz, AO.nz, bne_self_eq_false, doneV, minW2, maxW, bnd, sliceV, Option.getD_some, Option.getD_none, Rows_byK, ← List.map_take, ← List.map_drop] <;> fail)); (focus (simp [sto, aokB, aokD, aokA, GeoD.av, GeoD.cells, DevD.av, DevD.cells, JrnD.av, JrnD.cells, bytes, ↓handO_allN, ↓handO_kill, ↓handO_nz, hand0, runF_nil, cmK0, HQ_yn, HQ_yr, Loc.nz, AO.nz, bne_self_eq_false, doneV, minW2, maxW, bnd, sliceV, Option.getD_some, Option.getD_none, Rows_byK, ← List.map_take, ← List.map_drop] <;> fail)); (focus (simp <;> fail))) | (simp [allP, opd, Fr.get, Fr.below, Fr.allN, AV.allN, AV.allNL, Loc.below, AO.allN, noN, killO, killT, killD, mkNames, AO.kill, AV.kill, AV.mapN, AV.mapNL]; done) | (with_reducible exact ltD (by assumption)) | omega | (simp only [decide_eq_true_eq, decide_eq_false_iff_not] at *; omega)))
  all_goals (try (first
    | (unfold Loc.below; simp only [List.all_cons, List.all_nil, handO_allN]; simp [AO.allN, AV.allN, AV.allNL]; done)
    | (simp [sto]; done)))
  all_goals (
    have hk2 : k = kN b := by simp at hg; omega
    rw [hk2])
/-- why nothing is committed -/
def cmBad (g : GeoD) (d : DevD) (j : JrnD) (b : List UInt8) (e : Int) : Prop := (devF g d == 0) = false ∧ (devF g d != 0) = true ∧ e = devF g d ∨ devF g d = 0 ∧ (jrnF g j == 0) = false ∧ (jrnF g j != 0) = true ∧ e = jrnF g j ∨ devF g d = 0 ∧ JOk g j ∧ j.used + kN b > g.ring ∧ e = 8 ∨ devF g d = 0 ∧ JOk g j ∧ ¬ j.used + kN b > g.ring ∧ j.next = 1048576 ∧ e = 8
theorem commit_e (g : GeoD) (d : DevD) (j : JrnD) (b : List UInt8) (e : Int) (h : cmBad g d j b e) : Pure Try.prog 27 [g.av, d.av, j.av, .d (bytes b)] (.tup [nilD.av, nilJ.av, I e]) := by
  refine pureY_of follows Try.func27 c27_eq r27 (Nat.le_of_ble_eq_true rfl) fun B σ hcl hsz => ?_
  have hb : b.length ≤ 2 ^ 47 := by simpa using (show Sized (bytes b) from hsz (.d (bytes b)) (by simp)).len
  clear hsz
  obtain ⟨w1, w2, w3⟩ := k_w b hb
  have w4 := k_max b
  obtain ⟨k1, k2⟩ := kN_b hb
  unfold cmBad at h
  rcases h with ⟨h1, h1', rfl⟩ | ⟨h1, h2, h2', rfl⟩ | ⟨h1, hj, h3, rfl⟩ | ⟨h1, hj, h3, h4, rfl⟩
  all_goals (try (
    have hB := geoB (geo_dev h1)
    have hJ := jrn_0 (geo_dev h1) hj
    obtain ⟨gr1, gr2, ga1, ga2, gh1, gh2⟩ := hB
    obtain ⟨g1, g2, e1, e2, f1, n1, n2, a1, a2, l1, l2, s1, s2, u1, u2, pp⟩ := hj
    have q1 : IntKind.i64.wrap (j.used + (kN b : Int)) = j.used + kN b := IntWalk.i64_in _ (by omega)
    first
    | (have q2 : decide (j.used + (kN b : Int) > g.ring) = true := by simpa using h3)
    | (have q2 : decide (j.used + (kN b : Int) > g.ring) = false := by simpa using h3
       have q3 : (j.next == 1048576) = true := by simpa using h4)
    clear gr1 gr2 ga1 ga2 gh1 gh2 g1 g2 e1 e2 f1 n1 n2 a1 a2 l1 l2 s1 s2 u1 u2 pp h3))
  all_goals (try clear h4)
  repeat' (first | (simp -implicitDefEqProofs only [*, contN, contC, Nat.reduceBEq, Bool.or_false, Bool.or_true, Bool.false_or, Bool.true_or, Bool.not_true, Bool.not_false, w_skip, w_ret, w_exit, w_reg, w_dreg, w_seq, SK_n, SK_r, SK_x, w_keep, w_block, w_cond, w_nil, w_cons, w_consg, w_nnil, w_ncons, w_dnil, w_dcons, w_dconsg, HK_app, HD_app, HQ_n, HQ_r, HQ_x, HQ_bn, HQ_br, HQ_bx, HQ_en, HQ_er, HQ_ex, CondB_true, CondB_false, SO1, w_sdv, SDe_alloc, SDe_box, SDe_bslice, SDe_app, true_imp_iff, false_imp_iff, and_false, false_and, not_false_eq_true, not_true_eq_false, addN, mkNames, killT, killD, killO, List.foldl_nil, List.foldl_cons, List.append_nil, List.nil_append, List.cons_append, GuardS_true, GuardS_false, GuardD_true, GuardD_false, DK_true, DK_false, lt_self_add, le_self_add, decide_true, decide_false, Bool.false_eq_true, Bool.true_eq_false, Nat.add_left_cancel_iff, SE, SEalloc, SEbox, SEstore, w_bs, SEbl, SEfz, SEbs0, fzName, osOf, AV.fz1, w_app, w_mk, aev, opd, Fr.get, putO, Fr.norm, List.map_cons, List.map_nil, with1, with2, onInt, AV.lit, entry, ↓reduceIte, Nat.reduceEqDiff, Nat.reduceAdd, reduceCtorEq, true_and, and_true, Option.map_some, Option.map_none, Option.bind_some, Option.bind_none, cond_true, cond_false, binV, unV, fieldV, loadV, sto, cellsAV, newF, newL, Fr.map, Loc.kill, Loc.set, AO.kill, AV.kill, AV.mapN, AV.mapNL, List.filter_nil, List.filter_cons, allP, EndV, retV, resV, resL, frz, dropL, AV.pick, nilV, tupV, imp_self, ne_eq, Int.cast_ofNat_Int, Int.reduceLT, Int.reduceToNat, List.getD_cons_zero, List.getD_cons_succ, bsliceV, buildV, afill, repl, chunk, rvs, AV.rv, RV.nrm, List.getElem?_nil, List.append_assoc, Nat.reduceMul, Nat.reducePow, Nat.zero_lt_succ, Nat.zero_add, Nat.add_zero, List.length_cons, List.length_nil, Nat.reduceLeDiff, Nat.le_refl, List.take_succ_cons, List.take_zero, List.drop_succ_cons, List.drop_zero, indexV, lenV, rowOf_mapD, rowOf_mapI, rowOf_mapA, List.length_map, Int.toNat_natCast, List.getElem?_cons_zero, List.getElem?_cons_succ, and_self, implies_true, if_true, if_false, HQ_zn, HQ_zr, HQ_wn, HQ_wr, AV.nz, AV.nzL, RV.nrm, SEbin, SEnil, nilK, srcV, dstV, appName, List.length_append, Nat.mul_one, take_map_len, take_map_app, List.getElem?_cons_zero, List.map_append, c27, r27, v27_1, v27_2, u27_3, u27_4, u27_5, v27_6, u27_7, u27_8, u27_9, v27_10, v27_11, v27_12, u27_13, u27_14, v27_15, v27_16, v27_17, v27_18, v27_19, v27_20, m27_20, v27_21, v27_22, v27_23, m27_23, u27_24, u27_25, u27_26, u27_27, u27_28, u27_29, u27_30, v27_31, v27_32, v27_33, v27_34, m27_34, v27_35, v27_36, u27_37, u27_38, u27_39, u27_40, u27_41, u27_42, u27_43, u27_44, u27_45, ty23, ty28, ty47, ty30, ty29, ty3, ty78, ty86, ty5, GeoD.av, DevD.av, JrnD.av, JrnD.cells, nilD, nilJ, bytes, HQ_yn, HQ_yr, Loc.nz, AO.nz, bne_self_eq_false, maxW]) | (with_reducible refine And.intro ?_ ?_) | (refine call_ro e32 ( check_p g d) rfl ?_ ?_ ?_ ?_) | (refine gcall_ro e32 ( check_p g d) rfl ?_ ?_ ?_ ?_) | (refine dcall_ro e32 ( check_p g d) rfl ?_ ?_ ?_ ?_) | (refine gdcall_ro rfl e32 ( check_p g d) rfl ?_ ?_ ?_ ?_) | (refine call_ro e54 ( ringCheck_p g j) rfl ?_ ?_ ?_ ?_) | (refine gcall_ro e54 ( ringCheck_p g j) rfl ?_ ?_ ?_ ?_) | (refine dcall_ro e54 ( ringCheck_p g j) rfl ?_ ?_ ?_ ?_) | (refine gdcall_ro rfl e54 ( ringCheck_p g j) rfl ?_ ?_ ?_ ?_) | (refine EndX.plain ?_) | (refine nil_split (fun hn => ?_) (fun hn => ?_)) | (refine gcall_no not_false ?_) | (refine gdcall_no not_false ?_) | (refine GuardS_of _ _ _ _ _ _ (fun hg => ?_) (fun hg => ?_)) | (refine GuardD_of _ _ _ _ (fun hg => ?_) (fun hg => ?_)) | (refine CondB_of _ _ _ _ _ _ _ ?_ (fun hg => ?_) (fun hg => ?_)))
  all_goals (try (first | ((first | unfold noN | unfold Fr.below | unfold Loc.below); simp [Fr.allN, AV.allN, AV.allNL, AO.allN]; done) | rfl | trivial | assumption | (intro row hrow; simp only [List.mem_map] at hrow; obtain ⟨x, _, rfl⟩ := hrow; rfl) | (refine Wk.keep hcl ?_ ?_ ?_; (focus (simp [Fr.get, GeoD.av, DevD.av, JrnD.av, JrnD.cells, nilD, nilJ, bytes, HQ_yn, HQ_yr, Loc.nz, AO.nz, bne_self_eq_false, maxW] <;> fail)); (focus (simp [sto, GeoD.av, DevD.av, JrnD.av, JrnD.cells, nilD, nilJ, bytes, HQ_yn, HQ_yr, Loc.nz, AO.nz, bne_self_eq_false, maxW] <;> fail)); (focus (simp <;> fail))) | (simp [allP, opd, Fr.get, Fr.below, Fr.allN, AV.allN, AV.allNL, Loc.below, AO.allN, noN, killO, killT, killD, mkNames, AO.kill, AV.kill, AV.mapN, AV.mapNL]; done) | (with_reducible exact ltD (by assumption)) | omega | (simp only [decide_eq_true_eq, decide_eq_false_iff_not] at *; omega)))
  all_goals rfl
end Go.Proofs.Ytkcfnhfbdcnhjaa
