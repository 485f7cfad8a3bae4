/- The reference's WroteOf; the law HotWrites, walked. -/
import Derived.Test.YtkcfnhfbdcnhjaaWriteP
import Derived.Test.YtkcfnhfbdcnhjaaDone
import Derived.Test.YtkcfnhfbdcnhjaaFz
import Derived.Test.YtkcfnhfbdcnhjaaTypes
namespace Go.Proofs.Ytkcfnhfbdcnhjaa
open Go.RowKit
set_option maxRecDepth 100000
/-- icehouse_icehouseref.WroteOf -/
def o22_1 : List SO := ((SO.mk (some 26) (.un .not (.tmp 25)) (some (20 , true))) :: (SO.mk (some 27) (.pick (.tmp 20) (.tmp 26) (.const (Value.bool false))) none) :: [])
theorem v22_1 (P : Program) (B : Nat) (T0 : List Nat) (r : Sto) (K : Fr → Loc → Prop) (a : Fr) (l : Loc) : SWL P B T0 r o22_1 K a l = SWL P B T0 r ((SO.mk (some 26) (.un .not (.tmp 25)) (some (20 , true))) :: (SO.mk (some 27) (.pick (.tmp 20) (.tmp 26) (.const (Value.bool false))) none) :: []) K a l := (rfl)
def o22_2 : List SO := ((SO.mk (some 22) (.move (.tmp 2)) (some (20 , true))) :: (SO.mk (some 23) (.move (.tmp 3)) (some (20 , true))) :: (SO.mk (some 24) (.len 29 (.tmp 23)) (some (20 , true))) :: (SO.mk (some 25) (.call 44 [(.tmp 21), (.tmp 22), (.tmp 24)]) (some (20 , true))) :: o22_1)
theorem v22_2 (P : Program) (B : Nat) (T0 : List Nat) (r : Sto) (K : Fr → Loc → Prop) (a : Fr) (l : Loc) : SWL P B T0 r o22_2 K a l = SWL P B T0 r ((SO.mk (some 22) (.move (.tmp 2)) (some (20 , true))) :: (SO.mk (some 23) (.move (.tmp 3)) (some (20 , true))) :: (SO.mk (some 24) (.len 29 (.tmp 23)) (some (20 , true))) :: (SO.mk (some 25) (.call 44 [(.tmp 21), (.tmp 22), (.tmp 24)]) (some (20 , true))) :: o22_1) K a l := (rfl)
def c22_3 : SC := (.cond (.tmp 27) (.reg [SO.mk (some 10) (.move (.const (Value.int .i64 2))) none]) .skip)
theorem u22_3 (P : Program) (B : Nat) (T0 : List Nat) (r : Sto) (Q : Ex → Fr → Loc → Prop) (a : Fr) (l : Loc) : SW P B T0 r c22_3 Q a l = SW P B T0 r (.cond (.tmp 27) (.reg [SO.mk (some 10) (.move (.const (Value.int .i64 2))) none]) .skip) Q a l := (rfl)
def c22_4 : SC := (.seq (.reg [SO.mk (some 30) (.build 28 []) none, SO.mk (some 31) (.move (.tmp 10)) none, SO.mk none (.store 28 (.tmp 8) (.tmp 30)) none, SO.mk (some 9) (.move (.tmp 31)) none]) (.keep [8, 9] .ret))
theorem u22_4 (P : Program) (B : Nat) (T0 : List Nat) (r : Sto) (Q : Ex → Fr → Loc → Prop) (a : Fr) (l : Loc) : SW P B T0 r c22_4 Q a l = SW P B T0 r (.seq (.reg [SO.mk (some 30) (.build 28 []) none, SO.mk (some 31) (.move (.tmp 10)) none, SO.mk none (.store 28 (.tmp 8) (.tmp 30)) none, SO.mk (some 9) (.move (.tmp 31)) none]) (.keep [8, 9] .ret)) Q a l := (rfl)
def c22_5 : SC := (.cond (.tmp 29) c22_4 .skip)
theorem u22_5 (P : Program) (B : Nat) (T0 : List Nat) (r : Sto) (Q : Ex → Fr → Loc → Prop) (a : Fr) (l : Loc) : SW P B T0 r c22_5 Q a l = SW P B T0 r (.cond (.tmp 29) c22_4 .skip) Q a l := (rfl)
def c22_6 : SC := (.cond (.tmp 35) .skip (.exit 0))
theorem u22_6 (P : Program) (B : Nat) (T0 : List Nat) (r : Sto) (Q : Ex → Fr → Loc → Prop) (a : Fr) (l : Loc) : SW P B T0 r c22_6 Q a l = SW P B T0 r (.cond (.tmp 35) .skip (.exit 0)) Q a l := (rfl)
def o22_7 : List SO := ((SO.mk (some 54) (.move (.tmp 12)) none) :: (SO.mk (some 55) (.call 47 [(.tmp 53), (.tmp 54), (.const (Value.int .i64 64))]) none) :: (SO.mk (some 56) (.build 74 [(1 , (.tmp 52)), (2 , (.tmp 55))]) none) :: (SO.mk (some 57) (.bslice 71 1 [(0 , (.tmp 56))]) none) :: [])
theorem v22_7 (P : Program) (B : Nat) (C : List Nat) (σ0 : Sto) (l0 : Loc) (K : Fr → Loc → Prop) (a : Fr) (l : Loc) : SWD P B C σ0 l0 o22_7 K a l = SWD P B C σ0 l0 ((SO.mk (some 54) (.move (.tmp 12)) none) :: (SO.mk (some 55) (.call 47 [(.tmp 53), (.tmp 54), (.const (Value.int .i64 64))]) none) :: (SO.mk (some 56) (.build 74 [(1 , (.tmp 52)), (2 , (.tmp 55))]) none) :: (SO.mk (some 57) (.bslice 71 1 [(0 , (.tmp 56))]) none) :: []) K a l := (rfl)
def o22_8 : List SO := ((SO.mk (some 50) (.iaddr 40 (.tmp 48) (.tmp 49)) none) :: (SO.mk (some 51) (.load 3 (.tmp 50)) none) :: (SO.mk (some 52) (.bin .add 3 (.tmp 47) (.tmp 51)) none) :: (SO.mk (some 53) (.move (.tmp 3)) none) :: o22_7)
theorem v22_8 (P : Program) (B : Nat) (C : List Nat) (σ0 : Sto) (l0 : Loc) (K : Fr → Loc → Prop) (a : Fr) (l : Loc) : SWD P B C σ0 l0 o22_8 K a l = SWD P B C σ0 l0 ((SO.mk (some 50) (.iaddr 40 (.tmp 48) (.tmp 49)) none) :: (SO.mk (some 51) (.load 3 (.tmp 50)) none) :: (SO.mk (some 52) (.bin .add 3 (.tmp 47) (.tmp 51)) none) :: (SO.mk (some 53) (.move (.tmp 3)) none) :: o22_7) K a l := (rfl)
def o22_9 : List SO := ((SO.mk (some 46) (.load 3 (.tmp 45)) none) :: (SO.mk (some 47) (.bin .add 3 (.tmp 44) (.tmp 46)) none) :: (SO.mk (some 48) (.move (.tmp 2)) none) :: (SO.mk (some 49) (.move (.tmp 12)) none) :: o22_8)
theorem v22_9 (P : Program) (B : Nat) (C : List Nat) (σ0 : Sto) (l0 : Loc) (K : Fr → Loc → Prop) (a : Fr) (l : Loc) : SWD P B C σ0 l0 o22_9 K a l = SWD P B C σ0 l0 ((SO.mk (some 46) (.load 3 (.tmp 45)) none) :: (SO.mk (some 47) (.bin .add 3 (.tmp 44) (.tmp 46)) none) :: (SO.mk (some 48) (.move (.tmp 2)) none) :: (SO.mk (some 49) (.move (.tmp 12)) none) :: o22_8) K a l := (rfl)
def o22_10 : List SO := ((SO.mk (some 42) (.faddr 23 (.tmp 4) 1) none) :: (SO.mk (some 43) (.load 3 (.tmp 42)) none) :: (SO.mk (some 44) (.bin .add 3 (.tmp 41) (.tmp 43)) none) :: (SO.mk (some 45) (.faddr 23 (.tmp 4) 1) none) :: o22_9)
theorem v22_10 (P : Program) (B : Nat) (C : List Nat) (σ0 : Sto) (l0 : Loc) (K : Fr → Loc → Prop) (a : Fr) (l : Loc) : SWD P B C σ0 l0 o22_10 K a l = SWD P B C σ0 l0 ((SO.mk (some 42) (.faddr 23 (.tmp 4) 1) none) :: (SO.mk (some 43) (.load 3 (.tmp 42)) none) :: (SO.mk (some 44) (.bin .add 3 (.tmp 41) (.tmp 43)) none) :: (SO.mk (some 45) (.faddr 23 (.tmp 4) 1) none) :: o22_9) K a l := (rfl)
def o22_11 : List SO := ((SO.mk (some 38) (.move (.tmp 11)) none) :: (SO.mk (some 39) (.faddr 23 (.tmp 4) 0) none) :: (SO.mk (some 40) (.load 3 (.tmp 39)) none) :: (SO.mk (some 41) (.bin .add 3 (.const (Value.int .i64 2)) (.tmp 40)) none) :: o22_10)
theorem v22_11 (P : Program) (B : Nat) (C : List Nat) (σ0 : Sto) (l0 : Loc) (K : Fr → Loc → Prop) (a : Fr) (l : Loc) : SWD P B C σ0 l0 o22_11 K a l = SWD P B C σ0 l0 ((SO.mk (some 38) (.move (.tmp 11)) none) :: (SO.mk (some 39) (.faddr 23 (.tmp 4) 0) none) :: (SO.mk (some 40) (.load 3 (.tmp 39)) none) :: (SO.mk (some 41) (.bin .add 3 (.const (Value.int .i64 2)) (.tmp 40)) none) :: o22_10) K a l := (rfl)
theorem m22_11 (B : Nat) : mkNames B o22_11 = [] := (rfl)
def c22_12 : SC := (.reg [SO.mk (some 36) (.move (.tmp 12)) none, SO.mk (some 37) (.bin .add 3 (.tmp 36) (.const (Value.int .i64 1))) none, SO.mk (some 12) (.move (.tmp 37)) none])
theorem u22_12 (P : Program) (B : Nat) (T0 : List Nat) (r : Sto) (Q : Ex → Fr → Loc → Prop) (a : Fr) (l : Loc) : SW P B T0 r c22_12 Q a l = SW P B T0 r (.reg [SO.mk (some 36) (.move (.tmp 12)) none, SO.mk (some 37) (.bin .add 3 (.tmp 36) (.const (Value.int .i64 1))) none, SO.mk (some 12) (.move (.tmp 37)) none]) Q a l := (rfl)
def c22_13 : SC := (.seq (.block 1 (.dreg false o22_11 [SO.mk (some 58) (.app 71 71 (.tmp 38) (.tmp 57)) none, SO.mk (some 11) (.move (.tmp 58)) none])) (.keep [12, 3, 2, 11, 4, 5, 8] c22_12))
theorem u22_13 (P : Program) (B : Nat) (T0 : List Nat) (r : Sto) (Q : Ex → Fr → Loc → Prop) (a : Fr) (l : Loc) : SW P B T0 r c22_13 Q a l = SW P B T0 r (.seq (.block 1 (.dreg false o22_11 [SO.mk (some 58) (.app 71 71 (.tmp 38) (.tmp 57)) none, SO.mk (some 11) (.move (.tmp 58)) none])) (.keep [12, 3, 2, 11, 4, 5, 8] c22_12)) Q a l := (rfl)
def c22_14 : SC := (.seq (.seq (.reg [SO.mk (some 32) (.move (.tmp 12)) none, SO.mk (some 33) (.move (.tmp 2)) none, SO.mk (some 34) (.len 40 (.tmp 33)) none, SO.mk (some 35) (.bin .lss 3 (.tmp 32) (.tmp 34)) none]) (.keep [35, 2, 3, 12, 11, 4, 5, 8] c22_6)) (.keep [11, 12, 3, 2, 4, 5, 8] c22_13))
theorem u22_14 (P : Program) (B : Nat) (T0 : List Nat) (r : Sto) (Q : Ex → Fr → Loc → Prop) (a : Fr) (l : Loc) : SW P B T0 r c22_14 Q a l = SW P B T0 r (.seq (.seq (.reg [SO.mk (some 32) (.move (.tmp 12)) none, SO.mk (some 33) (.move (.tmp 2)) none, SO.mk (some 34) (.len 40 (.tmp 33)) none, SO.mk (some 35) (.bin .lss 3 (.tmp 32) (.tmp 34)) none]) (.keep [35, 2, 3, 12, 11, 4, 5, 8] c22_6)) (.keep [11, 12, 3, 2, 4, 5, 8] c22_13)) Q a l := (rfl)
def c22_15 : SC := (.block 0 (.loop (.keep [2, 3, 12, 11, 4, 5, 8] c22_14)))
theorem u22_15 (P : Program) (B : Nat) (T0 : List Nat) (r : Sto) (Q : Ex → Fr → Loc → Prop) (a : Fr) (l : Loc) : SW P B T0 r c22_15 Q a l = SW P B T0 r (.block 0 (.loop (.keep [2, 3, 12, 11, 4, 5, 8] c22_14))) Q a l := (rfl)
def o22_16 : List SO := ((SO.mk none (.store 47 (.tmp 14) (.tmp 70)) none) :: (SO.mk (some 10) (.move (.tmp 71)) none) :: [])
theorem v22_16 (P : Program) (B : Nat) (T0 : List Nat) (r : Sto) (K : Fr → Loc → Prop) (a : Fr) (l : Loc) : SWL P B T0 r o22_16 K a l = SWL P B T0 r ((SO.mk none (.store 47 (.tmp 14) (.tmp 70)) none) :: (SO.mk (some 10) (.move (.tmp 71)) none) :: []) K a l := (rfl)
def o22_17 : List SO := ((SO.mk (some 71) (.extract (.tmp 63) 2) none) :: (SO.mk (some 13) (.alloc 28) none) :: (SO.mk (some 14) (.alloc 47) none) :: (SO.mk none (.store 28 (.tmp 13) (.tmp 69)) none) :: o22_16)
theorem v22_17 (P : Program) (B : Nat) (T0 : List Nat) (r : Sto) (K : Fr → Loc → Prop) (a : Fr) (l : Loc) : SWL P B T0 r o22_17 K a l = SWL P B T0 r ((SO.mk (some 71) (.extract (.tmp 63) 2) none) :: (SO.mk (some 13) (.alloc 28) none) :: (SO.mk (some 14) (.alloc 47) none) :: (SO.mk none (.store 28 (.tmp 13) (.tmp 69)) none) :: o22_16) K a l := (rfl)
def o22_18 : List SO := ((SO.mk (some 68) (.call 48 [(.tmp 64), (.tmp 65), (.tmp 66), (.tmp 67)]) none) :: (SO.mk (some 63) (.move (.tmp 68)) none) :: (SO.mk (some 69) (.extract (.tmp 63) 0) none) :: (SO.mk (some 70) (.extract (.tmp 63) 1) none) :: o22_17)
theorem v22_18 (P : Program) (B : Nat) (T0 : List Nat) (r : Sto) (K : Fr → Loc → Prop) (a : Fr) (l : Loc) : SWL P B T0 r o22_18 K a l = SWL P B T0 r ((SO.mk (some 68) (.call 48 [(.tmp 64), (.tmp 65), (.tmp 66), (.tmp 67)]) none) :: (SO.mk (some 63) (.move (.tmp 68)) none) :: (SO.mk (some 69) (.extract (.tmp 63) 0) none) :: (SO.mk (some 70) (.extract (.tmp 63) 1) none) :: o22_17) K a l := (rfl)
def c22_19 : SC := (.seq (.reg [SO.mk (some 72) (.load 28 (.tmp 13)) none, SO.mk (some 73) (.move (.tmp 10)) none, SO.mk none (.store 28 (.tmp 8) (.tmp 72)) none, SO.mk (some 9) (.move (.tmp 73)) none]) (.keep [8, 9] .ret))
theorem u22_19 (P : Program) (B : Nat) (T0 : List Nat) (r : Sto) (Q : Ex → Fr → Loc → Prop) (a : Fr) (l : Loc) : SW P B T0 r c22_19 Q a l = SW P B T0 r (.seq (.reg [SO.mk (some 72) (.load 28 (.tmp 13)) none, SO.mk (some 73) (.move (.tmp 10)) none, SO.mk none (.store 28 (.tmp 8) (.tmp 72)) none, SO.mk (some 9) (.move (.tmp 73)) none]) (.keep [8, 9] .ret)) Q a l := (rfl)
def c22_20 : SC := (.seq (.reg ((SO.mk (some 64) (.load 23 (.tmp 4)) none) :: (SO.mk (some 65) (.load 28 (.tmp 5)) none) :: (SO.mk (some 66) (.move (.tmp 11)) none) :: (SO.mk (some 67) (.build 47 []) none) :: o22_18)) (.keep [13, 10, 8] c22_19))
theorem u22_20 (P : Program) (B : Nat) (T0 : List Nat) (r : Sto) (Q : Ex → Fr → Loc → Prop) (a : Fr) (l : Loc) : SW P B T0 r c22_20 Q a l = SW P B T0 r (.seq (.reg ((SO.mk (some 64) (.load 23 (.tmp 4)) none) :: (SO.mk (some 65) (.load 28 (.tmp 5)) none) :: (SO.mk (some 66) (.move (.tmp 11)) none) :: (SO.mk (some 67) (.build 47 []) none) :: o22_18)) (.keep [13, 10, 8] c22_19)) Q a l := (rfl)
def c22_21 : SC := (.seq (.reg [SO.mk (some 59) (.move (.tmp 11)) none, SO.mk (some 60) (.build 74 [(0 , (.const (Value.bool true)))]) none, SO.mk (some 61) (.bslice 71 1 [(0 , (.tmp 60))]) none, SO.mk (some 62) (.app 71 71 (.tmp 59) (.tmp 61)) none, SO.mk (some 11) (.move (.tmp 62)) none]) (.keep [4, 5, 11, 8] c22_20))
theorem u22_21 (P : Program) (B : Nat) (T0 : List Nat) (r : Sto) (Q : Ex → Fr → Loc → Prop) (a : Fr) (l : Loc) : SW P B T0 r c22_21 Q a l = SW P B T0 r (.seq (.reg [SO.mk (some 59) (.move (.tmp 11)) none, SO.mk (some 60) (.build 74 [(0 , (.const (Value.bool true)))]) none, SO.mk (some 61) (.bslice 71 1 [(0 , (.tmp 60))]) none, SO.mk (some 62) (.app 71 71 (.tmp 59) (.tmp 61)) none, SO.mk (some 11) (.move (.tmp 62)) none]) (.keep [4, 5, 11, 8] c22_20)) Q a l := (rfl)
def c22_22 : SC := (.seq (.seq (.reg [SO.mk (some 12) (.move (.const (Value.int .i64 0))) none]) (.keep [2, 3, 12, 11, 4, 5, 8] c22_15)) (.keep [11, 4, 5, 8] c22_21))
theorem u22_22 (P : Program) (B : Nat) (T0 : List Nat) (r : Sto) (Q : Ex → Fr → Loc → Prop) (a : Fr) (l : Loc) : SW P B T0 r c22_22 Q a l = SW P B T0 r (.seq (.seq (.reg [SO.mk (some 12) (.move (.const (Value.int .i64 0))) none]) (.keep [2, 3, 12, 11, 4, 5, 8] c22_15)) (.keep [11, 4, 5, 8] c22_21)) Q a l := (rfl)
def c22_23 : SC := (.seq (.reg [SO.mk (some 11) (.move (.const (Value.slice none 0 0))) none]) (.keep [2, 3, 11, 4, 5, 8] c22_22))
theorem u22_23 (P : Program) (B : Nat) (T0 : List Nat) (r : Sto) (Q : Ex → Fr → Loc → Prop) (a : Fr) (l : Loc) : SW P B T0 r c22_23 Q a l = SW P B T0 r (.seq (.reg [SO.mk (some 11) (.move (.const (Value.slice none 0 0))) none]) (.keep [2, 3, 11, 4, 5, 8] c22_22)) Q a l := (rfl)
def c22_24 : SC := (.seq (.seq (.reg [SO.mk (some 28) (.move (.tmp 10)) none, SO.mk (some 29) (.bin .neq 30 (.tmp 28) (.const (Value.int .i64 0))) none]) (.keep [29, 10, 2, 3, 4, 5, 8] c22_5)) (.keep [2, 3, 4, 5, 8] c22_23))
theorem u22_24 (P : Program) (B : Nat) (T0 : List Nat) (r : Sto) (Q : Ex → Fr → Loc → Prop) (a : Fr) (l : Loc) : SW P B T0 r c22_24 Q a l = SW P B T0 r (.seq (.seq (.reg [SO.mk (some 28) (.move (.tmp 10)) none, SO.mk (some 29) (.bin .neq 30 (.tmp 28) (.const (Value.int .i64 0))) none]) (.keep [29, 10, 2, 3, 4, 5, 8] c22_5)) (.keep [2, 3, 4, 5, 8] c22_23)) Q a l := (rfl)
def c22_25 : SC := (.seq (.seq (.reg ((SO.mk (some 18) (.move (.tmp 10)) none) :: (SO.mk (some 19) (.bin .eql 30 (.tmp 18) (.const (Value.int .i64 0))) none) :: (SO.mk (some 20) (.move (.tmp 19)) none) :: (SO.mk (some 21) (.load 23 (.tmp 4)) (some (20 , true))) :: o22_2)) (.keep [27, 10, 2, 3, 4, 5, 8] c22_3)) (.keep [10, 2, 3, 4, 5, 8] c22_24))
theorem u22_25 (P : Program) (B : Nat) (T0 : List Nat) (r : Sto) (Q : Ex → Fr → Loc → Prop) (a : Fr) (l : Loc) : SW P B T0 r c22_25 Q a l = SW P B T0 r (.seq (.seq (.reg ((SO.mk (some 18) (.move (.tmp 10)) none) :: (SO.mk (some 19) (.bin .eql 30 (.tmp 18) (.const (Value.int .i64 0))) none) :: (SO.mk (some 20) (.move (.tmp 19)) none) :: (SO.mk (some 21) (.load 23 (.tmp 4)) (some (20 , true))) :: o22_2)) (.keep [27, 10, 2, 3, 4, 5, 8] c22_3)) (.keep [10, 2, 3, 4, 5, 8] c22_24)) Q a l := (rfl)
def c22_26 : SC := (.seq (.reg [SO.mk (some 15) (.load 23 (.tmp 4)) none, SO.mk (some 16) (.load 28 (.tmp 5)) none, SO.mk (some 17) (.call 35 [(.tmp 15), (.tmp 16)]) none, SO.mk (some 10) (.move (.tmp 17)) none]) (.keep [10, 2, 3, 4, 5, 8] c22_25))
theorem u22_26 (P : Program) (B : Nat) (T0 : List Nat) (r : Sto) (Q : Ex → Fr → Loc → Prop) (a : Fr) (l : Loc) : SW P B T0 r c22_26 Q a l = SW P B T0 r (.seq (.reg [SO.mk (some 15) (.load 23 (.tmp 4)) none, SO.mk (some 16) (.load 28 (.tmp 5)) none, SO.mk (some 17) (.call 35 [(.tmp 15), (.tmp 16)]) none, SO.mk (some 10) (.move (.tmp 17)) none]) (.keep [10, 2, 3, 4, 5, 8] c22_25)) Q a l := (rfl)
def c22 : SC := (.seq (.reg [SO.mk (some 4) (.box 23 (.tmp 0)) none, SO.mk (some 5) (.box 28 (.tmp 1)) none, SO.mk (some 8) (.alloc 28) none, SO.mk (some 9) (.move (.const (Value.int .i64 0))) none]) (.keep [2, 3, 4, 5, 8] c22_26))
theorem c22_eq : annC Try.f22 = some c22 := by kernel_rfl
theorem r22 : Try.f22.results.toList = [.cell 8 28, .tmp 9] := by kernel_rfl
theorem e22 : enters Try.prog 22 = true := by kernel_rfl
/-- icehouse_icehouselaw.HotWrites -/
def o6_1 : List SO := ((SO.mk (some 24) (.extract (.tmp 16) 0) none) :: (SO.mk (some 25) (.extract (.tmp 16) 1) none) :: (SO.mk (some 10) (.alloc 28) none) :: [])
theorem v6_1 (P : Program) (B : Nat) (C : List Nat) (σ0 : Sto) (l0 : Loc) (K : Fr → Loc → Prop) (a : Fr) (l : Loc) : SWD P B C σ0 l0 o6_1 K a l = SWD P B C σ0 l0 ((SO.mk (some 24) (.extract (.tmp 16) 0) none) :: (SO.mk (some 25) (.extract (.tmp 16) 1) none) :: (SO.mk (some 10) (.alloc 28) none) :: []) K a l := (rfl)
def o6_2 : List SO := ((SO.mk (some 21) (.move (.tmp 3)) none) :: (SO.mk (some 22) (.call 15 [(.tmp 21)]) none) :: (SO.mk (some 23) (.call 21 [(.tmp 17), (.tmp 18), (.tmp 20), (.tmp 22)]) none) :: (SO.mk (some 16) (.move (.tmp 23)) none) :: o6_1)
theorem v6_2 (P : Program) (B : Nat) (C : List Nat) (σ0 : Sto) (l0 : Loc) (K : Fr → Loc → Prop) (a : Fr) (l : Loc) : SWD P B C σ0 l0 o6_2 K a l = SWD P B C σ0 l0 ((SO.mk (some 21) (.move (.tmp 3)) none) :: (SO.mk (some 22) (.call 15 [(.tmp 21)]) none) :: (SO.mk (some 23) (.call 21 [(.tmp 17), (.tmp 18), (.tmp 20), (.tmp 22)]) none) :: (SO.mk (some 16) (.move (.tmp 23)) none) :: o6_1) K a l := (rfl)
def o6_3 : List SO := ((SO.mk (some 17) (.load 23 (.tmp 4)) none) :: (SO.mk (some 18) (.load 28 (.tmp 9)) none) :: (SO.mk (some 19) (.move (.tmp 2)) none) :: (SO.mk (some 20) (.call 19 [(.tmp 19)]) none) :: o6_2)
theorem v6_3 (P : Program) (B : Nat) (C : List Nat) (σ0 : Sto) (l0 : Loc) (K : Fr → Loc → Prop) (a : Fr) (l : Loc) : SWD P B C σ0 l0 o6_3 K a l = SWD P B C σ0 l0 ((SO.mk (some 17) (.load 23 (.tmp 4)) none) :: (SO.mk (some 18) (.load 28 (.tmp 9)) none) :: (SO.mk (some 19) (.move (.tmp 2)) none) :: (SO.mk (some 20) (.call 19 [(.tmp 19)]) none) :: o6_2) K a l := (rfl)
theorem m6_3 (B : Nat) : mkNames B o6_3 = [B + 10] := (rfl)
def o6_4 : List SO := ((SO.mk (some 12) (.alloc 28) none) :: (SO.mk none (.store 28 (.tmp 12) (.tmp 32)) none) :: (SO.mk (some 13) (.move (.tmp 33)) none) :: [])
theorem v6_4 (P : Program) (B : Nat) (T0 : List Nat) (r : Sto) (K : Fr → Loc → Prop) (a : Fr) (l : Loc) : SWL P B T0 r o6_4 K a l = SWL P B T0 r ((SO.mk (some 12) (.alloc 28) none) :: (SO.mk none (.store 28 (.tmp 12) (.tmp 32)) none) :: (SO.mk (some 13) (.move (.tmp 33)) none) :: []) K a l := (rfl)
def o6_5 : List SO := ((SO.mk (some 31) (.call 22 [(.tmp 27), (.tmp 28), (.tmp 29), (.tmp 30)]) none) :: (SO.mk (some 26) (.move (.tmp 31)) none) :: (SO.mk (some 32) (.extract (.tmp 26) 0) none) :: (SO.mk (some 33) (.extract (.tmp 26) 1) none) :: o6_4)
theorem v6_5 (P : Program) (B : Nat) (T0 : List Nat) (r : Sto) (K : Fr → Loc → Prop) (a : Fr) (l : Loc) : SWL P B T0 r o6_5 K a l = SWL P B T0 r ((SO.mk (some 31) (.call 22 [(.tmp 27), (.tmp 28), (.tmp 29), (.tmp 30)]) none) :: (SO.mk (some 26) (.move (.tmp 31)) none) :: (SO.mk (some 32) (.extract (.tmp 26) 0) none) :: (SO.mk (some 33) (.extract (.tmp 26) 1) none) :: o6_4) K a l := (rfl)
def o6_6 : List SO := ((SO.mk (some 46) (.pick (.tmp 42) (.tmp 45) (.const (Value.bool false))) none) :: (SO.mk (some 8) (.move (.tmp 46)) none) :: [])
theorem v6_6 (P : Program) (B : Nat) (T0 : List Nat) (r : Sto) (K : Fr → Loc → Prop) (a : Fr) (l : Loc) : SWL P B T0 r o6_6 K a l = SWL P B T0 r ((SO.mk (some 46) (.pick (.tmp 42) (.tmp 45) (.const (Value.bool false))) none) :: (SO.mk (some 8) (.move (.tmp 46)) none) :: []) K a l := (rfl)
def o6_7 : List SO := ((SO.mk (some 42) (.move (.tmp 41)) none) :: (SO.mk (some 43) (.load 28 (.tmp 9)) (some (42 , true))) :: (SO.mk (some 44) (.load 28 (.tmp 5)) (some (42 , true))) :: (SO.mk (some 45) (.call 17 [(.tmp 43), (.tmp 44)]) (some (42 , true))) :: o6_6)
theorem v6_7 (P : Program) (B : Nat) (T0 : List Nat) (r : Sto) (K : Fr → Loc → Prop) (a : Fr) (l : Loc) : SWL P B T0 r o6_7 K a l = SWL P B T0 r ((SO.mk (some 42) (.move (.tmp 41)) none) :: (SO.mk (some 43) (.load 28 (.tmp 9)) (some (42 , true))) :: (SO.mk (some 44) (.load 28 (.tmp 5)) (some (42 , true))) :: (SO.mk (some 45) (.call 17 [(.tmp 43), (.tmp 44)]) (some (42 , true))) :: o6_6) K a l := (rfl)
def o6_8 : List SO := ((SO.mk (some 38) (.load 28 (.tmp 10)) (some (37 , true))) :: (SO.mk (some 39) (.load 28 (.tmp 12)) (some (37 , true))) :: (SO.mk (some 40) (.call 17 [(.tmp 38), (.tmp 39)]) (some (37 , true))) :: (SO.mk (some 41) (.pick (.tmp 37) (.tmp 40) (.const (Value.bool false))) none) :: o6_7)
theorem v6_8 (P : Program) (B : Nat) (T0 : List Nat) (r : Sto) (K : Fr → Loc → Prop) (a : Fr) (l : Loc) : SWL P B T0 r o6_8 K a l = SWL P B T0 r ((SO.mk (some 38) (.load 28 (.tmp 10)) (some (37 , true))) :: (SO.mk (some 39) (.load 28 (.tmp 12)) (some (37 , true))) :: (SO.mk (some 40) (.call 17 [(.tmp 38), (.tmp 39)]) (some (37 , true))) :: (SO.mk (some 41) (.pick (.tmp 37) (.tmp 40) (.const (Value.bool false))) none) :: o6_7) K a l := (rfl)
def c6_9 : SC := (.seq (.reg ((SO.mk (some 34) (.move (.tmp 11)) none) :: (SO.mk (some 35) (.move (.tmp 13)) none) :: (SO.mk (some 36) (.bin .eql 30 (.tmp 34) (.tmp 35)) none) :: (SO.mk (some 37) (.move (.tmp 36)) none) :: o6_8)) (.keep [8] .ret))
theorem u6_9 (P : Program) (B : Nat) (T0 : List Nat) (r : Sto) (Q : Ex → Fr → Loc → Prop) (a : Fr) (l : Loc) : SW P B T0 r c6_9 Q a l = SW P B T0 r (.seq (.reg ((SO.mk (some 34) (.move (.tmp 11)) none) :: (SO.mk (some 35) (.move (.tmp 13)) none) :: (SO.mk (some 36) (.bin .eql 30 (.tmp 34) (.tmp 35)) none) :: (SO.mk (some 37) (.move (.tmp 36)) none) :: o6_8)) (.keep [8] .ret)) Q a l := (rfl)
def c6_10 : SC := (.seq (.reg ((SO.mk (some 27) (.load 23 (.tmp 4)) none) :: (SO.mk (some 28) (.load 28 (.tmp 5)) none) :: (SO.mk (some 29) (.move (.tmp 2)) none) :: (SO.mk (some 30) (.move (.tmp 3)) none) :: o6_5)) (.keep [11, 13, 10, 12, 9, 5] c6_9))
theorem u6_10 (P : Program) (B : Nat) (T0 : List Nat) (r : Sto) (Q : Ex → Fr → Loc → Prop) (a : Fr) (l : Loc) : SW P B T0 r c6_10 Q a l = SW P B T0 r (.seq (.reg ((SO.mk (some 27) (.load 23 (.tmp 4)) none) :: (SO.mk (some 28) (.load 28 (.tmp 5)) none) :: (SO.mk (some 29) (.move (.tmp 2)) none) :: (SO.mk (some 30) (.move (.tmp 3)) none) :: o6_5)) (.keep [11, 13, 10, 12, 9, 5] c6_9)) Q a l := (rfl)
def c6_11 : SC := (.seq (.dreg false o6_3 [SO.mk none (.store 28 (.tmp 10) (.tmp 24)) none, SO.mk (some 11) (.move (.tmp 25)) none]) (.keep [4, 2, 3, 11, 10, 9, 5] c6_10))
theorem u6_11 (P : Program) (B : Nat) (T0 : List Nat) (r : Sto) (Q : Ex → Fr → Loc → Prop) (a : Fr) (l : Loc) : SW P B T0 r c6_11 Q a l = SW P B T0 r (.seq (.dreg false o6_3 [SO.mk none (.store 28 (.tmp 10) (.tmp 24)) none, SO.mk (some 11) (.move (.tmp 25)) none]) (.keep [4, 2, 3, 11, 10, 9, 5] c6_10)) Q a l := (rfl)
def c6_12 : SC := (.seq (.reg [SO.mk (some 14) (.load 28 (.tmp 5)) none, SO.mk (some 15) (.call 13 [(.tmp 14)]) none, SO.mk (some 9) (.alloc 28) none, SO.mk none (.store 28 (.tmp 9) (.tmp 15)) none]) (.keep [4, 2, 3, 9, 5] c6_11))
theorem u6_12 (P : Program) (B : Nat) (T0 : List Nat) (r : Sto) (Q : Ex → Fr → Loc → Prop) (a : Fr) (l : Loc) : SW P B T0 r c6_12 Q a l = SW P B T0 r (.seq (.reg [SO.mk (some 14) (.load 28 (.tmp 5)) none, SO.mk (some 15) (.call 13 [(.tmp 14)]) none, SO.mk (some 9) (.alloc 28) none, SO.mk none (.store 28 (.tmp 9) (.tmp 15)) none]) (.keep [4, 2, 3, 9, 5] c6_11)) Q a l := (rfl)
def c6 : SC := (.seq (.reg [SO.mk (some 4) (.box 23 (.tmp 0)) none, SO.mk (some 5) (.box 28 (.tmp 1)) none, SO.mk (some 8) (.move (.const (Value.bool false))) none]) (.keep [4, 2, 3, 5] c6_12))
theorem c6_eq : annC Try.f6 = some c6 := by kernel_rfl
theorem r6 : Try.f6.results.toList = [.tmp 8] := by kernel_rfl
theorem e6 : enters Try.prog 6 = true := by kernel_rfl
end Go.Proofs.Ytkcfnhfbdcnhjaa
namespace Go.Proofs.Ytkcfnhfbdcnhjaa
open Go.RowKit
set_option maxHeartbeats 4000000
set_option maxRecDepth 20000
attribute [local irreducible] SW SWL SWLn SWD SEcall SEcallv SDv SE SO1 SOg ACalls ACallv Wk EndV
set_option linter.unusedSimpArgs false
set_option linter.unusedVariables false
def at2 (g : GeoD) (x : Int) : Int := IntKind.i64.wrap (IntKind.i64.wrap (IntKind.i64.wrap (IntKind.i64.wrap (2 + g.ring) + g.area) + g.area) + x)
def wtK (g : GeoD) (l : List Int) (b : List UInt8) (k : Nat) : List TodD := (List.range k).map fun i => ⟨false, at2 g l[i]!, chB b i⟩
def wtE (g : GeoD) (l : List Int) (b : List UInt8) (k : Nat) : List TodD := wtK g l b k ++ [⟨true, 0, []⟩]
def wtA (g : GeoD) (l : List Int) (b : List UInt8) : List TodD := wtE g l b l.length
theorem wtE_take (g : GeoD) (l : List Int) (b : List UInt8) (k : Nat) : List.take ((wtK g l b k).length + 1) ((wtE g l b k).map TodD.row) = (wtE g l b k).map TodD.row := List.take_of_length_le (by simp [wtE])
theorem wtE_len (g : GeoD) (l : List Int) (b : List UInt8) (k : Nat) : ((wtK g l b k).length + 1 ≤ ((wtE g l b k).map TodD.row).length) = True := eq_true (by simp [wtE])
theorem wtE_len2 (g : GeoD) (l : List Int) (b : List UInt8) (k : Nat) : ((wtK g l b k).length + 1 ≤ (wtE g l b k).length) = True := eq_true (by simp [wtE])
theorem endR_2 (s : DevD × Int) : (endR s).2 = s.2 := by
  unfold endR
  cases s.2 == 0 || s.2 == 10 <;> rfl
theorem wtE_rows (g : GeoD) (l : List Int) (b : List UInt8) (k : Nat) : (wtK g l b k).map TodD.row ++ [[RV.v (.bool true), RV.v (.int .i64 0), RV.ro []]] = (wtE g l b k).map TodD.row := by rw [wtE, List.map_append]; rfl
theorem wtK_len (g : GeoD) (l : List Int) (b : List UInt8) (k : Nat) : (wtK g l b k).length = k := by simp [wtK]
theorem wtK_next (g : GeoD) (l : List Int) (b : List UInt8) (k : Nat) : wtK g l b (k + 1) = wtK g l b k ++ [⟨false, at2 g l[k]!, chB b k⟩] := by simp [wtK, List.range_succ]
theorem wtK0 (g : GeoD) (l : List Int) (b : List UInt8) : wtK g l b 0 = [] := rfl
theorem wtK_at {g : GeoD} {l : List Int} {b : List UInt8} {k n : Nat} (h : k < n) : (wtK g l b n)[k]! = ⟨false, at2 g l[k]!, chB b k⟩ := by simp [wtK, h]
theorem wtK_take {g : GeoD} {l : List Int} {b : List UInt8} {k n : Nat} (h : k ≤ n) : (wtK g l b n).take k = wtK g l b k := by
  simp only [wtK, ← List.map_take, List.take_range, Nat.min_eq_left h]
theorem at_eq {g : GeoD} (h : geoOk g = true) (x : Int) : at2 g x = wrAt g x := by
  simp only [geoOk, inR, Bool.and_eq_true, decide_eq_true_eq] at h
  unfold at2 wrAt firstV
  have e : IntKind.i64.wrap (IntKind.i64.wrap (IntKind.i64.wrap (2 + g.ring) + g.area) + g.area) = IntKind.i64.wrap (IntKind.i64.wrap (2 + g.ring) + IntKind.i64.wrap (2 * g.area)) := by
    rw [IntWalk.i64_in (2 + g.ring) (by omega), IntWalk.i64_in (2 + g.ring + g.area) (by omega), IntWalk.i64_in (2 * g.area) (by omega)]
    congr 1; omega
  rw [e]
theorem geo_of_devF {g : GeoD} {d : DevD} (h : devF g d = 0) : geoOk g = true := by
  unfold devF at h
  cases hg : geoOk g with
  | true => rfl
  | false => rw [hg] at h; simp at h
theorem hot_w {g : GeoD} {d : DevD} (h : devF g d = 0) : IntKind.i64.wrap (g.hot - 1) = g.hot - 1 := by
  have := geo_of_devF h
  simp only [geoOk, inR, Bool.and_eq_true, decide_eq_true_eq] at this
  exact IntWalk.i64_in _ (by omega)
/-- what the program writes, and what the reference does -/
theorem wr_run {g : GeoD} {d : DevD} {l : List Int} {b : List UInt8} (hg : geoOk g = true) : ∀ k, k ≤ l.length → wrS g d l b k = endR (runF g d (wtK g l b k))
  | 0, _ => rfl
  | k + 1, hk => by
    have ih := wr_run (d := d) (l := l) (b := b) hg k (by omega)
    have hr : runF g d (wtK g l b (k + 1)) = stepF g (runF g d (wtK g l b k)) ⟨false, at2 g l[k]!, chB b k⟩ := by
      rw [wtK_next]; unfold runF; rw [List.foldl_append]; rfl
    rw [hr]
    simp only [wrS]
    rw [ih]
    generalize runF g d (wtK g l b k) = s
    obtain ⟨x, e⟩ := s
    rw [← at_eq hg]
    unfold endR stepF stepE stepD
    by_cases he : e = 0
    · subst he
      simp only [beq_self_eq_true, Bool.true_or, cond_true, bne_self_eq_false, cond_false]
      cases h0 : putE g x (at2 g l[k]!) (chB b k) == 0
      · simp only [cond_false]
        cases h1 : putE g x (at2 g l[k]!) (chB b k) == 10
        · simp only [h0, Bool.or_self, cond_false]
        · have h10 : putE g x (at2 g l[k]!) (chB b k) = 10 := by simpa using h1
          simp only [h0, h1, Bool.or_true, cond_true, Bool.false_or]
          rw [h10]
      · simp
    · have h1 : (e == 0) = false := by simpa using he
      have h2 : (e != 0) = true := by simpa using he
      cases h3 : e == 10
      · simp [h1, h2, h3, he]
      · have : e = 10 := by simpa using h3
        subst this
        rfl
theorem wr_all {g : GeoD} {d : DevD} {l : List Int} {b : List UInt8} (h1 : devF g d = 0) (hr : roomV g l b.length = true) : wrR g d l b = endR (runF g d (wtA g l b)) := by
  have hg := geo_of_devF h1
  have e : runF g d (wtA g l b) = stepF g (runF g d (wtK g l b l.length)) ⟨true, 0, []⟩ := by
    unfold wtA wtE runF; rw [List.foldl_append]; rfl
  rw [e]
  unfold wrR
  rw [wr_run hg _ (Nat.le_refl _), h1, hr]
  generalize runF g d (wtK g l b l.length) = s
  obtain ⟨x, e⟩ := s
  unfold endR stepF stepE stepD
  by_cases he : e = 0
  · subst he
    simp only [beq_self_eq_true, Bool.true_or, cond_true, bne_self_eq_false, cond_false, Bool.not_true]
    cases h0 : spendE g x == 0
    · simp only [cond_false]
      cases h1 : spendE g x == 10
      · simp only [h0, Bool.or_self, cond_false]
        simp only [flushD, h0, cond_false]
      · have : spendE g x = 10 := by simpa using h1
        simp [this]
    · have : spendE g x = 0 := by simpa using h0
      simp [this]
  · have h1 : (e == 0) = false := by simpa using he
    have h2 : (e != 0) = true := by simpa using he
    cases h3 : e == 10
    · simp [h1, h2, h3, he]
    · have : e = 10 := by simpa using h3
      subst this
      rfl
theorem wroteOf_p (g : GeoD) (d : DevD) (l : List Int) (b : List UInt8) (hwf : d.fit) : Pure Try.prog 22 [g.av, d.av, .d (ints l), .d (bytes b)] (.tup [(wrR g d l b).1.av, I (wrR g d l b).2]) := by
  refine pureY_of follows Try.func22 c22_eq r22 (Nat.le_of_ble_eq_true rfl) fun B σ hcl hsz => ?_
  clear hsz
  rcases devE_or g d with h1 | ⟨h1, h1'⟩
  all_goals (try (have hh := hot_w h1))
  all_goals (cases hr : roomV g l b.length)
  all_goals (try (
    have hb := (room_len hr).1
    have hl := (room_len hr).2
    have hl2 : l.length ≤ 10 := by omega))
  repeat' (first | (simp -implicitDefEqProofs only [*, contN, contC, Nat.reduceBEq, Bool.or_false, Bool.or_true, Bool.false_or, Bool.true_or, Bool.not_true, Bool.not_false, w_skip, w_ret, w_exit, w_reg, w_dreg, w_seq, SK_n, SK_r, SK_x, w_keep, w_block, w_cond, w_nil, w_cons, w_consg, w_nnil, w_ncons, w_dnil, w_dcons, w_dconsg, HK_app, HD_app, HQ_n, HQ_r, HQ_x, HQ_bn, HQ_br, HQ_bx, HQ_en, HQ_er, HQ_ex, CondB_true, CondB_false, SO1, w_sdv, SDe_alloc, SDe_box, SDe_bslice, SDe_app, true_imp_iff, false_imp_iff, and_false, false_and, not_false_eq_true, not_true_eq_false, addN, mkNames, killT, killD, killO, List.foldl_nil, List.foldl_cons, List.append_nil, List.nil_append, List.cons_append, GuardS_true, GuardS_false, GuardD_true, GuardD_false, DK_true, DK_false, lt_self_add, le_self_add, decide_true, decide_false, Bool.false_eq_true, Bool.true_eq_false, Nat.add_left_cancel_iff, SE, SEalloc, SEbox, SEstore, w_bs, SEbl, SEfz, SEbs0, fzName, osOf, AV.fz1, w_app, w_mk, aev, opd, Fr.get, putO, Fr.norm, List.map_cons, List.map_nil, with1, with2, onInt, AV.lit, entry, ↓reduceIte, Nat.reduceEqDiff, Nat.reduceAdd, reduceCtorEq, true_and, and_true, Option.map_some, Option.map_none, Option.bind_some, Option.bind_none, cond_true, cond_false, binV, unV, fieldV, loadV, sto, cellsAV, newF, newL, Fr.map, Loc.kill, Loc.set, AO.kill, AV.kill, AV.mapN, AV.mapNL, List.filter_nil, List.filter_cons, allP, EndV, retV, resV, resL, frz, dropL, AV.pick, nilV, tupV, imp_self, ne_eq, Int.cast_ofNat_Int, Int.reduceLT, Int.reduceToNat, List.getD_cons_zero, List.getD_cons_succ, bsliceV, buildV, afill, repl, chunk, rvs, AV.rv, RV.nrm, List.getElem?_nil, List.append_assoc, Nat.reduceMul, Nat.reducePow, Nat.zero_lt_succ, Nat.zero_add, Nat.add_zero, List.length_cons, List.length_nil, Nat.reduceLeDiff, Nat.le_refl, List.take_succ_cons, List.take_zero, List.drop_succ_cons, List.drop_zero, indexV, lenV, rowOf_mapD, rowOf_mapI, rowOf_mapA, List.length_map, Int.toNat_natCast, List.getElem?_cons_zero, List.getElem?_cons_succ, and_self, implies_true, if_true, if_false, HQ_zn, HQ_zr, HQ_wn, HQ_wr, AV.nz, AV.nzL, RV.nrm, SEbin, SEnil, nilK, srcV, dstV, appName, List.length_append, Nat.mul_one, take_map_len, take_map_app, List.getElem?_cons_zero, List.map_append, c22, r22, v22_1, v22_2, u22_3, u22_4, u22_5, u22_6, v22_7, v22_8, v22_9, v22_10, v22_11, m22_11, u22_12, u22_13, u22_14, u22_15, v22_16, v22_17, v22_18, u22_19, u22_20, u22_21, u22_22, u22_23, u22_24, u22_25, u22_26, ty23, ty28, ty30, ty29, ty40, ty3, ty74, ty71, ty47, ty5, GeoD.av, GeoD.cells, DevD.av, DevD.cells, ints, int_, bytes, HQ_yn, HQ_yr, Loc.nz, AO.nz, bne_self_eq_false, wtK0, doneV, JrnD.av, JrnD.cells]) | (with_reducible refine And.intro ?_ ?_) | (refine call_ro e35 ( devFault_p g d) rfl ?_ ?_ ?_ ?_) | (refine gcall_ro e35 ( devFault_p g d) rfl ?_ ?_ ?_ ?_) | (refine dcall_ro e35 ( devFault_p g d) rfl ?_ ?_ ?_ ?_) | (refine gdcall_ro rfl e35 ( devFault_p g d) rfl ?_ ?_ ?_ ?_) | (refine call_ro e44 ( roomMay_p g l b.length hh) rfl ?_ ?_ ?_ ?_) | (refine gcall_ro e44 ( roomMay_p g l b.length hh) rfl ?_ ?_ ?_ ?_) | (refine dcall_ro e44 ( roomMay_p g l b.length hh) rfl ?_ ?_ ?_ ?_) | (refine gdcall_ro rfl e44 ( roomMay_p g l b.length hh) rfl ?_ ?_ ?_ ?_) | (refine call_ro e47 ( chunk_p b k (by omega) (by omega)) rfl ?_ ?_ ?_ ?_) | (refine gcall_ro e47 ( chunk_p b k (by omega) (by omega)) rfl ?_ ?_ ?_ ?_) | (refine dcall_ro e47 ( chunk_p b k (by omega) (by omega)) rfl ?_ ?_ ?_ ?_) | (refine gdcall_ro rfl e47 ( chunk_p b k (by omega) (by omega)) rfl ?_ ?_ ?_ ?_) | (refine call_fz (m := B + 58) (k := 3) (E := 74) (rows := (wtE g l b k).map TodD.row) hcl (by omega) (by simp [sto, ← wtE_rows]) e48 (done_p g d (wtE g l b k) nilJ hwf) (by simp only [List.map_cons, List.map_nil, opd, Fr.get, Fr.map, AV.fz1, AV.mapN, AV.mapNL, ↓reduceIte, Nat.reduceEqDiff, wtE_len, wtE_take, GeoD.av, DevD.av, JrnD.av, JrnD.cells, nilJ]) ?_ ?_ ?_ ?_) | (refine loop_nat (l.length) (fun _ => True) (fun k => [(2, .d (ints l)), (3, .d (bytes b)), (12, I k), (11, .os (B + 58) (wtK g l b k).length), (4, .lp (B + 4) 0), (5, .lp (B + 5) 0), (8, .lp (B + 8) 0)]) (fun k => [(B + 58, .arr 3 74 ((wtK g l b k).map TodD.row)), (B + 4, .box g.cells), (B + 5, .box d.cells), (B + 8, .box [.d (.v (.slice none 0 0)), .d (.v (.slice none 0 0)), .d (.v (.slice none 0 0)), I 0])]) ?_ (Wk.trans (Wk.nameF (s := 11) (n := B + 58) (k := 3) (E := 74) rfl (by omega) (.inl (by omega)) (fun m => AO.kill_below (q := fun m => decide (m < B)) (by simp) _ (hcl m).1)) (Wk.keep hcl ?_ ?_ ?_)) fun k hk hF => ?_; rotate_left 1; (focus (simp [Fr.get, newF, Fr.map, AV.kill, AV.mapN, GeoD.av, GeoD.cells, DevD.av, DevD.cells, ints, int_, bytes, HQ_yn, HQ_yr, Loc.nz, AO.nz, bne_self_eq_false, wtK0, doneV, JrnD.av, JrnD.cells] <;> fail)); (focus (simp [sto, newL, Loc.kill, Loc.set, AO.kill, AV.kill, AV.mapN, GeoD.av, GeoD.cells, DevD.av, DevD.cells, ints, int_, bytes, HQ_yn, HQ_yr, Loc.nz, AO.nz, bne_self_eq_false, wtK0, doneV, JrnD.av, JrnD.cells] <;> fail)); (focus (simp [newL, Loc.kill, Loc.set, GeoD.av, GeoD.cells, DevD.av, DevD.cells, ints, int_, bytes, HQ_yn, HQ_yr, Loc.nz, AO.nz, bne_self_eq_false, wtK0, doneV, JrnD.av, JrnD.cells] <;> fail)); (try have hw : IntKind.i64.wrap ((k : Int) + 1) = (k : Int) + 1 := IntWalk.i64_in _ (by omega))) | (refine EndX.plain ?_) | (refine nil_split (fun hn => ?_) (fun hn => ?_)) | (refine gcall_no not_false ?_) | (refine gdcall_no not_false ?_) | (refine GuardS_of _ _ _ _ _ _ (fun hg => ?_) (fun hg => ?_)) | (refine GuardD_of _ _ _ _ (fun hg => ?_) (fun hg => ?_)) | (refine CondB_of _ _ _ _ _ _ _ ?_ (fun hg => ?_) (fun hg => ?_)))
  all_goals (try (first | ((first | unfold noN | unfold Fr.below | unfold Loc.below); simp [Fr.allN, AV.allN, AV.allNL, AO.allN]; done) | rfl | trivial | assumption | (intro row hrow; simp only [List.mem_map] at hrow; obtain ⟨x, _, rfl⟩ := hrow; rfl) | (refine Wk.keep hcl ?_ ?_ ?_; (focus (simp [Fr.get, GeoD.av, GeoD.cells, DevD.av, DevD.cells, ints, int_, bytes, HQ_yn, HQ_yr, Loc.nz, AO.nz, bne_self_eq_false, wtK0, doneV, JrnD.av, JrnD.cells] <;> fail)); (focus (simp [sto, GeoD.av, GeoD.cells, DevD.av, DevD.cells, ints, int_, bytes, HQ_yn, HQ_yr, Loc.nz, AO.nz, bne_self_eq_false, wtK0, doneV, JrnD.av, JrnD.cells] <;> fail)); (focus (simp <;> fail))) | (simp [allP, opd, Fr.get, Fr.below, Fr.allN, AV.allN, AV.allNL, Loc.below, AO.allN, noN, killO, killT, killD, mkNames, AO.kill, AV.kill, AV.mapN, AV.mapNL]; done) | (with_reducible exact ltD (by assumption)) | omega | (simp only [decide_eq_true_eq, decide_eq_false_iff_not] at *; omega)))
  all_goals first
    | (simp [avName, loadNames, opd, Fr.get]; done)
    | (rw [wtK_len]; omega)
    | (simp [wtE_len2]; done)
    | (simp [Fr.below, Fr.allN, AV.allN, AV.allNL, wtE_len2]; done)
    | (rw [show wrR g d l b = (nilD, 2) from by simp only [wrR, h1, hr, bne_self_eq_false, Bool.false_or, Bool.true_or, Bool.or_true, Bool.or_false, Bool.and_true, Bool.true_and, Bool.false_and, Bool.and_false, Bool.not_true, Bool.not_false, cond_true, cond_false]]; rfl)
    | (rw [show wrR g d l b = (nilD, devF g d) from by simp only [wrR, h1', Bool.false_or, Bool.true_or, Bool.or_true, Bool.or_false, Bool.and_true, Bool.true_and, Bool.false_and, Bool.and_false, Bool.not_true, Bool.not_false, cond_true, cond_false]]; rfl)
    | (rw [wtK_next]
       refine Wk.keep hcl (by simp [Fr.get]) (by simp [sto, TodD.row, bytes, at2]) (by simp))
    | (have hk2 : k = l.length := by simp at hg; omega
       subst hk2
       rw [wr_all h1 hr, endR_2]; rfl)
theorem hotWrites_p (g : GeoD) (d : DevD) (l : List Int) (b : List UInt8) (hwf : d.fit) (hl : l.length * 8 ≤ 2 ^ 47) : Pure Try.prog 6 [g.av, d.av, .d (ints l), .d (bytes b)] (Bo true) := by
  refine pure_of follows Try.func6 c6_eq r6 (Nat.le_of_ble_eq_true rfl) fun B σ hcl hsz => ?_
  clear hsz
  repeat' (first | (simp -implicitDefEqProofs only [*, contN, contC, Nat.reduceBEq, Bool.or_false, Bool.or_true, Bool.false_or, Bool.true_or, Bool.not_true, Bool.not_false, w_skip, w_ret, w_exit, w_reg, w_dreg, w_seq, SK_n, SK_r, SK_x, w_keep, w_block, w_cond, w_nil, w_cons, w_consg, w_nnil, w_ncons, w_dnil, w_dcons, w_dconsg, HK_app, HD_app, HQ_n, HQ_r, HQ_x, HQ_bn, HQ_br, HQ_bx, HQ_en, HQ_er, HQ_ex, CondB_true, CondB_false, SO1, w_sdv, SDe_alloc, SDe_box, SDe_bslice, SDe_app, true_imp_iff, false_imp_iff, and_false, false_and, not_false_eq_true, not_true_eq_false, addN, mkNames, killT, killD, killO, List.foldl_nil, List.foldl_cons, List.append_nil, List.nil_append, List.cons_append, GuardS_true, GuardS_false, GuardD_true, GuardD_false, DK_true, DK_false, lt_self_add, le_self_add, decide_true, decide_false, Bool.false_eq_true, Bool.true_eq_false, Nat.add_left_cancel_iff, SE, SEalloc, SEbox, SEstore, w_bs, SEbl, SEfz, SEbs0, fzName, osOf, AV.fz1, w_app, w_mk, aev, opd, Fr.get, putO, Fr.norm, List.map_cons, List.map_nil, with1, with2, onInt, AV.lit, entry, ↓reduceIte, Nat.reduceEqDiff, Nat.reduceAdd, reduceCtorEq, true_and, and_true, Option.map_some, Option.map_none, Option.bind_some, Option.bind_none, cond_true, cond_false, binV, unV, fieldV, loadV, sto, cellsAV, newF, newL, Fr.map, Loc.kill, Loc.set, AO.kill, AV.kill, AV.mapN, AV.mapNL, List.filter_nil, List.filter_cons, allP, EndV, retV, resV, resL, frz, dropL, AV.pick, nilV, tupV, imp_self, ne_eq, Int.cast_ofNat_Int, Int.reduceLT, Int.reduceToNat, List.getD_cons_zero, List.getD_cons_succ, bsliceV, buildV, afill, repl, chunk, rvs, AV.rv, RV.nrm, List.getElem?_nil, List.append_assoc, Nat.reduceMul, Nat.reducePow, Nat.zero_lt_succ, Nat.zero_add, Nat.add_zero, List.length_cons, List.length_nil, Nat.reduceLeDiff, Nat.le_refl, List.take_succ_cons, List.take_zero, List.drop_succ_cons, List.drop_zero, indexV, lenV, rowOf_mapD, rowOf_mapI, rowOf_mapA, List.length_map, Int.toNat_natCast, List.getElem?_cons_zero, List.getElem?_cons_succ, and_self, implies_true, if_true, if_false, HQ_zn, HQ_zr, HQ_wn, HQ_wr, AV.nz, AV.nzL, RV.nrm, SEbin, SEnil, nilK, srcV, dstV, appName, List.length_append, Nat.mul_one, take_map_len, take_map_app, List.getElem?_cons_zero, List.map_append, c6, r6, v6_1, v6_2, v6_3, m6_3, v6_4, v6_5, v6_6, v6_7, v6_8, u6_9, u6_10, u6_11, u6_12, ty23, ty28, ty30, GeoD.av, DevD.av, bytes, ints, bne_self_eq_false, beq_self_eq_true]) | (with_reducible refine And.intro ?_ ?_) | (refine call_ro e13 ( devCopy_p d hwf) rfl ?_ ?_ ?_ ?_) | (refine gcall_ro e13 ( devCopy_p d hwf) rfl ?_ ?_ ?_ ?_) | (refine dcall_ro e13 ( devCopy_p d hwf) rfl ?_ ?_ ?_ ?_) | (refine gdcall_ro rfl e13 ( devCopy_p d hwf) rfl ?_ ?_ ?_ ?_) | (refine call_ro e19 ( intsC_p l hl) rfl ?_ ?_ ?_ ?_) | (refine gcall_ro e19 ( intsC_p l hl) rfl ?_ ?_ ?_ ?_) | (refine dcall_ro e19 ( intsC_p l hl) rfl ?_ ?_ ?_ ?_) | (refine gdcall_ro rfl e19 ( intsC_p l hl) rfl ?_ ?_ ?_ ?_) | (refine call_ro e15 ( octets_p b) rfl ?_ ?_ ?_ ?_) | (refine gcall_ro e15 ( octets_p b) rfl ?_ ?_ ?_ ?_) | (refine dcall_ro e15 ( octets_p b) rfl ?_ ?_ ?_ ?_) | (refine gdcall_ro rfl e15 ( octets_p b) rfl ?_ ?_ ?_ ?_) | (refine call_ro e21 ( write_p g d l b hwf) rfl ?_ ?_ ?_ ?_) | (refine gcall_ro e21 ( write_p g d l b hwf) rfl ?_ ?_ ?_ ?_) | (refine dcall_ro e21 ( write_p g d l b hwf) rfl ?_ ?_ ?_ ?_) | (refine gdcall_ro rfl e21 ( write_p g d l b hwf) rfl ?_ ?_ ?_ ?_) | (refine call_ro e22 ( wroteOf_p g d l b hwf) rfl ?_ ?_ ?_ ?_) | (refine gcall_ro e22 ( wroteOf_p g d l b hwf) rfl ?_ ?_ ?_ ?_) | (refine dcall_ro e22 ( wroteOf_p g d l b hwf) rfl ?_ ?_ ?_ ?_) | (refine gdcall_ro rfl e22 ( wroteOf_p g d l b hwf) rfl ?_ ?_ ?_ ?_) | (refine call_ro e17 ( sameDev_self (wrR g d l b).1) rfl ?_ ?_ ?_ ?_) | (refine gcall_ro e17 ( sameDev_self (wrR g d l b).1) rfl ?_ ?_ ?_ ?_) | (refine dcall_ro e17 ( sameDev_self (wrR g d l b).1) rfl ?_ ?_ ?_ ?_) | (refine gdcall_ro rfl e17 ( sameDev_self (wrR g d l b).1) rfl ?_ ?_ ?_ ?_) | (refine call_ro e17 ( sameDev_self d) rfl ?_ ?_ ?_ ?_) | (refine gcall_ro e17 ( sameDev_self d) rfl ?_ ?_ ?_ ?_) | (refine dcall_ro e17 ( sameDev_self d) rfl ?_ ?_ ?_ ?_) | (refine gdcall_ro rfl e17 ( sameDev_self d) rfl ?_ ?_ ?_ ?_) | (refine EndX.plain ?_) | (refine nil_split (fun hn => ?_) (fun hn => ?_)) | (refine gcall_no not_false ?_) | (refine gdcall_no not_false ?_) | (refine GuardS_of _ _ _ _ _ _ (fun hg => ?_) (fun hg => ?_)) | (refine GuardD_of _ _ _ _ (fun hg => ?_) (fun hg => ?_)) | (refine CondB_of _ _ _ _ _ _ _ ?_ (fun hg => ?_) (fun hg => ?_)))
  all_goals (try (first | ((first | unfold noN | unfold Fr.below | unfold Loc.below); simp [Fr.allN, AV.allN, AV.allNL, AO.allN]; done) | rfl | trivial | assumption | (intro row hrow; simp only [List.mem_map] at hrow; obtain ⟨x, _, rfl⟩ := hrow; rfl) | (refine Wk.keep hcl ?_ ?_ ?_; (focus (simp [Fr.get, GeoD.av, DevD.av, bytes, ints, bne_self_eq_false, beq_self_eq_true] <;> fail)); (focus (simp [sto, GeoD.av, DevD.av, bytes, ints, bne_self_eq_false, beq_self_eq_true] <;> fail)); (focus (simp <;> fail))) | (simp [allP, opd, Fr.get, Fr.below, Fr.allN, AV.allN, AV.allNL, Loc.below, AO.allN, noN, killO, killT, killD, mkNames, AO.kill, AV.kill, AV.mapN, AV.mapNL]; done) | (with_reducible exact ltD (by assumption)) | omega | (simp only [decide_eq_true_eq, decide_eq_false_iff_not] at *; omega)))
end Go.Proofs.Ytkcfnhfbdcnhjaa
