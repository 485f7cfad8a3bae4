/- The code of functions, without its places in the text. -/
import Derived.Test.YtkcfnhfbdcnhjaaTypes
namespace Go.Proofs.Ytkcfnhfbdcnhjaa
open Go.RowKit
set_option maxRecDepth 100000
/-- slices.Clone___byte_byte_ -/
def c34_1 : SC := (.seq (.reg [SO.mk (some 2) (.move (.const (Value.slice none 0 0))) none]) (.keep [2] .ret))
theorem u34_1 (P : Program) (B : Nat) (T0 : List Nat) (r : Sto) (Q : Ex → Fr → Loc → Prop) (a : Fr) (l : Loc) : SW P B T0 r c34_1 Q a l = SW P B T0 r (.seq (.reg [SO.mk (some 2) (.move (.const (Value.slice none 0 0))) none]) (.keep [2] .ret)) Q a l := (rfl)
def c34_2 : SC := (.cond (.tmp 4) c34_1 .skip)
theorem u34_2 (P : Program) (B : Nat) (T0 : List Nat) (r : Sto) (Q : Ex → Fr → Loc → Prop) (a : Fr) (l : Loc) : SW P B T0 r c34_2 Q a l = SW P B T0 r (.cond (.tmp 4) c34_1 .skip) Q a l := (rfl)
def c34_3 : SC := (.seq (.reg [SO.mk (some 5) (.bslice 29 0 []) none, SO.mk (some 6) (.move (.tmp 0)) none, SO.mk (some 7) (.app 29 29 (.tmp 5) (.tmp 6)) none, SO.mk (some 2) (.move (.tmp 7)) none]) (.keep [2] .ret))
theorem u34_3 (P : Program) (B : Nat) (T0 : List Nat) (r : Sto) (Q : Ex → Fr → Loc → Prop) (a : Fr) (l : Loc) : SW P B T0 r c34_3 Q a l = SW P B T0 r (.seq (.reg [SO.mk (some 5) (.bslice 29 0 []) none, SO.mk (some 6) (.move (.tmp 0)) none, SO.mk (some 7) (.app 29 29 (.tmp 5) (.tmp 6)) none, SO.mk (some 2) (.move (.tmp 7)) none]) (.keep [2] .ret)) Q a l := (rfl)
def c34_4 : SC := (.seq (.seq (.reg [SO.mk (some 3) (.move (.tmp 0)) none, SO.mk (some 4) (.bin .eql 29 (.tmp 3) (.const (Value.slice none 0 0))) none]) (.keep [4, 0] c34_2)) (.keep [0] c34_3))
theorem u34_4 (P : Program) (B : Nat) (T0 : List Nat) (r : Sto) (Q : Ex → Fr → Loc → Prop) (a : Fr) (l : Loc) : SW P B T0 r c34_4 Q a l = SW P B T0 r (.seq (.seq (.reg [SO.mk (some 3) (.move (.tmp 0)) none, SO.mk (some 4) (.bin .eql 29 (.tmp 3) (.const (Value.slice none 0 0))) none]) (.keep [4, 0] c34_2)) (.keep [0] c34_3)) Q a l := (rfl)
def c34 : SC := (.seq (.reg [SO.mk (some 2) (.move (.const (Value.slice none 0 0))) none]) (.keep [0] c34_4))
theorem c34_eq : annC Try.f34 = some c34 := by kernel_rfl
theorem r34 : Try.f34.results.toList = [.tmp 2] := by kernel_rfl
theorem e34 : enters Try.prog 34 = true := by kernel_rfl
/-- icehouse_icehouseref.joined -/
def c37_1 : SC := (.cond (.tmp 9) .skip (.exit 0))
theorem u37_1 (P : Program) (B : Nat) (T0 : List Nat) (r : Sto) (Q : Ex → Fr → Loc → Prop) (a : Fr) (l : Loc) : SW P B T0 r c37_1 Q a l = SW P B T0 r (.cond (.tmp 9) .skip (.exit 0)) Q a l := (rfl)
def o37_2 : List SO := ((SO.mk (some 16) (.load 29 (.tmp 15)) none) :: (SO.mk (some 17) (.len 29 (.tmp 16)) none) :: (SO.mk (some 18) (.bin .lss 3 (.tmp 12) (.tmp 17)) none) :: [])
theorem v37_2 (P : Program) (B : Nat) (T0 : List Nat) (r : Sto) (K : Fr → Loc → Prop) (a : Fr) (l : Loc) : SWL P B T0 r o37_2 K a l = SWL P B T0 r ((SO.mk (some 16) (.load 29 (.tmp 15)) none) :: (SO.mk (some 17) (.len 29 (.tmp 16)) none) :: (SO.mk (some 18) (.bin .lss 3 (.tmp 12) (.tmp 17)) none) :: []) K a l := (rfl)
def c37_3 : SC := (.cond (.tmp 18) .skip (.exit 2))
theorem u37_3 (P : Program) (B : Nat) (T0 : List Nat) (r : Sto) (Q : Ex → Fr → Loc → Prop) (a : Fr) (l : Loc) : SW P B T0 r c37_3 Q a l = SW P B T0 r (.cond (.tmp 18) .skip (.exit 2)) Q a l := (rfl)
def o37_4 : List SO := ((SO.mk (some 29) (.bslice 29 1 [(0 , (.tmp 28))]) none) :: (SO.mk (some 30) (.app 29 29 (.tmp 21) (.tmp 29)) none) :: (SO.mk (some 3) (.move (.tmp 30)) none) :: [])
theorem v37_4 (P : Program) (B : Nat) (T0 : List Nat) (r : Sto) (K : Fr → Loc → Prop) (a : Fr) (l : Loc) : SWL P B T0 r o37_4 K a l = SWL P B T0 r ((SO.mk (some 29) (.bslice 29 1 [(0 , (.tmp 28))]) none) :: (SO.mk (some 30) (.app 29 29 (.tmp 21) (.tmp 29)) none) :: (SO.mk (some 3) (.move (.tmp 30)) none) :: []) K a l := (rfl)
def o37_5 : List SO := ((SO.mk (some 25) (.load 29 (.tmp 24)) none) :: (SO.mk (some 26) (.move (.tmp 5)) none) :: (SO.mk (some 27) (.iaddr 29 (.tmp 25) (.tmp 26)) none) :: (SO.mk (some 28) (.load 5 (.tmp 27)) none) :: o37_4)
theorem v37_5 (P : Program) (B : Nat) (T0 : List Nat) (r : Sto) (K : Fr → Loc → Prop) (a : Fr) (l : Loc) : SWL P B T0 r o37_5 K a l = SWL P B T0 r ((SO.mk (some 25) (.load 29 (.tmp 24)) none) :: (SO.mk (some 26) (.move (.tmp 5)) none) :: (SO.mk (some 27) (.iaddr 29 (.tmp 25) (.tmp 26)) none) :: (SO.mk (some 28) (.load 5 (.tmp 27)) none) :: o37_4) K a l := (rfl)
def c37_6 : SC := (.reg [SO.mk (some 19) (.move (.tmp 5)) none, SO.mk (some 20) (.bin .add 3 (.tmp 19) (.const (Value.int .i64 1))) none, SO.mk (some 5) (.move (.tmp 20)) none])
theorem u37_6 (P : Program) (B : Nat) (T0 : List Nat) (r : Sto) (Q : Ex → Fr → Loc → Prop) (a : Fr) (l : Loc) : SW P B T0 r c37_6 Q a l = SW P B T0 r (.reg [SO.mk (some 19) (.move (.tmp 5)) none, SO.mk (some 20) (.bin .add 3 (.tmp 19) (.const (Value.int .i64 1))) none, SO.mk (some 5) (.move (.tmp 20)) none]) Q a l := (rfl)
def c37_7 : SC := (.seq (.block 3 (.reg ((SO.mk (some 21) (.move (.tmp 3)) none) :: (SO.mk (some 22) (.move (.tmp 0)) none) :: (SO.mk (some 23) (.move (.tmp 4)) none) :: (SO.mk (some 24) (.iaddr 24 (.tmp 22) (.tmp 23)) none) :: o37_5))) (.keep [5, 4, 0, 3] c37_6))
theorem u37_7 (P : Program) (B : Nat) (T0 : List Nat) (r : Sto) (Q : Ex → Fr → Loc → Prop) (a : Fr) (l : Loc) : SW P B T0 r c37_7 Q a l = SW P B T0 r (.seq (.block 3 (.reg ((SO.mk (some 21) (.move (.tmp 3)) none) :: (SO.mk (some 22) (.move (.tmp 0)) none) :: (SO.mk (some 23) (.move (.tmp 4)) none) :: (SO.mk (some 24) (.iaddr 24 (.tmp 22) (.tmp 23)) none) :: o37_5))) (.keep [5, 4, 0, 3] c37_6)) Q a l := (rfl)
def c37_8 : SC := (.seq (.seq (.reg ((SO.mk (some 12) (.move (.tmp 5)) none) :: (SO.mk (some 13) (.move (.tmp 0)) none) :: (SO.mk (some 14) (.move (.tmp 4)) none) :: (SO.mk (some 15) (.iaddr 24 (.tmp 13) (.tmp 14)) none) :: o37_2)) (.keep [18, 5, 4, 0, 3] c37_3)) (.keep [3, 5, 4, 0] c37_7))
theorem u37_8 (P : Program) (B : Nat) (T0 : List Nat) (r : Sto) (Q : Ex → Fr → Loc → Prop) (a : Fr) (l : Loc) : SW P B T0 r c37_8 Q a l = SW P B T0 r (.seq (.seq (.reg ((SO.mk (some 12) (.move (.tmp 5)) none) :: (SO.mk (some 13) (.move (.tmp 0)) none) :: (SO.mk (some 14) (.move (.tmp 4)) none) :: (SO.mk (some 15) (.iaddr 24 (.tmp 13) (.tmp 14)) none) :: o37_2)) (.keep [18, 5, 4, 0, 3] c37_3)) (.keep [3, 5, 4, 0] c37_7)) Q a l := (rfl)
def c37_9 : SC := (.block 2 (.loop (.keep [5, 4, 0, 3] c37_8)))
theorem u37_9 (P : Program) (B : Nat) (T0 : List Nat) (r : Sto) (Q : Ex → Fr → Loc → Prop) (a : Fr) (l : Loc) : SW P B T0 r c37_9 Q a l = SW P B T0 r (.block 2 (.loop (.keep [5, 4, 0, 3] c37_8))) Q a l := (rfl)
def c37_10 : SC := (.reg [SO.mk (some 10) (.move (.tmp 4)) none, SO.mk (some 11) (.bin .add 3 (.tmp 10) (.const (Value.int .i64 1))) none, SO.mk (some 4) (.move (.tmp 11)) none])
theorem u37_10 (P : Program) (B : Nat) (T0 : List Nat) (r : Sto) (Q : Ex → Fr → Loc → Prop) (a : Fr) (l : Loc) : SW P B T0 r c37_10 Q a l = SW P B T0 r (.reg [SO.mk (some 10) (.move (.tmp 4)) none, SO.mk (some 11) (.bin .add 3 (.tmp 10) (.const (Value.int .i64 1))) none, SO.mk (some 4) (.move (.tmp 11)) none]) Q a l := (rfl)
def c37_11 : SC := (.seq (.block 1 (.seq (.reg [SO.mk (some 5) (.move (.const (Value.int .i64 0))) none]) (.keep [5, 4, 0, 3] c37_9))) (.keep [4, 0, 3] c37_10))
theorem u37_11 (P : Program) (B : Nat) (T0 : List Nat) (r : Sto) (Q : Ex → Fr → Loc → Prop) (a : Fr) (l : Loc) : SW P B T0 r c37_11 Q a l = SW P B T0 r (.seq (.block 1 (.seq (.reg [SO.mk (some 5) (.move (.const (Value.int .i64 0))) none]) (.keep [5, 4, 0, 3] c37_9))) (.keep [4, 0, 3] c37_10)) Q a l := (rfl)
def c37_12 : SC := (.seq (.seq (.reg [SO.mk (some 6) (.move (.tmp 4)) none, SO.mk (some 7) (.move (.tmp 0)) none, SO.mk (some 8) (.len 24 (.tmp 7)) none, SO.mk (some 9) (.bin .lss 3 (.tmp 6) (.tmp 8)) none]) (.keep [9, 0, 4, 3] c37_1)) (.keep [4, 0, 3] c37_11))
theorem u37_12 (P : Program) (B : Nat) (T0 : List Nat) (r : Sto) (Q : Ex → Fr → Loc → Prop) (a : Fr) (l : Loc) : SW P B T0 r c37_12 Q a l = SW P B T0 r (.seq (.seq (.reg [SO.mk (some 6) (.move (.tmp 4)) none, SO.mk (some 7) (.move (.tmp 0)) none, SO.mk (some 8) (.len 24 (.tmp 7)) none, SO.mk (some 9) (.bin .lss 3 (.tmp 6) (.tmp 8)) none]) (.keep [9, 0, 4, 3] c37_1)) (.keep [4, 0, 3] c37_11)) Q a l := (rfl)
def c37_13 : SC := (.block 0 (.loop (.keep [0, 4, 3] c37_12)))
theorem u37_13 (P : Program) (B : Nat) (T0 : List Nat) (r : Sto) (Q : Ex → Fr → Loc → Prop) (a : Fr) (l : Loc) : SW P B T0 r c37_13 Q a l = SW P B T0 r (.block 0 (.loop (.keep [0, 4, 3] c37_12))) Q a l := (rfl)
def c37_14 : SC := (.seq (.reg [SO.mk (some 31) (.move (.tmp 3)) none, SO.mk (some 2) (.move (.tmp 31)) none]) (.keep [2] .ret))
theorem u37_14 (P : Program) (B : Nat) (T0 : List Nat) (r : Sto) (Q : Ex → Fr → Loc → Prop) (a : Fr) (l : Loc) : SW P B T0 r c37_14 Q a l = SW P B T0 r (.seq (.reg [SO.mk (some 31) (.move (.tmp 3)) none, SO.mk (some 2) (.move (.tmp 31)) none]) (.keep [2] .ret)) Q a l := (rfl)
def c37_15 : SC := (.seq (.seq (.reg [SO.mk (some 4) (.move (.const (Value.int .i64 0))) none]) (.keep [0, 4, 3] c37_13)) (.keep [3] c37_14))
theorem u37_15 (P : Program) (B : Nat) (T0 : List Nat) (r : Sto) (Q : Ex → Fr → Loc → Prop) (a : Fr) (l : Loc) : SW P B T0 r c37_15 Q a l = SW P B T0 r (.seq (.seq (.reg [SO.mk (some 4) (.move (.const (Value.int .i64 0))) none]) (.keep [0, 4, 3] c37_13)) (.keep [3] c37_14)) Q a l := (rfl)
def c37_16 : SC := (.seq (.reg [SO.mk (some 3) (.move (.const (Value.slice none 0 0))) none]) (.keep [0, 3] c37_15))
theorem u37_16 (P : Program) (B : Nat) (T0 : List Nat) (r : Sto) (Q : Ex → Fr → Loc → Prop) (a : Fr) (l : Loc) : SW P B T0 r c37_16 Q a l = SW P B T0 r (.seq (.reg [SO.mk (some 3) (.move (.const (Value.slice none 0 0))) none]) (.keep [0, 3] c37_15)) Q a l := (rfl)
def c37 : SC := (.seq (.reg [SO.mk (some 2) (.move (.const (Value.slice none 0 0))) none]) (.keep [0] c37_16))
theorem c37_eq : annC Try.f37 = some c37 := by kernel_rfl
theorem r37 : Try.f37.results.toList = [.tmp 2] := by kernel_rfl
theorem e37 : enters Try.prog 37 = true := by kernel_rfl
end Go.Proofs.Ytkcfnhfbdcnhjaa
