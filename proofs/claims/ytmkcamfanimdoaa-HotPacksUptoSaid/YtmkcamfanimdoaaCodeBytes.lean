/- The code of functions, without its places in the text. -/
import Derived.Test.YtmkcamfanimdoaaTypes
namespace Go.Proofs.Ytmkcamfanimdoaa
open Go.RowKit
set_option maxRecDepth 100000
/-- slices.Clone___byte_byte_ -/
def c86_1 : SC := (.seq (.reg [SO.mk (some 2) (.move (.const (Value.slice none 0 0))) none]) (.keep [2] .ret))
theorem u86_1 (P : Program) (B : Nat) (T0 : List Nat) (r : Sto) (Q : Ex → Fr → Loc → Prop) (a : Fr) (l : Loc) : SW P B T0 r c86_1 Q a l = SW P B T0 r (.seq (.reg [SO.mk (some 2) (.move (.const (Value.slice none 0 0))) none]) (.keep [2] .ret)) Q a l := (rfl)
def c86_2 : SC := (.cond (.tmp 4) c86_1 .skip)
theorem u86_2 (P : Program) (B : Nat) (T0 : List Nat) (r : Sto) (Q : Ex → Fr → Loc → Prop) (a : Fr) (l : Loc) : SW P B T0 r c86_2 Q a l = SW P B T0 r (.cond (.tmp 4) c86_1 .skip) Q a l := (rfl)
def c86_3 : SC := (.seq (.reg [SO.mk (some 5) (.bslice 42 0 []) none, SO.mk (some 6) (.move (.tmp 0)) none, SO.mk (some 7) (.app 42 42 (.tmp 5) (.tmp 6)) none, SO.mk (some 2) (.move (.tmp 7)) none]) (.keep [2] .ret))
theorem u86_3 (P : Program) (B : Nat) (T0 : List Nat) (r : Sto) (Q : Ex → Fr → Loc → Prop) (a : Fr) (l : Loc) : SW P B T0 r c86_3 Q a l = SW P B T0 r (.seq (.reg [SO.mk (some 5) (.bslice 42 0 []) none, SO.mk (some 6) (.move (.tmp 0)) none, SO.mk (some 7) (.app 42 42 (.tmp 5) (.tmp 6)) none, SO.mk (some 2) (.move (.tmp 7)) none]) (.keep [2] .ret)) Q a l := (rfl)
def c86_4 : SC := (.seq (.seq (.reg [SO.mk (some 3) (.move (.tmp 0)) none, SO.mk (some 4) (.bin .eql 42 (.tmp 3) (.const (Value.slice none 0 0))) none]) (.keep [4, 0] c86_2)) (.keep [0] c86_3))
theorem u86_4 (P : Program) (B : Nat) (T0 : List Nat) (r : Sto) (Q : Ex → Fr → Loc → Prop) (a : Fr) (l : Loc) : SW P B T0 r c86_4 Q a l = SW P B T0 r (.seq (.seq (.reg [SO.mk (some 3) (.move (.tmp 0)) none, SO.mk (some 4) (.bin .eql 42 (.tmp 3) (.const (Value.slice none 0 0))) none]) (.keep [4, 0] c86_2)) (.keep [0] c86_3)) Q a l := (rfl)
def c86 : SC := (.seq (.reg [SO.mk (some 2) (.move (.const (Value.slice none 0 0))) none]) (.keep [0] c86_4))
theorem c86_eq : annC Try.f86 = some c86 := by kernel_rfl
theorem r86 : Try.f86.results.toList = [.tmp 2] := by kernel_rfl
theorem e86 : enters Try.prog 86 = true := by kernel_rfl
/-- icehouse_icehouseref.joined -/
def c83_1 : SC := (.cond (.tmp 9) .skip (.exit 0))
theorem u83_1 (P : Program) (B : Nat) (T0 : List Nat) (r : Sto) (Q : Ex → Fr → Loc → Prop) (a : Fr) (l : Loc) : SW P B T0 r c83_1 Q a l = SW P B T0 r (.cond (.tmp 9) .skip (.exit 0)) Q a l := (rfl)
def o83_2 : List SO := ((SO.mk (some 16) (.load 42 (.tmp 15)) none) :: (SO.mk (some 17) (.len 42 (.tmp 16)) none) :: (SO.mk (some 18) (.bin .lss 3 (.tmp 12) (.tmp 17)) none) :: [])
theorem v83_2 (P : Program) (B : Nat) (T0 : List Nat) (r : Sto) (K : Fr → Loc → Prop) (a : Fr) (l : Loc) : SWL P B T0 r o83_2 K a l = SWL P B T0 r ((SO.mk (some 16) (.load 42 (.tmp 15)) none) :: (SO.mk (some 17) (.len 42 (.tmp 16)) none) :: (SO.mk (some 18) (.bin .lss 3 (.tmp 12) (.tmp 17)) none) :: []) K a l := (rfl)
def c83_3 : SC := (.cond (.tmp 18) .skip (.exit 2))
theorem u83_3 (P : Program) (B : Nat) (T0 : List Nat) (r : Sto) (Q : Ex → Fr → Loc → Prop) (a : Fr) (l : Loc) : SW P B T0 r c83_3 Q a l = SW P B T0 r (.cond (.tmp 18) .skip (.exit 2)) Q a l := (rfl)
def o83_4 : List SO := ((SO.mk (some 29) (.bslice 42 1 [(0 , (.tmp 28))]) none) :: (SO.mk (some 30) (.app 42 42 (.tmp 21) (.tmp 29)) none) :: (SO.mk (some 3) (.move (.tmp 30)) none) :: [])
theorem v83_4 (P : Program) (B : Nat) (T0 : List Nat) (r : Sto) (K : Fr → Loc → Prop) (a : Fr) (l : Loc) : SWL P B T0 r o83_4 K a l = SWL P B T0 r ((SO.mk (some 29) (.bslice 42 1 [(0 , (.tmp 28))]) none) :: (SO.mk (some 30) (.app 42 42 (.tmp 21) (.tmp 29)) none) :: (SO.mk (some 3) (.move (.tmp 30)) none) :: []) K a l := (rfl)
def o83_5 : List SO := ((SO.mk (some 25) (.load 42 (.tmp 24)) none) :: (SO.mk (some 26) (.move (.tmp 5)) none) :: (SO.mk (some 27) (.iaddr 42 (.tmp 25) (.tmp 26)) none) :: (SO.mk (some 28) (.load 5 (.tmp 27)) none) :: o83_4)
theorem v83_5 (P : Program) (B : Nat) (T0 : List Nat) (r : Sto) (K : Fr → Loc → Prop) (a : Fr) (l : Loc) : SWL P B T0 r o83_5 K a l = SWL P B T0 r ((SO.mk (some 25) (.load 42 (.tmp 24)) none) :: (SO.mk (some 26) (.move (.tmp 5)) none) :: (SO.mk (some 27) (.iaddr 42 (.tmp 25) (.tmp 26)) none) :: (SO.mk (some 28) (.load 5 (.tmp 27)) none) :: o83_4) K a l := (rfl)
def c83_6 : SC := (.reg [SO.mk (some 19) (.move (.tmp 5)) none, SO.mk (some 20) (.bin .add 3 (.tmp 19) (.const (Value.int .i64 1))) none, SO.mk (some 5) (.move (.tmp 20)) none])
theorem u83_6 (P : Program) (B : Nat) (T0 : List Nat) (r : Sto) (Q : Ex → Fr → Loc → Prop) (a : Fr) (l : Loc) : SW P B T0 r c83_6 Q a l = SW P B T0 r (.reg [SO.mk (some 19) (.move (.tmp 5)) none, SO.mk (some 20) (.bin .add 3 (.tmp 19) (.const (Value.int .i64 1))) none, SO.mk (some 5) (.move (.tmp 20)) none]) Q a l := (rfl)
def c83_7 : SC := (.seq (.block 3 (.reg ((SO.mk (some 21) (.move (.tmp 3)) none) :: (SO.mk (some 22) (.move (.tmp 0)) none) :: (SO.mk (some 23) (.move (.tmp 4)) none) :: (SO.mk (some 24) (.iaddr 31 (.tmp 22) (.tmp 23)) none) :: o83_5))) (.keep [5, 4, 0, 3] c83_6))
theorem u83_7 (P : Program) (B : Nat) (T0 : List Nat) (r : Sto) (Q : Ex → Fr → Loc → Prop) (a : Fr) (l : Loc) : SW P B T0 r c83_7 Q a l = SW P B T0 r (.seq (.block 3 (.reg ((SO.mk (some 21) (.move (.tmp 3)) none) :: (SO.mk (some 22) (.move (.tmp 0)) none) :: (SO.mk (some 23) (.move (.tmp 4)) none) :: (SO.mk (some 24) (.iaddr 31 (.tmp 22) (.tmp 23)) none) :: o83_5))) (.keep [5, 4, 0, 3] c83_6)) Q a l := (rfl)
def c83_8 : SC := (.seq (.seq (.reg ((SO.mk (some 12) (.move (.tmp 5)) none) :: (SO.mk (some 13) (.move (.tmp 0)) none) :: (SO.mk (some 14) (.move (.tmp 4)) none) :: (SO.mk (some 15) (.iaddr 31 (.tmp 13) (.tmp 14)) none) :: o83_2)) (.keep [18, 5, 4, 0, 3] c83_3)) (.keep [3, 5, 4, 0] c83_7))
theorem u83_8 (P : Program) (B : Nat) (T0 : List Nat) (r : Sto) (Q : Ex → Fr → Loc → Prop) (a : Fr) (l : Loc) : SW P B T0 r c83_8 Q a l = SW P B T0 r (.seq (.seq (.reg ((SO.mk (some 12) (.move (.tmp 5)) none) :: (SO.mk (some 13) (.move (.tmp 0)) none) :: (SO.mk (some 14) (.move (.tmp 4)) none) :: (SO.mk (some 15) (.iaddr 31 (.tmp 13) (.tmp 14)) none) :: o83_2)) (.keep [18, 5, 4, 0, 3] c83_3)) (.keep [3, 5, 4, 0] c83_7)) Q a l := (rfl)
def c83_9 : SC := (.block 2 (.loop (.keep [5, 4, 0, 3] c83_8)))
theorem u83_9 (P : Program) (B : Nat) (T0 : List Nat) (r : Sto) (Q : Ex → Fr → Loc → Prop) (a : Fr) (l : Loc) : SW P B T0 r c83_9 Q a l = SW P B T0 r (.block 2 (.loop (.keep [5, 4, 0, 3] c83_8))) Q a l := (rfl)
def c83_10 : SC := (.reg [SO.mk (some 10) (.move (.tmp 4)) none, SO.mk (some 11) (.bin .add 3 (.tmp 10) (.const (Value.int .i64 1))) none, SO.mk (some 4) (.move (.tmp 11)) none])
theorem u83_10 (P : Program) (B : Nat) (T0 : List Nat) (r : Sto) (Q : Ex → Fr → Loc → Prop) (a : Fr) (l : Loc) : SW P B T0 r c83_10 Q a l = SW P B T0 r (.reg [SO.mk (some 10) (.move (.tmp 4)) none, SO.mk (some 11) (.bin .add 3 (.tmp 10) (.const (Value.int .i64 1))) none, SO.mk (some 4) (.move (.tmp 11)) none]) Q a l := (rfl)
def c83_11 : SC := (.seq (.block 1 (.seq (.reg [SO.mk (some 5) (.move (.const (Value.int .i64 0))) none]) (.keep [5, 4, 0, 3] c83_9))) (.keep [4, 0, 3] c83_10))
theorem u83_11 (P : Program) (B : Nat) (T0 : List Nat) (r : Sto) (Q : Ex → Fr → Loc → Prop) (a : Fr) (l : Loc) : SW P B T0 r c83_11 Q a l = SW P B T0 r (.seq (.block 1 (.seq (.reg [SO.mk (some 5) (.move (.const (Value.int .i64 0))) none]) (.keep [5, 4, 0, 3] c83_9))) (.keep [4, 0, 3] c83_10)) Q a l := (rfl)
def c83_12 : SC := (.seq (.seq (.reg [SO.mk (some 6) (.move (.tmp 4)) none, SO.mk (some 7) (.move (.tmp 0)) none, SO.mk (some 8) (.len 31 (.tmp 7)) none, SO.mk (some 9) (.bin .lss 3 (.tmp 6) (.tmp 8)) none]) (.keep [9, 0, 4, 3] c83_1)) (.keep [4, 0, 3] c83_11))
theorem u83_12 (P : Program) (B : Nat) (T0 : List Nat) (r : Sto) (Q : Ex → Fr → Loc → Prop) (a : Fr) (l : Loc) : SW P B T0 r c83_12 Q a l = SW P B T0 r (.seq (.seq (.reg [SO.mk (some 6) (.move (.tmp 4)) none, SO.mk (some 7) (.move (.tmp 0)) none, SO.mk (some 8) (.len 31 (.tmp 7)) none, SO.mk (some 9) (.bin .lss 3 (.tmp 6) (.tmp 8)) none]) (.keep [9, 0, 4, 3] c83_1)) (.keep [4, 0, 3] c83_11)) Q a l := (rfl)
def c83_13 : SC := (.block 0 (.loop (.keep [0, 4, 3] c83_12)))
theorem u83_13 (P : Program) (B : Nat) (T0 : List Nat) (r : Sto) (Q : Ex → Fr → Loc → Prop) (a : Fr) (l : Loc) : SW P B T0 r c83_13 Q a l = SW P B T0 r (.block 0 (.loop (.keep [0, 4, 3] c83_12))) Q a l := (rfl)
def c83_14 : SC := (.seq (.reg [SO.mk (some 31) (.move (.tmp 3)) none, SO.mk (some 2) (.move (.tmp 31)) none]) (.keep [2] .ret))
theorem u83_14 (P : Program) (B : Nat) (T0 : List Nat) (r : Sto) (Q : Ex → Fr → Loc → Prop) (a : Fr) (l : Loc) : SW P B T0 r c83_14 Q a l = SW P B T0 r (.seq (.reg [SO.mk (some 31) (.move (.tmp 3)) none, SO.mk (some 2) (.move (.tmp 31)) none]) (.keep [2] .ret)) Q a l := (rfl)
def c83_15 : SC := (.seq (.seq (.reg [SO.mk (some 4) (.move (.const (Value.int .i64 0))) none]) (.keep [0, 4, 3] c83_13)) (.keep [3] c83_14))
theorem u83_15 (P : Program) (B : Nat) (T0 : List Nat) (r : Sto) (Q : Ex → Fr → Loc → Prop) (a : Fr) (l : Loc) : SW P B T0 r c83_15 Q a l = SW P B T0 r (.seq (.seq (.reg [SO.mk (some 4) (.move (.const (Value.int .i64 0))) none]) (.keep [0, 4, 3] c83_13)) (.keep [3] c83_14)) Q a l := (rfl)
def c83_16 : SC := (.seq (.reg [SO.mk (some 3) (.move (.const (Value.slice none 0 0))) none]) (.keep [0, 3] c83_15))
theorem u83_16 (P : Program) (B : Nat) (T0 : List Nat) (r : Sto) (Q : Ex → Fr → Loc → Prop) (a : Fr) (l : Loc) : SW P B T0 r c83_16 Q a l = SW P B T0 r (.seq (.reg [SO.mk (some 3) (.move (.const (Value.slice none 0 0))) none]) (.keep [0, 3] c83_15)) Q a l := (rfl)
def c83 : SC := (.seq (.reg [SO.mk (some 2) (.move (.const (Value.slice none 0 0))) none]) (.keep [0] c83_16))
theorem c83_eq : annC Try.f83 = some c83 := by kernel_rfl
theorem r83 : Try.f83.results.toList = [.tmp 2] := by kernel_rfl
theorem e83 : enters Try.prog 83 = true := by kernel_rfl
end Go.Proofs.Ytmkcamfanimdoaa
