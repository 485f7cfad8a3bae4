/- The code of functions, without its places in the text. -/
import Derived.Test.YtgjjpjeagkaiaaaTypes
namespace Go.Proofs.Ytgjjpjeagkaiaaa
open Go.RowKit
set_option maxRecDepth 100000
/-- slices.Clone___byte_byte_ -/
def c14_1 : SC := (.seq (.reg [SO.mk (some 2) (.move (.const (Value.slice none 0 0))) none]) (.keep [2] .ret))
theorem u14_1 (P : Program) (B : Nat) (T0 : List Nat) (r : Sto) (Q : Ex → Fr → Loc → Prop) (a : Fr) (l : Loc) : SW P B T0 r c14_1 Q a l = SW P B T0 r (.seq (.reg [SO.mk (some 2) (.move (.const (Value.slice none 0 0))) none]) (.keep [2] .ret)) Q a l := (rfl)
def c14_2 : SC := (.cond (.tmp 4) c14_1 .skip)
theorem u14_2 (P : Program) (B : Nat) (T0 : List Nat) (r : Sto) (Q : Ex → Fr → Loc → Prop) (a : Fr) (l : Loc) : SW P B T0 r c14_2 Q a l = SW P B T0 r (.cond (.tmp 4) c14_1 .skip) Q a l := (rfl)
def c14_3 : SC := (.seq (.reg [SO.mk (some 5) (.bslice 31 0 []) none, SO.mk (some 6) (.move (.tmp 0)) none, SO.mk (some 7) (.app 31 31 (.tmp 5) (.tmp 6)) none, SO.mk (some 2) (.move (.tmp 7)) none]) (.keep [2] .ret))
theorem u14_3 (P : Program) (B : Nat) (T0 : List Nat) (r : Sto) (Q : Ex → Fr → Loc → Prop) (a : Fr) (l : Loc) : SW P B T0 r c14_3 Q a l = SW P B T0 r (.seq (.reg [SO.mk (some 5) (.bslice 31 0 []) none, SO.mk (some 6) (.move (.tmp 0)) none, SO.mk (some 7) (.app 31 31 (.tmp 5) (.tmp 6)) none, SO.mk (some 2) (.move (.tmp 7)) none]) (.keep [2] .ret)) Q a l := (rfl)
def c14_4 : SC := (.seq (.seq (.reg [SO.mk (some 3) (.move (.tmp 0)) none, SO.mk (some 4) (.bin .eql 31 (.tmp 3) (.const (Value.slice none 0 0))) none]) (.keep [4, 0] c14_2)) (.keep [0] c14_3))
theorem u14_4 (P : Program) (B : Nat) (T0 : List Nat) (r : Sto) (Q : Ex → Fr → Loc → Prop) (a : Fr) (l : Loc) : SW P B T0 r c14_4 Q a l = SW P B T0 r (.seq (.seq (.reg [SO.mk (some 3) (.move (.tmp 0)) none, SO.mk (some 4) (.bin .eql 31 (.tmp 3) (.const (Value.slice none 0 0))) none]) (.keep [4, 0] c14_2)) (.keep [0] c14_3)) Q a l := (rfl)
def c14 : SC := (.seq (.reg [SO.mk (some 2) (.move (.const (Value.slice none 0 0))) none]) (.keep [0] c14_4))
theorem c14_eq : annC Try.f14 = some c14 := by kernel_rfl
theorem r14 : Try.f14.results.toList = [.tmp 2] := by kernel_rfl
theorem e14 : enters Try.prog 14 = true := by kernel_rfl
/-- icehouse_icehouseref.joined -/
def c17_1 : SC := (.cond (.tmp 9) .skip (.exit 0))
theorem u17_1 (P : Program) (B : Nat) (T0 : List Nat) (r : Sto) (Q : Ex → Fr → Loc → Prop) (a : Fr) (l : Loc) : SW P B T0 r c17_1 Q a l = SW P B T0 r (.cond (.tmp 9) .skip (.exit 0)) Q a l := (rfl)
def o17_2 : List SO := ((SO.mk (some 16) (.load 31 (.tmp 15)) none) :: (SO.mk (some 17) (.len 31 (.tmp 16)) none) :: (SO.mk (some 18) (.bin .lss 3 (.tmp 12) (.tmp 17)) none) :: [])
theorem v17_2 (P : Program) (B : Nat) (T0 : List Nat) (r : Sto) (K : Fr → Loc → Prop) (a : Fr) (l : Loc) : SWL P B T0 r o17_2 K a l = SWL P B T0 r ((SO.mk (some 16) (.load 31 (.tmp 15)) none) :: (SO.mk (some 17) (.len 31 (.tmp 16)) none) :: (SO.mk (some 18) (.bin .lss 3 (.tmp 12) (.tmp 17)) none) :: []) K a l := (rfl)
def c17_3 : SC := (.cond (.tmp 18) .skip (.exit 2))
theorem u17_3 (P : Program) (B : Nat) (T0 : List Nat) (r : Sto) (Q : Ex → Fr → Loc → Prop) (a : Fr) (l : Loc) : SW P B T0 r c17_3 Q a l = SW P B T0 r (.cond (.tmp 18) .skip (.exit 2)) Q a l := (rfl)
def o17_4 : List SO := ((SO.mk (some 29) (.bslice 31 1 [(0 , (.tmp 28))]) none) :: (SO.mk (some 30) (.app 31 31 (.tmp 21) (.tmp 29)) none) :: (SO.mk (some 3) (.move (.tmp 30)) none) :: [])
theorem v17_4 (P : Program) (B : Nat) (T0 : List Nat) (r : Sto) (K : Fr → Loc → Prop) (a : Fr) (l : Loc) : SWL P B T0 r o17_4 K a l = SWL P B T0 r ((SO.mk (some 29) (.bslice 31 1 [(0 , (.tmp 28))]) none) :: (SO.mk (some 30) (.app 31 31 (.tmp 21) (.tmp 29)) none) :: (SO.mk (some 3) (.move (.tmp 30)) none) :: []) K a l := (rfl)
def o17_5 : List SO := ((SO.mk (some 25) (.load 31 (.tmp 24)) none) :: (SO.mk (some 26) (.move (.tmp 5)) none) :: (SO.mk (some 27) (.iaddr 31 (.tmp 25) (.tmp 26)) none) :: (SO.mk (some 28) (.load 5 (.tmp 27)) none) :: o17_4)
theorem v17_5 (P : Program) (B : Nat) (T0 : List Nat) (r : Sto) (K : Fr → Loc → Prop) (a : Fr) (l : Loc) : SWL P B T0 r o17_5 K a l = SWL P B T0 r ((SO.mk (some 25) (.load 31 (.tmp 24)) none) :: (SO.mk (some 26) (.move (.tmp 5)) none) :: (SO.mk (some 27) (.iaddr 31 (.tmp 25) (.tmp 26)) none) :: (SO.mk (some 28) (.load 5 (.tmp 27)) none) :: o17_4) K a l := (rfl)
def c17_6 : SC := (.reg [SO.mk (some 19) (.move (.tmp 5)) none, SO.mk (some 20) (.bin .add 3 (.tmp 19) (.const (Value.int .i64 1))) none, SO.mk (some 5) (.move (.tmp 20)) none])
theorem u17_6 (P : Program) (B : Nat) (T0 : List Nat) (r : Sto) (Q : Ex → Fr → Loc → Prop) (a : Fr) (l : Loc) : SW P B T0 r c17_6 Q a l = SW P B T0 r (.reg [SO.mk (some 19) (.move (.tmp 5)) none, SO.mk (some 20) (.bin .add 3 (.tmp 19) (.const (Value.int .i64 1))) none, SO.mk (some 5) (.move (.tmp 20)) none]) Q a l := (rfl)
def c17_7 : SC := (.seq (.block 3 (.reg ((SO.mk (some 21) (.move (.tmp 3)) none) :: (SO.mk (some 22) (.move (.tmp 0)) none) :: (SO.mk (some 23) (.move (.tmp 4)) none) :: (SO.mk (some 24) (.iaddr 24 (.tmp 22) (.tmp 23)) none) :: o17_5))) (.keep [5, 4, 0, 3] c17_6))
theorem u17_7 (P : Program) (B : Nat) (T0 : List Nat) (r : Sto) (Q : Ex → Fr → Loc → Prop) (a : Fr) (l : Loc) : SW P B T0 r c17_7 Q a l = SW P B T0 r (.seq (.block 3 (.reg ((SO.mk (some 21) (.move (.tmp 3)) none) :: (SO.mk (some 22) (.move (.tmp 0)) none) :: (SO.mk (some 23) (.move (.tmp 4)) none) :: (SO.mk (some 24) (.iaddr 24 (.tmp 22) (.tmp 23)) none) :: o17_5))) (.keep [5, 4, 0, 3] c17_6)) Q a l := (rfl)
def c17_8 : SC := (.seq (.seq (.reg ((SO.mk (some 12) (.move (.tmp 5)) none) :: (SO.mk (some 13) (.move (.tmp 0)) none) :: (SO.mk (some 14) (.move (.tmp 4)) none) :: (SO.mk (some 15) (.iaddr 24 (.tmp 13) (.tmp 14)) none) :: o17_2)) (.keep [18, 5, 4, 0, 3] c17_3)) (.keep [3, 5, 4, 0] c17_7))
theorem u17_8 (P : Program) (B : Nat) (T0 : List Nat) (r : Sto) (Q : Ex → Fr → Loc → Prop) (a : Fr) (l : Loc) : SW P B T0 r c17_8 Q a l = SW P B T0 r (.seq (.seq (.reg ((SO.mk (some 12) (.move (.tmp 5)) none) :: (SO.mk (some 13) (.move (.tmp 0)) none) :: (SO.mk (some 14) (.move (.tmp 4)) none) :: (SO.mk (some 15) (.iaddr 24 (.tmp 13) (.tmp 14)) none) :: o17_2)) (.keep [18, 5, 4, 0, 3] c17_3)) (.keep [3, 5, 4, 0] c17_7)) Q a l := (rfl)
def c17_9 : SC := (.block 2 (.loop (.keep [5, 4, 0, 3] c17_8)))
theorem u17_9 (P : Program) (B : Nat) (T0 : List Nat) (r : Sto) (Q : Ex → Fr → Loc → Prop) (a : Fr) (l : Loc) : SW P B T0 r c17_9 Q a l = SW P B T0 r (.block 2 (.loop (.keep [5, 4, 0, 3] c17_8))) Q a l := (rfl)
def c17_10 : SC := (.reg [SO.mk (some 10) (.move (.tmp 4)) none, SO.mk (some 11) (.bin .add 3 (.tmp 10) (.const (Value.int .i64 1))) none, SO.mk (some 4) (.move (.tmp 11)) none])
theorem u17_10 (P : Program) (B : Nat) (T0 : List Nat) (r : Sto) (Q : Ex → Fr → Loc → Prop) (a : Fr) (l : Loc) : SW P B T0 r c17_10 Q a l = SW P B T0 r (.reg [SO.mk (some 10) (.move (.tmp 4)) none, SO.mk (some 11) (.bin .add 3 (.tmp 10) (.const (Value.int .i64 1))) none, SO.mk (some 4) (.move (.tmp 11)) none]) Q a l := (rfl)
def c17_11 : SC := (.seq (.block 1 (.seq (.reg [SO.mk (some 5) (.move (.const (Value.int .i64 0))) none]) (.keep [5, 4, 0, 3] c17_9))) (.keep [4, 0, 3] c17_10))
theorem u17_11 (P : Program) (B : Nat) (T0 : List Nat) (r : Sto) (Q : Ex → Fr → Loc → Prop) (a : Fr) (l : Loc) : SW P B T0 r c17_11 Q a l = SW P B T0 r (.seq (.block 1 (.seq (.reg [SO.mk (some 5) (.move (.const (Value.int .i64 0))) none]) (.keep [5, 4, 0, 3] c17_9))) (.keep [4, 0, 3] c17_10)) Q a l := (rfl)
def c17_12 : SC := (.seq (.seq (.reg [SO.mk (some 6) (.move (.tmp 4)) none, SO.mk (some 7) (.move (.tmp 0)) none, SO.mk (some 8) (.len 24 (.tmp 7)) none, SO.mk (some 9) (.bin .lss 3 (.tmp 6) (.tmp 8)) none]) (.keep [9, 0, 4, 3] c17_1)) (.keep [4, 0, 3] c17_11))
theorem u17_12 (P : Program) (B : Nat) (T0 : List Nat) (r : Sto) (Q : Ex → Fr → Loc → Prop) (a : Fr) (l : Loc) : SW P B T0 r c17_12 Q a l = SW P B T0 r (.seq (.seq (.reg [SO.mk (some 6) (.move (.tmp 4)) none, SO.mk (some 7) (.move (.tmp 0)) none, SO.mk (some 8) (.len 24 (.tmp 7)) none, SO.mk (some 9) (.bin .lss 3 (.tmp 6) (.tmp 8)) none]) (.keep [9, 0, 4, 3] c17_1)) (.keep [4, 0, 3] c17_11)) Q a l := (rfl)
def c17_13 : SC := (.block 0 (.loop (.keep [0, 4, 3] c17_12)))
theorem u17_13 (P : Program) (B : Nat) (T0 : List Nat) (r : Sto) (Q : Ex → Fr → Loc → Prop) (a : Fr) (l : Loc) : SW P B T0 r c17_13 Q a l = SW P B T0 r (.block 0 (.loop (.keep [0, 4, 3] c17_12))) Q a l := (rfl)
def c17_14 : SC := (.seq (.reg [SO.mk (some 31) (.move (.tmp 3)) none, SO.mk (some 2) (.move (.tmp 31)) none]) (.keep [2] .ret))
theorem u17_14 (P : Program) (B : Nat) (T0 : List Nat) (r : Sto) (Q : Ex → Fr → Loc → Prop) (a : Fr) (l : Loc) : SW P B T0 r c17_14 Q a l = SW P B T0 r (.seq (.reg [SO.mk (some 31) (.move (.tmp 3)) none, SO.mk (some 2) (.move (.tmp 31)) none]) (.keep [2] .ret)) Q a l := (rfl)
def c17_15 : SC := (.seq (.seq (.reg [SO.mk (some 4) (.move (.const (Value.int .i64 0))) none]) (.keep [0, 4, 3] c17_13)) (.keep [3] c17_14))
theorem u17_15 (P : Program) (B : Nat) (T0 : List Nat) (r : Sto) (Q : Ex → Fr → Loc → Prop) (a : Fr) (l : Loc) : SW P B T0 r c17_15 Q a l = SW P B T0 r (.seq (.seq (.reg [SO.mk (some 4) (.move (.const (Value.int .i64 0))) none]) (.keep [0, 4, 3] c17_13)) (.keep [3] c17_14)) Q a l := (rfl)
def c17_16 : SC := (.seq (.reg [SO.mk (some 3) (.move (.const (Value.slice none 0 0))) none]) (.keep [0, 3] c17_15))
theorem u17_16 (P : Program) (B : Nat) (T0 : List Nat) (r : Sto) (Q : Ex → Fr → Loc → Prop) (a : Fr) (l : Loc) : SW P B T0 r c17_16 Q a l = SW P B T0 r (.seq (.reg [SO.mk (some 3) (.move (.const (Value.slice none 0 0))) none]) (.keep [0, 3] c17_15)) Q a l := (rfl)
def c17 : SC := (.seq (.reg [SO.mk (some 2) (.move (.const (Value.slice none 0 0))) none]) (.keep [0] c17_16))
theorem c17_eq : annC Try.f17 = some c17 := by kernel_rfl
theorem r17 : Try.f17.results.toList = [.tmp 2] := by kernel_rfl
theorem e17 : enters Try.prog 17 = true := by kernel_rfl
end Go.Proofs.Ytgjjpjeagkaiaaa
