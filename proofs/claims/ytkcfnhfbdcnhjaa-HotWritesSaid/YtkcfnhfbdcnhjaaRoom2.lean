/- The room that a piece has on disk: the program's check and the reference's. -/
import Derived.Test.YtkcfnhfbdcnhjaaRoom
import Derived.Test.YtkcfnhfbdcnhjaaDevC
import Derived.Test.YtkcfnhfbdcnhjaaTypes
namespace Go.Proofs.Ytkcfnhfbdcnhjaa
open Go.RowKit
set_option maxRecDepth 100000
/-- icehouse_hot.room -/
def o42_1 : List SO := ((SO.mk (some 28) (.move (.tmp 8)) (some (24 , false))) :: (SO.mk (some 29) (.call 76 [(.tmp 27), (.tmp 28)]) (some (24 , false))) :: (SO.mk (some 30) (.pick (.tmp 24) (.const (Value.bool true)) (.tmp 29)) none) :: [])
theorem v42_1 (P : Program) (B : Nat) (T0 : List Nat) (r : Sto) (K : Fr → Loc → Prop) (a : Fr) (l : Loc) : SWL P B T0 r o42_1 K a l = SWL P B T0 r ((SO.mk (some 28) (.move (.tmp 8)) (some (24 , false))) :: (SO.mk (some 29) (.call 76 [(.tmp 27), (.tmp 28)]) (some (24 , false))) :: (SO.mk (some 30) (.pick (.tmp 24) (.const (Value.bool true)) (.tmp 29)) none) :: []) K a l := (rfl)
def o42_2 : List SO := ((SO.mk (some 24) (.move (.tmp 23)) none) :: (SO.mk (some 25) (.move (.tmp 1)) (some (24 , false))) :: (SO.mk (some 26) (.move (.tmp 7)) (some (24 , false))) :: (SO.mk (some 27) (.slice 40 (.tmp 25) none (some (.tmp 26))) (some (24 , false))) :: o42_1)
theorem v42_2 (P : Program) (B : Nat) (T0 : List Nat) (r : Sto) (K : Fr → Loc → Prop) (a : Fr) (l : Loc) : SWL P B T0 r o42_2 K a l = SWL P B T0 r ((SO.mk (some 24) (.move (.tmp 23)) none) :: (SO.mk (some 25) (.move (.tmp 1)) (some (24 , false))) :: (SO.mk (some 26) (.move (.tmp 7)) (some (24 , false))) :: (SO.mk (some 27) (.slice 40 (.tmp 25) none (some (.tmp 26))) (some (24 , false))) :: o42_1) K a l := (rfl)
def o42_3 : List SO := ((SO.mk (some 20) (.faddr 23 (.tmp 3) 2) (some (18 , false))) :: (SO.mk (some 21) (.load 3 (.tmp 20)) (some (18 , false))) :: (SO.mk (some 22) (.bin .geq 3 (.tmp 19) (.tmp 21)) (some (18 , false))) :: (SO.mk (some 23) (.pick (.tmp 18) (.const (Value.bool true)) (.tmp 22)) none) :: o42_2)
theorem v42_3 (P : Program) (B : Nat) (T0 : List Nat) (r : Sto) (K : Fr → Loc → Prop) (a : Fr) (l : Loc) : SWL P B T0 r o42_3 K a l = SWL P B T0 r ((SO.mk (some 20) (.faddr 23 (.tmp 3) 2) (some (18 , false))) :: (SO.mk (some 21) (.load 3 (.tmp 20)) (some (18 , false))) :: (SO.mk (some 22) (.bin .geq 3 (.tmp 19) (.tmp 21)) (some (18 , false))) :: (SO.mk (some 23) (.pick (.tmp 18) (.const (Value.bool true)) (.tmp 22)) none) :: o42_2) K a l := (rfl)
def c42_4 : SC := (.seq (.reg [SO.mk (some 6) (.move (.const (Value.bool false))) none]) (.keep [6] .ret))
theorem u42_4 (P : Program) (B : Nat) (T0 : List Nat) (r : Sto) (Q : Ex → Fr → Loc → Prop) (a : Fr) (l : Loc) : SW P B T0 r c42_4 Q a l = SW P B T0 r (.seq (.reg [SO.mk (some 6) (.move (.const (Value.bool false))) none]) (.keep [6] .ret)) Q a l := (rfl)
def c42_5 : SC := (.cond (.tmp 30) c42_4 .skip)
theorem u42_5 (P : Program) (B : Nat) (T0 : List Nat) (r : Sto) (Q : Ex → Fr → Loc → Prop) (a : Fr) (l : Loc) : SW P B T0 r c42_5 Q a l = SW P B T0 r (.cond (.tmp 30) c42_4 .skip) Q a l := (rfl)
def c42_6 : SC := (.seq (.reg ((SO.mk (some 16) (.move (.tmp 8)) none) :: (SO.mk (some 17) (.bin .lss 3 (.tmp 16) (.const (Value.int .i64 0))) none) :: (SO.mk (some 18) (.move (.tmp 17)) none) :: (SO.mk (some 19) (.move (.tmp 8)) (some (18 , false))) :: o42_3)) (.keep [30, 11, 10, 3, 9, 1, 2] c42_5))
theorem u42_6 (P : Program) (B : Nat) (T0 : List Nat) (r : Sto) (Q : Ex → Fr → Loc → Prop) (a : Fr) (l : Loc) : SW P B T0 r c42_6 Q a l = SW P B T0 r (.seq (.reg ((SO.mk (some 16) (.move (.tmp 8)) none) :: (SO.mk (some 17) (.bin .lss 3 (.tmp 16) (.const (Value.int .i64 0))) none) :: (SO.mk (some 18) (.move (.tmp 17)) none) :: (SO.mk (some 19) (.move (.tmp 8)) (some (18 , false))) :: o42_3)) (.keep [30, 11, 10, 3, 9, 1, 2] c42_5)) Q a l := (rfl)
def c42_7 : SC := (.reg [SO.mk (some 31) (.bin .add 3 (.tmp 11) (.const (Value.int .i64 1))) none, SO.mk (some 11) (.move (.tmp 31)) none])
theorem u42_7 (P : Program) (B : Nat) (T0 : List Nat) (r : Sto) (Q : Ex → Fr → Loc → Prop) (a : Fr) (l : Loc) : SW P B T0 r c42_7 Q a l = SW P B T0 r (.reg [SO.mk (some 31) (.bin .add 3 (.tmp 11) (.const (Value.int .i64 1))) none, SO.mk (some 11) (.move (.tmp 31)) none]) Q a l := (rfl)
def c42_8 : SC := (.seq (.block 1 (.seq (.reg [SO.mk (some 13) (.move (.tmp 11)) none, SO.mk (some 14) (.iaddr 40 (.tmp 9) (.tmp 11)) none, SO.mk (some 15) (.load 3 (.tmp 14)) none, SO.mk (some 7) (.move (.tmp 13)) none, SO.mk (some 8) (.move (.tmp 15)) none]) (.keep [7, 8, 11, 10, 3, 9, 1, 2] c42_6))) (.keep [11, 10, 3, 9, 1, 2] c42_7))
theorem u42_8 (P : Program) (B : Nat) (T0 : List Nat) (r : Sto) (Q : Ex → Fr → Loc → Prop) (a : Fr) (l : Loc) : SW P B T0 r c42_8 Q a l = SW P B T0 r (.seq (.block 1 (.seq (.reg [SO.mk (some 13) (.move (.tmp 11)) none, SO.mk (some 14) (.iaddr 40 (.tmp 9) (.tmp 11)) none, SO.mk (some 15) (.load 3 (.tmp 14)) none, SO.mk (some 7) (.move (.tmp 13)) none, SO.mk (some 8) (.move (.tmp 15)) none]) (.keep [7, 8, 11, 10, 3, 9, 1, 2] c42_6))) (.keep [11, 10, 3, 9, 1, 2] c42_7)) Q a l := (rfl)
def c42_9 : SC := (.seq (.cond (.tmp 12) .skip (.exit 0)) (.keep [11, 10, 3, 9, 1, 2] c42_8))
theorem u42_9 (P : Program) (B : Nat) (T0 : List Nat) (r : Sto) (Q : Ex → Fr → Loc → Prop) (a : Fr) (l : Loc) : SW P B T0 r c42_9 Q a l = SW P B T0 r (.seq (.cond (.tmp 12) .skip (.exit 0)) (.keep [11, 10, 3, 9, 1, 2] c42_8)) Q a l := (rfl)
def c42_10 : SC := (.seq (.reg [SO.mk (some 12) (.bin .lss 3 (.tmp 11) (.tmp 10)) none]) (.keep [12, 9, 3, 10, 11, 1, 2] c42_9))
theorem u42_10 (P : Program) (B : Nat) (T0 : List Nat) (r : Sto) (Q : Ex → Fr → Loc → Prop) (a : Fr) (l : Loc) : SW P B T0 r c42_10 Q a l = SW P B T0 r (.seq (.reg [SO.mk (some 12) (.bin .lss 3 (.tmp 11) (.tmp 10)) none]) (.keep [12, 9, 3, 10, 11, 1, 2] c42_9)) Q a l := (rfl)
def c42_11 : SC := (.block 0 (.loop (.keep [9, 3, 10, 11, 1, 2] c42_10)))
theorem u42_11 (P : Program) (B : Nat) (T0 : List Nat) (r : Sto) (Q : Ex → Fr → Loc → Prop) (a : Fr) (l : Loc) : SW P B T0 r c42_11 Q a l = SW P B T0 r (.block 0 (.loop (.keep [9, 3, 10, 11, 1, 2] c42_10))) Q a l := (rfl)
def o42_12 : List SO := ((SO.mk (some 44) (.pick (.tmp 38) (.tmp 43) (.const (Value.bool false))) none) :: (SO.mk (some 6) (.move (.tmp 44)) none) :: [])
theorem v42_12 (P : Program) (B : Nat) (T0 : List Nat) (r : Sto) (K : Fr → Loc → Prop) (a : Fr) (l : Loc) : SWL P B T0 r o42_12 K a l = SWL P B T0 r ((SO.mk (some 44) (.pick (.tmp 38) (.tmp 43) (.const (Value.bool false))) none) :: (SO.mk (some 6) (.move (.tmp 44)) none) :: []) K a l := (rfl)
def o42_13 : List SO := ((SO.mk (some 40) (.len 40 (.tmp 39)) (some (38 , true))) :: (SO.mk (some 41) (.move (.tmp 2)) (some (38 , true))) :: (SO.mk (some 42) (.call 77 [(.tmp 41)]) (some (38 , true))) :: (SO.mk (some 43) (.bin .eql 3 (.tmp 40) (.tmp 42)) (some (38 , true))) :: o42_12)
theorem v42_13 (P : Program) (B : Nat) (T0 : List Nat) (r : Sto) (K : Fr → Loc → Prop) (a : Fr) (l : Loc) : SWL P B T0 r o42_13 K a l = SWL P B T0 r ((SO.mk (some 40) (.len 40 (.tmp 39)) (some (38 , true))) :: (SO.mk (some 41) (.move (.tmp 2)) (some (38 , true))) :: (SO.mk (some 42) (.call 77 [(.tmp 41)]) (some (38 , true))) :: (SO.mk (some 43) (.bin .eql 3 (.tmp 40) (.tmp 42)) (some (38 , true))) :: o42_12) K a l := (rfl)
def o42_14 : List SO := ((SO.mk (some 36) (.bin .leq 3 (.tmp 35) (.const (Value.int .i64 600))) (some (34 , true))) :: (SO.mk (some 37) (.pick (.tmp 34) (.tmp 36) (.const (Value.bool false))) none) :: (SO.mk (some 38) (.move (.tmp 37)) none) :: (SO.mk (some 39) (.move (.tmp 1)) (some (38 , true))) :: o42_13)
theorem v42_14 (P : Program) (B : Nat) (T0 : List Nat) (r : Sto) (K : Fr → Loc → Prop) (a : Fr) (l : Loc) : SWL P B T0 r o42_14 K a l = SWL P B T0 r ((SO.mk (some 36) (.bin .leq 3 (.tmp 35) (.const (Value.int .i64 600))) (some (34 , true))) :: (SO.mk (some 37) (.pick (.tmp 34) (.tmp 36) (.const (Value.bool false))) none) :: (SO.mk (some 38) (.move (.tmp 37)) none) :: (SO.mk (some 39) (.move (.tmp 1)) (some (38 , true))) :: o42_13) K a l := (rfl)
def c42_15 : SC := (.seq (.reg ((SO.mk (some 32) (.move (.tmp 2)) none) :: (SO.mk (some 33) (.bin .geq 3 (.tmp 32) (.const (Value.int .i64 0))) none) :: (SO.mk (some 34) (.move (.tmp 33)) none) :: (SO.mk (some 35) (.move (.tmp 2)) (some (34 , true))) :: o42_14)) (.keep [6] .ret))
theorem u42_15 (P : Program) (B : Nat) (T0 : List Nat) (r : Sto) (Q : Ex → Fr → Loc → Prop) (a : Fr) (l : Loc) : SW P B T0 r c42_15 Q a l = SW P B T0 r (.seq (.reg ((SO.mk (some 32) (.move (.tmp 2)) none) :: (SO.mk (some 33) (.bin .geq 3 (.tmp 32) (.const (Value.int .i64 0))) none) :: (SO.mk (some 34) (.move (.tmp 33)) none) :: (SO.mk (some 35) (.move (.tmp 2)) (some (34 , true))) :: o42_14)) (.keep [6] .ret)) Q a l := (rfl)
def c42_16 : SC := (.seq (.seq (.reg [SO.mk (some 9) (.move (.tmp 1)) none, SO.mk (some 10) (.len 40 (.tmp 9)) none, SO.mk (some 11) (.move (.const (Value.int .i64 0))) none]) (.keep [9, 3, 10, 11, 1, 2] c42_11)) (.keep [1, 2] c42_15))
theorem u42_16 (P : Program) (B : Nat) (T0 : List Nat) (r : Sto) (Q : Ex → Fr → Loc → Prop) (a : Fr) (l : Loc) : SW P B T0 r c42_16 Q a l = SW P B T0 r (.seq (.seq (.reg [SO.mk (some 9) (.move (.tmp 1)) none, SO.mk (some 10) (.len 40 (.tmp 9)) none, SO.mk (some 11) (.move (.const (Value.int .i64 0))) none]) (.keep [9, 3, 10, 11, 1, 2] c42_11)) (.keep [1, 2] c42_15)) Q a l := (rfl)
def c42 : SC := (.seq (.reg [SO.mk (some 3) (.box 23 (.tmp 0)) none, SO.mk (some 6) (.move (.const (Value.bool false))) none]) (.keep [3, 1, 2] c42_16))
theorem c42_eq : annC Try.f42 = some c42 := by kernel_rfl
theorem r42 : Try.f42.results.toList = [.tmp 6] := by kernel_rfl
theorem e42 : enters Try.prog 42 = true := by kernel_rfl
/-- icehouse_icehouseref.roomMay -/
def o44_1 : List SO := ((SO.mk (some 17) (.bin .neq 3 (.tmp 14) (.tmp 16)) (some (12 , false))) :: (SO.mk (some 18) (.pick (.tmp 12) (.const (Value.bool true)) (.tmp 17)) none) :: [])
theorem v44_1 (P : Program) (B : Nat) (T0 : List Nat) (r : Sto) (K : Fr → Loc → Prop) (a : Fr) (l : Loc) : SWL P B T0 r o44_1 K a l = SWL P B T0 r ((SO.mk (some 17) (.bin .neq 3 (.tmp 14) (.tmp 16)) (some (12 , false))) :: (SO.mk (some 18) (.pick (.tmp 12) (.const (Value.bool true)) (.tmp 17)) none) :: []) K a l := (rfl)
def o44_2 : List SO := ((SO.mk (some 13) (.move (.tmp 1)) (some (12 , false))) :: (SO.mk (some 14) (.len 40 (.tmp 13)) (some (12 , false))) :: (SO.mk (some 15) (.move (.tmp 2)) (some (12 , false))) :: (SO.mk (some 16) (.call 57 [(.tmp 15), (.const (Value.int .i64 64))]) (some (12 , false))) :: o44_1)
theorem v44_2 (P : Program) (B : Nat) (T0 : List Nat) (r : Sto) (K : Fr → Loc → Prop) (a : Fr) (l : Loc) : SWL P B T0 r o44_2 K a l = SWL P B T0 r ((SO.mk (some 13) (.move (.tmp 1)) (some (12 , false))) :: (SO.mk (some 14) (.len 40 (.tmp 13)) (some (12 , false))) :: (SO.mk (some 15) (.move (.tmp 2)) (some (12 , false))) :: (SO.mk (some 16) (.call 57 [(.tmp 15), (.const (Value.int .i64 64))]) (some (12 , false))) :: o44_1) K a l := (rfl)
def c44_3 : SC := (.seq (.reg [SO.mk (some 6) (.move (.const (Value.bool false))) none]) (.keep [6] .ret))
theorem u44_3 (P : Program) (B : Nat) (T0 : List Nat) (r : Sto) (Q : Ex → Fr → Loc → Prop) (a : Fr) (l : Loc) : SW P B T0 r c44_3 Q a l = SW P B T0 r (.seq (.reg [SO.mk (some 6) (.move (.const (Value.bool false))) none]) (.keep [6] .ret)) Q a l := (rfl)
def c44_4 : SC := (.cond (.tmp 18) c44_3 .skip)
theorem u44_4 (P : Program) (B : Nat) (T0 : List Nat) (r : Sto) (Q : Ex → Fr → Loc → Prop) (a : Fr) (l : Loc) : SW P B T0 r c44_4 Q a l = SW P B T0 r (.cond (.tmp 18) c44_3 .skip) Q a l := (rfl)
def c44_5 : SC := (.cond (.tmp 22) .skip (.exit 0))
theorem u44_5 (P : Program) (B : Nat) (T0 : List Nat) (r : Sto) (Q : Ex → Fr → Loc → Prop) (a : Fr) (l : Loc) : SW P B T0 r c44_5 Q a l = SW P B T0 r (.cond (.tmp 22) .skip (.exit 0)) Q a l := (rfl)
def o44_6 : List SO := ((SO.mk (some 29) (.faddr 23 (.tmp 3) 2) none) :: (SO.mk (some 30) (.load 3 (.tmp 29)) none) :: (SO.mk (some 31) (.bin .sub 3 (.tmp 30) (.const (Value.int .i64 1))) none) :: [])
theorem v44_6 (P : Program) (B : Nat) (C : List Nat) (σ0 : Sto) (l0 : Loc) (K : Fr → Loc → Prop) (a : Fr) (l : Loc) : SWD P B C σ0 l0 o44_6 K a l = SWD P B C σ0 l0 ((SO.mk (some 29) (.faddr 23 (.tmp 3) 2) none) :: (SO.mk (some 30) (.load 3 (.tmp 29)) none) :: (SO.mk (some 31) (.bin .sub 3 (.tmp 30) (.const (Value.int .i64 1))) none) :: []) K a l := (rfl)
def o44_7 : List SO := ((SO.mk (some 25) (.move (.tmp 1)) none) :: (SO.mk (some 26) (.move (.tmp 7)) none) :: (SO.mk (some 27) (.iaddr 40 (.tmp 25) (.tmp 26)) none) :: (SO.mk (some 28) (.load 3 (.tmp 27)) none) :: o44_6)
theorem v44_7 (P : Program) (B : Nat) (C : List Nat) (σ0 : Sto) (l0 : Loc) (K : Fr → Loc → Prop) (a : Fr) (l : Loc) : SWD P B C σ0 l0 o44_7 K a l = SWD P B C σ0 l0 ((SO.mk (some 25) (.move (.tmp 1)) none) :: (SO.mk (some 26) (.move (.tmp 7)) none) :: (SO.mk (some 27) (.iaddr 40 (.tmp 25) (.tmp 26)) none) :: (SO.mk (some 28) (.load 3 (.tmp 27)) none) :: o44_6) K a l := (rfl)
theorem m44_7 (B : Nat) : mkNames B o44_7 = [] := (rfl)
def c44_8 : SC := (.seq (.reg [SO.mk (some 6) (.move (.const (Value.bool false))) none]) (.keep [6] .ret))
theorem u44_8 (P : Program) (B : Nat) (T0 : List Nat) (r : Sto) (Q : Ex → Fr → Loc → Prop) (a : Fr) (l : Loc) : SW P B T0 r c44_8 Q a l = SW P B T0 r (.seq (.reg [SO.mk (some 6) (.move (.const (Value.bool false))) none]) (.keep [6] .ret)) Q a l := (rfl)
def c44_9 : SC := (.cond (.tmp 33) c44_8 .skip)
theorem u44_9 (P : Program) (B : Nat) (T0 : List Nat) (r : Sto) (Q : Ex → Fr → Loc → Prop) (a : Fr) (l : Loc) : SW P B T0 r c44_9 Q a l = SW P B T0 r (.cond (.tmp 33) c44_8 .skip) Q a l := (rfl)
def c44_10 : SC := (.cond (.tmp 36) .skip (.exit 2))
theorem u44_10 (P : Program) (B : Nat) (T0 : List Nat) (r : Sto) (Q : Ex → Fr → Loc → Prop) (a : Fr) (l : Loc) : SW P B T0 r c44_10 Q a l = SW P B T0 r (.cond (.tmp 36) .skip (.exit 2)) Q a l := (rfl)
def o44_11 : List SO := ((SO.mk (some 47) (.bin .eql 3 (.tmp 42) (.tmp 46)) none) :: [])
theorem v44_11 (P : Program) (B : Nat) (C : List Nat) (σ0 : Sto) (l0 : Loc) (K : Fr → Loc → Prop) (a : Fr) (l : Loc) : SWD P B C σ0 l0 o44_11 K a l = SWD P B C σ0 l0 ((SO.mk (some 47) (.bin .eql 3 (.tmp 42) (.tmp 46)) none) :: []) K a l := (rfl)
def o44_12 : List SO := ((SO.mk (some 43) (.move (.tmp 1)) none) :: (SO.mk (some 44) (.move (.tmp 7)) none) :: (SO.mk (some 45) (.iaddr 40 (.tmp 43) (.tmp 44)) none) :: (SO.mk (some 46) (.load 3 (.tmp 45)) none) :: o44_11)
theorem v44_12 (P : Program) (B : Nat) (C : List Nat) (σ0 : Sto) (l0 : Loc) (K : Fr → Loc → Prop) (a : Fr) (l : Loc) : SWD P B C σ0 l0 o44_12 K a l = SWD P B C σ0 l0 ((SO.mk (some 43) (.move (.tmp 1)) none) :: (SO.mk (some 44) (.move (.tmp 7)) none) :: (SO.mk (some 45) (.iaddr 40 (.tmp 43) (.tmp 44)) none) :: (SO.mk (some 46) (.load 3 (.tmp 45)) none) :: o44_11) K a l := (rfl)
def o44_13 : List SO := ((SO.mk (some 39) (.move (.tmp 1)) none) :: (SO.mk (some 40) (.move (.tmp 8)) none) :: (SO.mk (some 41) (.iaddr 40 (.tmp 39) (.tmp 40)) none) :: (SO.mk (some 42) (.load 3 (.tmp 41)) none) :: o44_12)
theorem v44_13 (P : Program) (B : Nat) (C : List Nat) (σ0 : Sto) (l0 : Loc) (K : Fr → Loc → Prop) (a : Fr) (l : Loc) : SWD P B C σ0 l0 o44_13 K a l = SWD P B C σ0 l0 ((SO.mk (some 39) (.move (.tmp 1)) none) :: (SO.mk (some 40) (.move (.tmp 8)) none) :: (SO.mk (some 41) (.iaddr 40 (.tmp 39) (.tmp 40)) none) :: (SO.mk (some 42) (.load 3 (.tmp 41)) none) :: o44_12) K a l := (rfl)
theorem m44_13 (B : Nat) : mkNames B o44_13 = [] := (rfl)
def c44_14 : SC := (.seq (.reg [SO.mk (some 6) (.move (.const (Value.bool false))) none]) (.keep [6] .ret))
theorem u44_14 (P : Program) (B : Nat) (T0 : List Nat) (r : Sto) (Q : Ex → Fr → Loc → Prop) (a : Fr) (l : Loc) : SW P B T0 r c44_14 Q a l = SW P B T0 r (.seq (.reg [SO.mk (some 6) (.move (.const (Value.bool false))) none]) (.keep [6] .ret)) Q a l := (rfl)
def c44_15 : SC := (.cond (.tmp 47) c44_14 .skip)
theorem u44_15 (P : Program) (B : Nat) (T0 : List Nat) (r : Sto) (Q : Ex → Fr → Loc → Prop) (a : Fr) (l : Loc) : SW P B T0 r c44_15 Q a l = SW P B T0 r (.cond (.tmp 47) c44_14 .skip) Q a l := (rfl)
def c44_16 : SC := (.reg [SO.mk (some 37) (.move (.tmp 8)) none, SO.mk (some 38) (.bin .add 3 (.tmp 37) (.const (Value.int .i64 1))) none, SO.mk (some 8) (.move (.tmp 38)) none])
theorem u44_16 (P : Program) (B : Nat) (T0 : List Nat) (r : Sto) (Q : Ex → Fr → Loc → Prop) (a : Fr) (l : Loc) : SW P B T0 r c44_16 Q a l = SW P B T0 r (.reg [SO.mk (some 37) (.move (.tmp 8)) none, SO.mk (some 38) (.bin .add 3 (.tmp 37) (.const (Value.int .i64 1))) none, SO.mk (some 8) (.move (.tmp 38)) none]) Q a l := (rfl)
def c44_17 : SC := (.seq (.block 3 (.seq (.dreg false o44_13 []) (.keep [47, 8, 7, 1, 3] c44_15))) (.keep [8, 7, 1, 3] c44_16))
theorem u44_17 (P : Program) (B : Nat) (T0 : List Nat) (r : Sto) (Q : Ex → Fr → Loc → Prop) (a : Fr) (l : Loc) : SW P B T0 r c44_17 Q a l = SW P B T0 r (.seq (.block 3 (.seq (.dreg false o44_13 []) (.keep [47, 8, 7, 1, 3] c44_15))) (.keep [8, 7, 1, 3] c44_16)) Q a l := (rfl)
def c44_18 : SC := (.seq (.seq (.reg [SO.mk (some 34) (.move (.tmp 8)) none, SO.mk (some 35) (.move (.tmp 7)) none, SO.mk (some 36) (.bin .lss 3 (.tmp 34) (.tmp 35)) none]) (.keep [36, 8, 7, 1, 3] c44_10)) (.keep [8, 7, 1, 3] c44_17))
theorem u44_18 (P : Program) (B : Nat) (T0 : List Nat) (r : Sto) (Q : Ex → Fr → Loc → Prop) (a : Fr) (l : Loc) : SW P B T0 r c44_18 Q a l = SW P B T0 r (.seq (.seq (.reg [SO.mk (some 34) (.move (.tmp 8)) none, SO.mk (some 35) (.move (.tmp 7)) none, SO.mk (some 36) (.bin .lss 3 (.tmp 34) (.tmp 35)) none]) (.keep [36, 8, 7, 1, 3] c44_10)) (.keep [8, 7, 1, 3] c44_17)) Q a l := (rfl)
def c44_19 : SC := (.block 2 (.loop (.keep [8, 7, 1, 3] c44_18)))
theorem u44_19 (P : Program) (B : Nat) (T0 : List Nat) (r : Sto) (Q : Ex → Fr → Loc → Prop) (a : Fr) (l : Loc) : SW P B T0 r c44_19 Q a l = SW P B T0 r (.block 2 (.loop (.keep [8, 7, 1, 3] c44_18))) Q a l := (rfl)
def c44_20 : SC := (.seq (.reg [SO.mk (some 8) (.move (.const (Value.int .i64 0))) none]) (.keep [8, 7, 1, 3] c44_19))
theorem u44_20 (P : Program) (B : Nat) (T0 : List Nat) (r : Sto) (Q : Ex → Fr → Loc → Prop) (a : Fr) (l : Loc) : SW P B T0 r c44_20 Q a l = SW P B T0 r (.seq (.reg [SO.mk (some 8) (.move (.const (Value.int .i64 0))) none]) (.keep [8, 7, 1, 3] c44_19)) Q a l := (rfl)
def c44_21 : SC := (.reg [SO.mk (some 23) (.move (.tmp 7)) none, SO.mk (some 24) (.bin .add 3 (.tmp 23) (.const (Value.int .i64 1))) none, SO.mk (some 7) (.move (.tmp 24)) none])
theorem u44_21 (P : Program) (B : Nat) (T0 : List Nat) (r : Sto) (Q : Ex → Fr → Loc → Prop) (a : Fr) (l : Loc) : SW P B T0 r c44_21 Q a l = SW P B T0 r (.reg [SO.mk (some 23) (.move (.tmp 7)) none, SO.mk (some 24) (.bin .add 3 (.tmp 23) (.const (Value.int .i64 1))) none, SO.mk (some 7) (.move (.tmp 24)) none]) Q a l := (rfl)
def c44_22 : SC := (.seq (.block 1 (.seq (.seq (.dreg false o44_7 [SO.mk (some 32) (.call 36 [(.tmp 28), (.const (Value.int .i64 0)), (.tmp 31)]) none, SO.mk (some 33) (.un .not (.tmp 32)) none]) (.keep [33, 7, 1, 3] c44_9)) (.keep [7, 1, 3] c44_20))) (.keep [7, 1, 3] c44_21))
theorem u44_22 (P : Program) (B : Nat) (T0 : List Nat) (r : Sto) (Q : Ex → Fr → Loc → Prop) (a : Fr) (l : Loc) : SW P B T0 r c44_22 Q a l = SW P B T0 r (.seq (.block 1 (.seq (.seq (.dreg false o44_7 [SO.mk (some 32) (.call 36 [(.tmp 28), (.const (Value.int .i64 0)), (.tmp 31)]) none, SO.mk (some 33) (.un .not (.tmp 32)) none]) (.keep [33, 7, 1, 3] c44_9)) (.keep [7, 1, 3] c44_20))) (.keep [7, 1, 3] c44_21)) Q a l := (rfl)
def c44_23 : SC := (.seq (.seq (.reg [SO.mk (some 19) (.move (.tmp 7)) none, SO.mk (some 20) (.move (.tmp 1)) none, SO.mk (some 21) (.len 40 (.tmp 20)) none, SO.mk (some 22) (.bin .lss 3 (.tmp 19) (.tmp 21)) none]) (.keep [22, 3, 1, 7] c44_5)) (.keep [7, 1, 3] c44_22))
theorem u44_23 (P : Program) (B : Nat) (T0 : List Nat) (r : Sto) (Q : Ex → Fr → Loc → Prop) (a : Fr) (l : Loc) : SW P B T0 r c44_23 Q a l = SW P B T0 r (.seq (.seq (.reg [SO.mk (some 19) (.move (.tmp 7)) none, SO.mk (some 20) (.move (.tmp 1)) none, SO.mk (some 21) (.len 40 (.tmp 20)) none, SO.mk (some 22) (.bin .lss 3 (.tmp 19) (.tmp 21)) none]) (.keep [22, 3, 1, 7] c44_5)) (.keep [7, 1, 3] c44_22)) Q a l := (rfl)
def c44_24 : SC := (.block 0 (.loop (.keep [3, 1, 7] c44_23)))
theorem u44_24 (P : Program) (B : Nat) (T0 : List Nat) (r : Sto) (Q : Ex → Fr → Loc → Prop) (a : Fr) (l : Loc) : SW P B T0 r c44_24 Q a l = SW P B T0 r (.block 0 (.loop (.keep [3, 1, 7] c44_23))) Q a l := (rfl)
def c44_25 : SC := (.seq (.reg [SO.mk (some 6) (.move (.const (Value.bool true))) none]) (.keep [6] .ret))
theorem u44_25 (P : Program) (B : Nat) (T0 : List Nat) (r : Sto) (Q : Ex → Fr → Loc → Prop) (a : Fr) (l : Loc) : SW P B T0 r c44_25 Q a l = SW P B T0 r (.seq (.reg [SO.mk (some 6) (.move (.const (Value.bool true))) none]) (.keep [6] .ret)) Q a l := (rfl)
def c44_26 : SC := (.seq (.seq (.reg [SO.mk (some 7) (.move (.const (Value.int .i64 0))) none]) (.keep [3, 1, 7] c44_24)) (.keep [] c44_25))
theorem u44_26 (P : Program) (B : Nat) (T0 : List Nat) (r : Sto) (Q : Ex → Fr → Loc → Prop) (a : Fr) (l : Loc) : SW P B T0 r c44_26 Q a l = SW P B T0 r (.seq (.seq (.reg [SO.mk (some 7) (.move (.const (Value.int .i64 0))) none]) (.keep [3, 1, 7] c44_24)) (.keep [] c44_25)) Q a l := (rfl)
def c44_27 : SC := (.seq (.seq (.reg ((SO.mk (some 9) (.move (.tmp 2)) none) :: (SO.mk (some 10) (.call 36 [(.tmp 9), (.const (Value.int .i64 0)), (.const (Value.int .i64 600))]) none) :: (SO.mk (some 11) (.un .not (.tmp 10)) none) :: (SO.mk (some 12) (.move (.tmp 11)) none) :: o44_2)) (.keep [18, 3, 1] c44_4)) (.keep [3, 1] c44_26))
theorem u44_27 (P : Program) (B : Nat) (T0 : List Nat) (r : Sto) (Q : Ex → Fr → Loc → Prop) (a : Fr) (l : Loc) : SW P B T0 r c44_27 Q a l = SW P B T0 r (.seq (.seq (.reg ((SO.mk (some 9) (.move (.tmp 2)) none) :: (SO.mk (some 10) (.call 36 [(.tmp 9), (.const (Value.int .i64 0)), (.const (Value.int .i64 600))]) none) :: (SO.mk (some 11) (.un .not (.tmp 10)) none) :: (SO.mk (some 12) (.move (.tmp 11)) none) :: o44_2)) (.keep [18, 3, 1] c44_4)) (.keep [3, 1] c44_26)) Q a l := (rfl)
def c44 : SC := (.seq (.reg [SO.mk (some 3) (.box 23 (.tmp 0)) none, SO.mk (some 6) (.move (.const (Value.bool false))) none]) (.keep [2, 3, 1] c44_27))
theorem c44_eq : annC Try.f44 = some c44 := by kernel_rfl
theorem r44 : Try.f44.results.toList = [.tmp 6] := by kernel_rfl
theorem e44 : enters Try.prog 44 = true := by kernel_rfl
end Go.Proofs.Ytkcfnhfbdcnhjaa
namespace Go.Proofs.Ytkcfnhfbdcnhjaa
open Go.RowKit
set_option maxHeartbeats 4000000
set_option maxRecDepth 20000
attribute [local irreducible] SW SWL SWLn SWD SEcall SEcallv SDv SE SO1 SOg ACalls ACallv Wk EndV
set_option linter.unusedSimpArgs false
set_option linter.unusedVariables false
theorem Rows_int (l : List Int) : Rows (l.map int_) 1 = True := by
  refine eq_true ?_
  intro r hr
  simp only [List.mem_map] at hr; obtain ⟨x, _, rfl⟩ := hr; rfl
def rmB (g : GeoD) (l : List Int) : Nat → Bool
  | 0 => true
  | k + 1 => rmB g l k && (!decide (l[k]! < 0) && (!decide (l[k]! ≥ g.hot) && !hasI (l.take k) l[k]!))
def sizeV (n : Nat) (size : Int) : Bool := decide (size ≥ 0) && (decide (size ≤ 600) && ((n : Int) == secN size))
def roomV (g : GeoD) (l : List Int) (size : Int) : Bool := rmB g l l.length && sizeV l.length size
theorem rmB_stop (g : GeoD) (l : List Int) {k : Nat} (h : rmB g l k = false) : ∀ n, rmB g l (k + n) = false
  | 0 => h
  | n + 1 => by show (rmB g l (k + n) && _) = false; rw [rmB_stop g l h n]; rfl
theorem roomV_no {g : GeoD} {l : List Int} {size : Int} {k : Nat} (hk : k < l.length) (h : rmB g l (k + 1) = false) : Bo false = Bo (roomV g l size) := by
  have := rmB_stop g l h (l.length - (k + 1))
  rw [show k + 1 + (l.length - (k + 1)) = l.length by omega] at this
  simp only [roomV, this, Bool.false_and]
theorem rm1 {g : GeoD} {l : List Int} {k : Nat} (h : decide (l[k]! < 0) = true) : rmB g l (k + 1) = false := by simp only [rmB, h, Bool.not_true, Bool.false_and, Bool.and_false]
theorem rm2 {g : GeoD} {l : List Int} {k : Nat} (h : decide (l[k]! ≥ g.hot) = true) : rmB g l (k + 1) = false := by simp only [rmB, h, Bool.not_true, Bool.false_and, Bool.and_false]
theorem rm3 {g : GeoD} {l : List Int} {k : Nat} (h : hasI (l.take k) l[k]! = true) : rmB g l (k + 1) = false := by simp only [rmB, h, Bool.not_true, Bool.and_false]
theorem rm0 {g : GeoD} {l : List Int} {k : Nat} (hF : rmB g l k = true) (h : decide (l[k]! < 0) = false) (h2 : decide (l[k]! ≥ g.hot) = false) (h3 : hasI (l.take k) l[k]! = false) : rmB g l (k + 1) = true := by simp only [rmB, hF, h, h2, h3, Bool.not_false, Bool.and_self]
theorem room_p (g : GeoD) (l : List Int) (size : Int) : Pure Try.prog 42 [g.av, .d (ints l), I size] (Bo (roomV g l size)) := by
  refine pure_of follows Try.func42 c42_eq r42 (Nat.le_of_ble_eq_true rfl) fun B σ hcl hsz => ?_
  have hlen : l.length ≤ 2 ^ 47 := by simpa using (show Sized (ints l) from hsz (.d (ints l)) (by simp)).len
  clear hsz
  repeat' (first | (simp -implicitDefEqProofs only [*, contN, contC, Nat.reduceBEq, Bool.or_false, Bool.or_true, Bool.false_or, Bool.true_or, Bool.not_true, Bool.not_false, w_skip, w_ret, w_exit, w_reg, w_dreg, w_seq, SK_n, SK_r, SK_x, w_keep, w_block, w_cond, w_nil, w_cons, w_consg, w_nnil, w_ncons, w_dnil, w_dcons, w_dconsg, HK_app, HD_app, HQ_n, HQ_r, HQ_x, HQ_bn, HQ_br, HQ_bx, HQ_en, HQ_er, HQ_ex, CondB_true, CondB_false, SO1, w_sdv, SDe_alloc, SDe_box, SDe_bslice, SDe_app, true_imp_iff, false_imp_iff, and_false, false_and, not_false_eq_true, not_true_eq_false, addN, mkNames, killT, killD, killO, List.foldl_nil, List.foldl_cons, List.append_nil, List.nil_append, List.cons_append, GuardS_true, GuardS_false, GuardD_true, GuardD_false, DK_true, DK_false, lt_self_add, le_self_add, decide_true, decide_false, Bool.false_eq_true, Bool.true_eq_false, Nat.add_left_cancel_iff, SE, SEalloc, SEbox, SEstore, w_bs, SEbl, SEfz, SEbs0, fzName, osOf, AV.fz1, w_app, w_mk, aev, opd, Fr.get, putO, Fr.norm, List.map_cons, List.map_nil, with1, with2, onInt, AV.lit, entry, ↓reduceIte, Nat.reduceEqDiff, Nat.reduceAdd, reduceCtorEq, true_and, and_true, Option.map_some, Option.map_none, Option.bind_some, Option.bind_none, cond_true, cond_false, binV, unV, fieldV, loadV, sto, cellsAV, newF, newL, Fr.map, Loc.kill, Loc.set, AO.kill, AV.kill, AV.mapN, AV.mapNL, List.filter_nil, List.filter_cons, allP, EndV, retV, resV, resL, frz, dropL, AV.pick, nilV, tupV, imp_self, ne_eq, Int.cast_ofNat_Int, Int.reduceLT, Int.reduceToNat, List.getD_cons_zero, List.getD_cons_succ, bsliceV, buildV, afill, repl, chunk, rvs, AV.rv, RV.nrm, List.getElem?_nil, List.append_assoc, Nat.reduceMul, Nat.reducePow, Nat.zero_lt_succ, Nat.zero_add, Nat.add_zero, List.length_cons, List.length_nil, Nat.reduceLeDiff, Nat.le_refl, List.take_succ_cons, List.take_zero, List.drop_succ_cons, List.drop_zero, indexV, lenV, rowOf_mapD, rowOf_mapI, rowOf_mapA, List.length_map, Int.toNat_natCast, List.getElem?_cons_zero, List.getElem?_cons_succ, and_self, implies_true, if_true, if_false, HQ_zn, HQ_zr, HQ_wn, HQ_wr, AV.nz, AV.nzL, RV.nrm, SEbin, SEnil, nilK, srcV, dstV, appName, List.length_append, Nat.mul_one, take_map_len, take_map_app, List.getElem?_cons_zero, List.map_append, c42, r42, v42_1, v42_2, v42_3, u42_4, u42_5, u42_6, u42_7, u42_8, u42_9, u42_10, u42_11, v42_12, v42_13, v42_14, u42_15, u42_16, ty23, ty40, ty3, ints, int_, GeoD.av, GeoD.cells, bnd, sliceV, Option.getD_some, Option.getD_none, Rows_int, Nat.sub_zero, ← List.map_take]) | (with_reducible refine And.intro ?_ ?_) | (refine call_ro e76 ( contains_p (l.take k) l[k]!) rfl ?_ ?_ ?_ ?_) | (refine gcall_ro e76 ( contains_p (l.take k) l[k]!) rfl ?_ ?_ ?_ ?_) | (refine dcall_ro e76 ( contains_p (l.take k) l[k]!) rfl ?_ ?_ ?_ ?_) | (refine gdcall_ro rfl e76 ( contains_p (l.take k) l[k]!) rfl ?_ ?_ ?_ ?_) | (refine call_ro e77 ( sectorsN_p size) rfl ?_ ?_ ?_ ?_) | (refine gcall_ro e77 ( sectorsN_p size) rfl ?_ ?_ ?_ ?_) | (refine dcall_ro e77 ( sectorsN_p size) rfl ?_ ?_ ?_ ?_) | (refine gdcall_ro rfl e77 ( sectorsN_p size) rfl ?_ ?_ ?_ ?_) | (refine loop_nat (l.length) (fun k => rmB g l k = true) (fun k => [(9, .d (ints l)), (3, .lp (B + 3) 0), (10, I l.length), (11, I k), (1, .d (ints l)), (2, I size)]) (fun k => [(B + 3, .box g.cells)]) ?_ (Wk.keep hcl ?_ ?_ ?_) fun k hk hF => ?_; rotate_left 1; (focus (simp [Fr.get, newF, Fr.map, AV.kill, AV.mapN, ints, int_, GeoD.av, GeoD.cells, bnd, sliceV, Option.getD_some, Option.getD_none, Rows_int, Nat.sub_zero, ← List.map_take] <;> fail)); (focus (simp [sto, newL, Loc.kill, Loc.set, AO.kill, AV.kill, AV.mapN, ints, int_, GeoD.av, GeoD.cells, bnd, sliceV, Option.getD_some, Option.getD_none, Rows_int, Nat.sub_zero, ← List.map_take] <;> fail)); (focus (simp [newL, Loc.kill, Loc.set, ints, int_, GeoD.av, GeoD.cells, bnd, sliceV, Option.getD_some, Option.getD_none, Rows_int, Nat.sub_zero, ← List.map_take] <;> fail)); (try have hw : IntKind.i64.wrap ((k : Int) + 1) = (k : Int) + 1 := IntWalk.i64_in _ (by omega))) | (refine EndX.plain ?_) | (refine nil_split (fun hn => ?_) (fun hn => ?_)) | (refine gcall_no not_false ?_) | (refine gdcall_no not_false ?_) | (refine GuardS_of _ _ _ _ _ _ (fun hg => ?_) (fun hg => ?_)) | (refine GuardD_of _ _ _ _ (fun hg => ?_) (fun hg => ?_)) | (refine CondB_of _ _ _ _ _ _ _ ?_ (fun hg => ?_) (fun hg => ?_)))
  all_goals (try (first | ((first | unfold noN | unfold Fr.below | unfold Loc.below); simp [Fr.allN, AV.allN, AV.allNL, AO.allN]; done) | rfl | trivial | assumption | (intro row hrow; simp only [List.mem_map] at hrow; obtain ⟨x, _, rfl⟩ := hrow; rfl) | (refine Wk.keep hcl ?_ ?_ ?_; (focus (simp [Fr.get, ints, int_, GeoD.av, GeoD.cells, bnd, sliceV, Option.getD_some, Option.getD_none, Rows_int, Nat.sub_zero, ← List.map_take] <;> fail)); (focus (simp [sto, ints, int_, GeoD.av, GeoD.cells, bnd, sliceV, Option.getD_some, Option.getD_none, Rows_int, Nat.sub_zero, ← List.map_take] <;> fail)); (focus (simp <;> fail))) | (simp [allP, opd, Fr.get, Fr.below, Fr.allN, AV.allN, AV.allNL, Loc.below, AO.allN, noN, killO, killT, killD, mkNames, AO.kill, AV.kill, AV.mapN, AV.mapNL]; done) | (with_reducible exact ltD (by assumption)) | omega | (simp only [decide_eq_true_eq, decide_eq_false_iff_not] at *; omega)))
  all_goals first
    | exact roomV_no (ltD (by assumption)) (rm1 (by assumption))
    | exact roomV_no (ltD (by assumption)) (rm2 (by assumption))
    | exact roomV_no (ltD (by assumption)) (rm3 (by assumption))
    | exact rm0 hF (by assumption) (by assumption) (by assumption)
    | (have h1 : l.length ≤ k := geD (by assumption)
       have h2 : k = l.length := by omega
       subst h2
       simp only [roomV, sizeV, *, Bool.false_or, Bool.true_or, Bool.or_true, Bool.or_false, Bool.and_true, Bool.true_and, Bool.false_and, Bool.and_false, Bool.not_true, Bool.not_false, cond_true, cond_false]; done)
theorem has_none {l : List Int} {k : Nat} (hk : k < l.length) (h : ∀ j, j < k → (l[j]! == l[k]!) = false) : hasI (l.take k) l[k]! = false := by
  have : (l.take k).findIdx? (· == l[k]!) = none := by
    rw [List.findIdx?_eq_none_iff]
    intro y hy
    obtain ⟨i, hi, rfl⟩ := List.mem_iff_getElem.1 hy
    have hi' : i < k := by simp at hi; omega
    have := h i hi'
    have hil : i < l.length := by omega
    simp [hil] at this
    simpa using this
  unfold hasI; rw [this]; rfl
theorem has_some {l : List Int} {j k : Nat} (hk : k < l.length) (hj : j < k) (h : (l[j]! == l[k]!) = true) : hasI (l.take k) l[k]! = true := by
  cases hc : hasI (l.take k) l[k]! with
  | true => rfl
  | false =>
    have : (l.take k).findIdx? (· == l[k]!) = none := by
      unfold hasI at hc
      cases hf : (l.take k).findIdx? (· == l[k]!) with
      | none => rfl
      | some i => rw [hf] at hc; cases hc
    rw [List.findIdx?_eq_none_iff] at this
    have hjl : j < l.length := by omega
    have hm : l[j]! ∈ l.take k := by
      rw [List.mem_take_iff_getElem]
      exact ⟨j, by omega, by simp [hjl]⟩
    rw [this _ hm] at h; cases h
theorem sizeV_no {g : GeoD} {l : List Int} {size : Int} (h : sizeV l.length size = false) : Bo false = Bo (roomV g l size) := by
  simp only [roomV, h, Bool.and_false]
theorem inR_z {x h : Int} : inR x 0 (h - 1) = (!decide (x < 0) && !decide (x ≥ h)) := by
  unfold inR
  by_cases h1 : x < 0 <;> by_cases h2 : x ≥ h <;> simp [h1, h2] <;> omega
theorem rowOf_int {l : List Int} {j : Nat} (h : j < l.length) : rowOf (l.map int_) j = [.v (.int .i64 l[j]!)] := rowOf_map int_ l j h
theorem bn1 {b : Bool} (h : (!b) = true) : b = false := by simpa using h
theorem bn0 {b : Bool} (h : (!b) = false) : b = true := by simpa using h
theorem szF1 {n : Nat} {size : Int} (h : (!inR size 0 600) = true) : sizeV n size = false := by
  have := bn1 h
  unfold inR at this
  unfold sizeV
  rw [← Bool.and_assoc, this, Bool.false_and]
theorem szF2 {n : Nat} {size : Int} (h : ((n : Int) != secN size) = true) : sizeV n size = false := by
  have : ((n : Int) == secN size) = false := by simpa using h
  unfold sizeV; rw [this, Bool.and_false, Bool.and_false]
theorem szT {n : Nat} {size : Int} (h : (!inR size 0 600) = false) (h2 : ((n : Int) != secN size) = false) : sizeV n size = true := by
  have h1 := bn0 h
  unfold inR at h1
  have h3 : ((n : Int) == secN size) = true := by simpa using h2
  unfold sizeV; rw [← Bool.and_assoc, h1, h3]; rfl
theorem rmIn {g : GeoD} {l : List Int} {k : Nat} (h : (!inR l[k]! 0 (g.hot - 1)) = true) : rmB g l (k + 1) = false := by
  have h1 := bn1 h
  rw [inR_z] at h1
  simp only [rmB]
  cases ha : decide (l[k]! < 0)
  · cases hb : decide (l[k]! ≥ g.hot)
    · rw [ha, hb] at h1; cases h1
    · simp
  · simp
theorem rmAll {g : GeoD} {l : List Int} {k j : Nat} (hk : k < l.length) (hF : rmB g l k = true) (h : (!inR l[k]! 0 (g.hot - 1)) = false) (hj : k ≤ j) (h3 : ∀ i, i < j → (l[i]! == l[k]!) = false) : rmB g l (k + 1) = true := by
  have h1 := bn0 h
  rw [inR_z, Bool.and_eq_true] at h1
  exact rm0 hF (bn1 h1.1) (bn1 h1.2) (has_none hk fun i hi => h3 i (by omega))
theorem roomMay_p (g : GeoD) (l : List Int) (size : Int) (hh : IntKind.i64.wrap (g.hot - 1) = g.hot - 1) : Pure Try.prog 44 [g.av, .d (ints l), I size] (Bo (roomV g l size)) := by
  refine pure_of follows Try.func44 c44_eq r44 (Nat.le_of_ble_eq_true rfl) fun B σ hcl hsz => ?_
  have hlen : l.length ≤ 2 ^ 47 := by simpa using (show Sized (ints l) from hsz (.d (ints l)) (by simp)).len
  clear hsz
  repeat' (first | (simp -implicitDefEqProofs only [*, contN, contC, Nat.reduceBEq, Bool.or_false, Bool.or_true, Bool.false_or, Bool.true_or, Bool.not_true, Bool.not_false, w_skip, w_ret, w_exit, w_reg, w_dreg, w_seq, SK_n, SK_r, SK_x, w_keep, w_block, w_cond, w_nil, w_cons, w_consg, w_nnil, w_ncons, w_dnil, w_dcons, w_dconsg, HK_app, HD_app, HQ_n, HQ_r, HQ_x, HQ_bn, HQ_br, HQ_bx, HQ_en, HQ_er, HQ_ex, CondB_true, CondB_false, SO1, w_sdv, SDe_alloc, SDe_box, SDe_bslice, SDe_app, true_imp_iff, false_imp_iff, and_false, false_and, not_false_eq_true, not_true_eq_false, addN, mkNames, killT, killD, killO, List.foldl_nil, List.foldl_cons, List.append_nil, List.nil_append, List.cons_append, GuardS_true, GuardS_false, GuardD_true, GuardD_false, DK_true, DK_false, lt_self_add, le_self_add, decide_true, decide_false, Bool.false_eq_true, Bool.true_eq_false, Nat.add_left_cancel_iff, SE, SEalloc, SEbox, SEstore, w_bs, SEbl, SEfz, SEbs0, fzName, osOf, AV.fz1, w_app, w_mk, aev, opd, Fr.get, putO, Fr.norm, List.map_cons, List.map_nil, with1, with2, onInt, AV.lit, entry, ↓reduceIte, Nat.reduceEqDiff, Nat.reduceAdd, reduceCtorEq, true_and, and_true, Option.map_some, Option.map_none, Option.bind_some, Option.bind_none, cond_true, cond_false, binV, unV, fieldV, loadV, sto, cellsAV, newF, newL, Fr.map, Loc.kill, Loc.set, AO.kill, AV.kill, AV.mapN, AV.mapNL, List.filter_nil, List.filter_cons, allP, EndV, retV, resV, resL, frz, dropL, AV.pick, nilV, tupV, imp_self, ne_eq, Int.cast_ofNat_Int, Int.reduceLT, Int.reduceToNat, List.getD_cons_zero, List.getD_cons_succ, bsliceV, buildV, afill, repl, chunk, rvs, AV.rv, RV.nrm, List.getElem?_nil, List.append_assoc, Nat.reduceMul, Nat.reducePow, Nat.zero_lt_succ, Nat.zero_add, Nat.add_zero, List.length_cons, List.length_nil, Nat.reduceLeDiff, Nat.le_refl, List.take_succ_cons, List.take_zero, List.drop_succ_cons, List.drop_zero, indexV, lenV, rowOf_mapD, rowOf_mapI, rowOf_mapA, List.length_map, Int.toNat_natCast, List.getElem?_cons_zero, List.getElem?_cons_succ, and_self, implies_true, if_true, if_false, HQ_zn, HQ_zr, HQ_wn, HQ_wr, AV.nz, AV.nzL, RV.nrm, SEbin, SEnil, nilK, srcV, dstV, appName, List.length_append, Nat.mul_one, take_map_len, take_map_app, List.getElem?_cons_zero, List.map_append, c44, r44, v44_1, v44_2, u44_3, u44_4, u44_5, v44_6, v44_7, m44_7, u44_8, u44_9, u44_10, v44_11, v44_12, v44_13, m44_13, u44_14, u44_15, u44_16, u44_17, u44_18, u44_19, u44_20, u44_21, u44_22, u44_23, u44_24, u44_25, u44_26, u44_27, ty23, ty40, ty3, ints, int_, GeoD.av, GeoD.cells]) | (with_reducible refine And.intro ?_ ?_) | (refine call_ro e36 ( In_p _ _ _) rfl ?_ ?_ ?_ ?_) | (refine gcall_ro e36 ( In_p _ _ _) rfl ?_ ?_ ?_ ?_) | (refine dcall_ro e36 ( In_p _ _ _) rfl ?_ ?_ ?_ ?_) | (refine gdcall_ro rfl e36 ( In_p _ _ _) rfl ?_ ?_ ?_ ?_) | (refine call_ro e57 ( chunks_p size) rfl ?_ ?_ ?_ ?_) | (refine gcall_ro e57 ( chunks_p size) rfl ?_ ?_ ?_ ?_) | (refine dcall_ro e57 ( chunks_p size) rfl ?_ ?_ ?_ ?_) | (refine gdcall_ro rfl e57 ( chunks_p size) rfl ?_ ?_ ?_ ?_) | (rw [rowOf_int (Nat.lt_trans (ltD (k := j) (n := k) (by assumption)) (ltD (k := k) (n := l.length) (by assumption)))]) | (refine loop_nat (l.length) (fun k => rmB g l k = true) (fun k => [(3, .lp (B + 3) 0), (1, .d (ints l)), (7, I k)]) (fun k => [(B + 3, .box g.cells)]) ?_ (Wk.keep hcl ?_ ?_ ?_) fun k hk hF => ?_; rotate_left 1; (focus (simp [Fr.get, newF, Fr.map, AV.kill, AV.mapN, ints, int_, GeoD.av, GeoD.cells] <;> fail)); (focus (simp [sto, newL, Loc.kill, Loc.set, AO.kill, AV.kill, AV.mapN, ints, int_, GeoD.av, GeoD.cells] <;> fail)); (focus (simp [newL, Loc.kill, Loc.set, ints, int_, GeoD.av, GeoD.cells] <;> fail)); (try have hw : IntKind.i64.wrap ((k : Int) + 1) = (k : Int) + 1 := IntWalk.i64_in _ (by omega))) | (refine loop_nat (k) (fun j => ∀ i, i < j → (l[i]! == l[k]!) = false) (fun j => [(8, I j), (7, I k), (1, .d (ints l)), (3, .lp (B + 3) 0)]) (fun j => [(B + 3, .box g.cells)]) ?_ (Wk.keep hcl ?_ ?_ ?_) fun j hj hFj => ?_; rotate_left 1; (focus (simp [Fr.get, newF, Fr.map, AV.kill, AV.mapN, ints, int_, GeoD.av, GeoD.cells] <;> fail)); (focus (simp [sto, newL, Loc.kill, Loc.set, AO.kill, AV.kill, AV.mapN, ints, int_, GeoD.av, GeoD.cells] <;> fail)); (focus (simp [newL, Loc.kill, Loc.set, ints, int_, GeoD.av, GeoD.cells] <;> fail)); (try have hwj : IntKind.i64.wrap ((j : Int) + 1) = (j : Int) + 1 := IntWalk.i64_in _ (by omega))) | (refine EndX.plain ?_) | (refine nil_split (fun hn => ?_) (fun hn => ?_)) | (refine gcall_no not_false ?_) | (refine gdcall_no not_false ?_) | (refine GuardS_of _ _ _ _ _ _ (fun hg => ?_) (fun hg => ?_)) | (refine GuardD_of _ _ _ _ (fun hg => ?_) (fun hg => ?_)) | (refine CondB_of _ _ _ _ _ _ _ ?_ (fun hg => ?_) (fun hg => ?_)))
  all_goals (try (first | ((first | unfold noN | unfold Fr.below | unfold Loc.below); simp [Fr.allN, AV.allN, AV.allNL, AO.allN]; done) | rfl | trivial | assumption | (intro row hrow; simp only [List.mem_map] at hrow; obtain ⟨x, _, rfl⟩ := hrow; rfl) | (refine Wk.keep hcl ?_ ?_ ?_; (focus (simp [Fr.get, ints, int_, GeoD.av, GeoD.cells] <;> fail)); (focus (simp [sto, ints, int_, GeoD.av, GeoD.cells] <;> fail)); (focus (simp <;> fail))) | (simp [allP, opd, Fr.get, Fr.below, Fr.allN, AV.allN, AV.allNL, Loc.below, AO.allN, noN, killO, killT, killD, mkNames, AO.kill, AV.kill, AV.mapN, AV.mapNL]; done) | (with_reducible exact ltD (by assumption)) | omega | (simp only [decide_eq_true_eq, decide_eq_false_iff_not] at *; omega)))
  all_goals first
    | exact sizeV_no (szF1 (by assumption))
    | exact sizeV_no (szF2 (by assumption))
    | exact roomV_no (ltD (by assumption)) (rmIn (by assumption))
    | exact roomV_no (ltD (by assumption)) (rm3 (has_some (ltD (by assumption)) (ltD (k := j) (n := k) (by assumption)) (by assumption)))
    | (intro i hi
       rcases Nat.lt_or_eq_of_le (Nat.le_of_lt_succ hi) with h | rfl
       · exact hFj i h
       · assumption)
    | exact rmAll (ltD (by assumption)) hF (by assumption) (geD (by assumption)) hFj
    | (have h1 : l.length ≤ k := geD (by assumption)
       have h2 : k = l.length := by omega
       subst h2
       simp only [roomV, hF, szT (n := l.length) (size := size) (by assumption) (by assumption), Bool.and_self])
end Go.Proofs.Ytkcfnhfbdcnhjaa
