/- Things that are done to devices, one by one: the reference's list of them. -/
import Derived.Test.YtkcfnhfbdcnhjaaWr
import Derived.Test.YtkcfnhfbdcnhjaaTypes
namespace Go.Proofs.Ytkcfnhfbdcnhjaa
open Go.RowKit
set_option maxRecDepth 100000
/-- icehouse_icehouseref.done -/
def o48_1 : List SO := ((SO.mk (some 9) (.alloc 47) none) :: (SO.mk (some 10) (.move (.const (Value.int .i64 0))) none) :: [])
theorem v48_1 (P : Program) (B : Nat) (T0 : List Nat) (r : Sto) (K : Fr → Loc → Prop) (a : Fr) (l : Loc) : SWL P B T0 r o48_1 K a l = SWL P B T0 r ((SO.mk (some 9) (.alloc 47) none) :: (SO.mk (some 10) (.move (.const (Value.int .i64 0))) none) :: []) K a l := (rfl)
def c48_2 : SC := (.cond (.tmp 17) .skip (.exit 0))
theorem u48_2 (P : Program) (B : Nat) (T0 : List Nat) (r : Sto) (Q : Ex → Fr → Loc → Prop) (a : Fr) (l : Loc) : SW P B T0 r c48_2 Q a l = SW P B T0 r (.cond (.tmp 17) .skip (.exit 0)) Q a l := (rfl)
def o48_3 : List SO := ((SO.mk (some 30) (.extract (.tmp 26) 0) none) :: (SO.mk (some 31) (.extract (.tmp 26) 1) none) :: (SO.mk none (.store 28 (.tmp 12) (.tmp 30)) none) :: (SO.mk (some 13) (.move (.tmp 31)) none) :: [])
theorem v48_3 (P : Program) (B : Nat) (T0 : List Nat) (r : Sto) (K : Fr → Loc → Prop) (a : Fr) (l : Loc) : SWL P B T0 r o48_3 K a l = SWL P B T0 r ((SO.mk (some 30) (.extract (.tmp 26) 0) none) :: (SO.mk (some 31) (.extract (.tmp 26) 1) none) :: (SO.mk none (.store 28 (.tmp 12) (.tmp 30)) none) :: (SO.mk (some 13) (.move (.tmp 31)) none) :: []) K a l := (rfl)
def c48_4 : SC := (.reg ((SO.mk (some 27) (.load 23 (.tmp 4)) none) :: (SO.mk (some 28) (.load 28 (.tmp 5)) none) :: (SO.mk (some 29) (.call 79 [(.tmp 27), (.tmp 28)]) none) :: (SO.mk (some 26) (.move (.tmp 29)) none) :: o48_3))
theorem u48_4 (P : Program) (B : Nat) (T0 : List Nat) (r : Sto) (Q : Ex → Fr → Loc → Prop) (a : Fr) (l : Loc) : SW P B T0 r c48_4 Q a l = SW P B T0 r (.reg ((SO.mk (some 27) (.load 23 (.tmp 4)) none) :: (SO.mk (some 28) (.load 28 (.tmp 5)) none) :: (SO.mk (some 29) (.call 79 [(.tmp 27), (.tmp 28)]) none) :: (SO.mk (some 26) (.move (.tmp 29)) none) :: o48_3)) Q a l := (rfl)
def o48_5 : List SO := ((SO.mk (some 45) (.call 80 [(.tmp 33), (.tmp 34), (.tmp 39), (.tmp 44)]) none) :: (SO.mk (some 32) (.move (.tmp 45)) none) :: (SO.mk (some 46) (.extract (.tmp 32) 0) none) :: (SO.mk (some 47) (.extract (.tmp 32) 1) none) :: [])
theorem v48_5 (P : Program) (B : Nat) (C : List Nat) (σ0 : Sto) (l0 : Loc) (K : Fr → Loc → Prop) (a : Fr) (l : Loc) : SWD P B C σ0 l0 o48_5 K a l = SWD P B C σ0 l0 ((SO.mk (some 45) (.call 80 [(.tmp 33), (.tmp 34), (.tmp 39), (.tmp 44)]) none) :: (SO.mk (some 32) (.move (.tmp 45)) none) :: (SO.mk (some 46) (.extract (.tmp 32) 0) none) :: (SO.mk (some 47) (.extract (.tmp 32) 1) none) :: []) K a l := (rfl)
def o48_6 : List SO := ((SO.mk (some 41) (.move (.tmp 11)) none) :: (SO.mk (some 42) (.iaddr 71 (.tmp 40) (.tmp 41)) none) :: (SO.mk (some 43) (.faddr 74 (.tmp 42) 2) none) :: (SO.mk (some 44) (.load 29 (.tmp 43)) none) :: o48_5)
theorem v48_6 (P : Program) (B : Nat) (C : List Nat) (σ0 : Sto) (l0 : Loc) (K : Fr → Loc → Prop) (a : Fr) (l : Loc) : SWD P B C σ0 l0 o48_6 K a l = SWD P B C σ0 l0 ((SO.mk (some 41) (.move (.tmp 11)) none) :: (SO.mk (some 42) (.iaddr 71 (.tmp 40) (.tmp 41)) none) :: (SO.mk (some 43) (.faddr 74 (.tmp 42) 2) none) :: (SO.mk (some 44) (.load 29 (.tmp 43)) none) :: o48_5) K a l := (rfl)
def o48_7 : List SO := ((SO.mk (some 37) (.iaddr 71 (.tmp 35) (.tmp 36)) none) :: (SO.mk (some 38) (.faddr 74 (.tmp 37) 1) none) :: (SO.mk (some 39) (.load 3 (.tmp 38)) none) :: (SO.mk (some 40) (.move (.tmp 2)) none) :: o48_6)
theorem v48_7 (P : Program) (B : Nat) (C : List Nat) (σ0 : Sto) (l0 : Loc) (K : Fr → Loc → Prop) (a : Fr) (l : Loc) : SWD P B C σ0 l0 o48_7 K a l = SWD P B C σ0 l0 ((SO.mk (some 37) (.iaddr 71 (.tmp 35) (.tmp 36)) none) :: (SO.mk (some 38) (.faddr 74 (.tmp 37) 1) none) :: (SO.mk (some 39) (.load 3 (.tmp 38)) none) :: (SO.mk (some 40) (.move (.tmp 2)) none) :: o48_6) K a l := (rfl)
def o48_8 : List SO := ((SO.mk (some 33) (.load 23 (.tmp 4)) none) :: (SO.mk (some 34) (.load 28 (.tmp 5)) none) :: (SO.mk (some 35) (.move (.tmp 2)) none) :: (SO.mk (some 36) (.move (.tmp 11)) none) :: o48_7)
theorem v48_8 (P : Program) (B : Nat) (C : List Nat) (σ0 : Sto) (l0 : Loc) (K : Fr → Loc → Prop) (a : Fr) (l : Loc) : SWD P B C σ0 l0 o48_8 K a l = SWD P B C σ0 l0 ((SO.mk (some 33) (.load 23 (.tmp 4)) none) :: (SO.mk (some 34) (.load 28 (.tmp 5)) none) :: (SO.mk (some 35) (.move (.tmp 2)) none) :: (SO.mk (some 36) (.move (.tmp 11)) none) :: o48_7) K a l := (rfl)
theorem m48_8 (B : Nat) : mkNames B o48_8 = [] := (rfl)
def c48_9 : SC := (.dreg false o48_8 [SO.mk none (.store 28 (.tmp 12) (.tmp 46)) none, SO.mk (some 13) (.move (.tmp 47)) none])
theorem u48_9 (P : Program) (B : Nat) (T0 : List Nat) (r : Sto) (Q : Ex → Fr → Loc → Prop) (a : Fr) (l : Loc) : SW P B T0 r c48_9 Q a l = SW P B T0 r (.dreg false o48_8 [SO.mk none (.store 28 (.tmp 12) (.tmp 46)) none, SO.mk (some 13) (.move (.tmp 47)) none]) Q a l := (rfl)
def c48_10 : SC := (.cond (.tmp 25) c48_4 c48_9)
theorem u48_10 (P : Program) (B : Nat) (T0 : List Nat) (r : Sto) (Q : Ex → Fr → Loc → Prop) (a : Fr) (l : Loc) : SW P B T0 r c48_10 Q a l = SW P B T0 r (.cond (.tmp 25) c48_4 c48_9) Q a l := (rfl)
def o48_11 : List SO := ((SO.mk none (.store 47 (.tmp 9) (.tmp 51)) none) :: (SO.mk (some 10) (.move (.tmp 52)) none) :: [])
theorem v48_11 (P : Program) (B : Nat) (T0 : List Nat) (r : Sto) (K : Fr → Loc → Prop) (a : Fr) (l : Loc) : SWL P B T0 r o48_11 K a l = SWL P B T0 r ((SO.mk none (.store 47 (.tmp 9) (.tmp 51)) none) :: (SO.mk (some 10) (.move (.tmp 52)) none) :: []) K a l := (rfl)
def c48_12 : SC := (.seq (.reg ((SO.mk (some 50) (.load 28 (.tmp 5)) none) :: (SO.mk (some 51) (.build 47 []) none) :: (SO.mk (some 52) (.move (.tmp 13)) none) :: (SO.mk none (.store 28 (.tmp 8) (.tmp 50)) none) :: o48_11)) (.keep [8, 9, 10] .ret))
theorem u48_12 (P : Program) (B : Nat) (T0 : List Nat) (r : Sto) (Q : Ex → Fr → Loc → Prop) (a : Fr) (l : Loc) : SW P B T0 r c48_12 Q a l = SW P B T0 r (.seq (.reg ((SO.mk (some 50) (.load 28 (.tmp 5)) none) :: (SO.mk (some 51) (.build 47 []) none) :: (SO.mk (some 52) (.move (.tmp 13)) none) :: (SO.mk none (.store 28 (.tmp 8) (.tmp 50)) none) :: o48_11)) (.keep [8, 9, 10] .ret)) Q a l := (rfl)
def c48_13 : SC := (.cond (.tmp 49) c48_12 .skip)
theorem u48_13 (P : Program) (B : Nat) (T0 : List Nat) (r : Sto) (Q : Ex → Fr → Loc → Prop) (a : Fr) (l : Loc) : SW P B T0 r c48_13 Q a l = SW P B T0 r (.cond (.tmp 49) c48_12 .skip) Q a l := (rfl)
def o48_14 : List SO := ((SO.mk none (.store 47 (.tmp 9) (.tmp 56)) none) :: (SO.mk (some 10) (.move (.tmp 57)) none) :: [])
theorem v48_14 (P : Program) (B : Nat) (T0 : List Nat) (r : Sto) (K : Fr → Loc → Prop) (a : Fr) (l : Loc) : SWL P B T0 r o48_14 K a l = SWL P B T0 r ((SO.mk none (.store 47 (.tmp 9) (.tmp 56)) none) :: (SO.mk (some 10) (.move (.tmp 57)) none) :: []) K a l := (rfl)
def c48_15 : SC := (.seq (.reg ((SO.mk (some 55) (.build 28 []) none) :: (SO.mk (some 56) (.build 47 []) none) :: (SO.mk (some 57) (.move (.tmp 13)) none) :: (SO.mk none (.store 28 (.tmp 8) (.tmp 55)) none) :: o48_14)) (.keep [8, 9, 10] .ret))
theorem u48_15 (P : Program) (B : Nat) (T0 : List Nat) (r : Sto) (Q : Ex → Fr → Loc → Prop) (a : Fr) (l : Loc) : SW P B T0 r c48_15 Q a l = SW P B T0 r (.seq (.reg ((SO.mk (some 55) (.build 28 []) none) :: (SO.mk (some 56) (.build 47 []) none) :: (SO.mk (some 57) (.move (.tmp 13)) none) :: (SO.mk none (.store 28 (.tmp 8) (.tmp 55)) none) :: o48_14)) (.keep [8, 9, 10] .ret)) Q a l := (rfl)
def c48_16 : SC := (.cond (.tmp 54) c48_15 .skip)
theorem u48_16 (P : Program) (B : Nat) (T0 : List Nat) (r : Sto) (Q : Ex → Fr → Loc → Prop) (a : Fr) (l : Loc) : SW P B T0 r c48_16 Q a l = SW P B T0 r (.cond (.tmp 54) c48_15 .skip) Q a l := (rfl)
def c48_17 : SC := (.reg [SO.mk (some 58) (.load 28 (.tmp 12)) none, SO.mk none (.store 28 (.tmp 5) (.tmp 58)) none])
theorem u48_17 (P : Program) (B : Nat) (T0 : List Nat) (r : Sto) (Q : Ex → Fr → Loc → Prop) (a : Fr) (l : Loc) : SW P B T0 r c48_17 Q a l = SW P B T0 r (.reg [SO.mk (some 58) (.load 28 (.tmp 12)) none, SO.mk none (.store 28 (.tmp 5) (.tmp 58)) none]) Q a l := (rfl)
def c48_18 : SC := (.seq (.seq (.reg [SO.mk (some 53) (.move (.tmp 13)) none, SO.mk (some 54) (.bin .neq 30 (.tmp 53) (.const (Value.int .i64 0))) none]) (.keep [54, 13, 12, 11, 2, 4, 5, 7, 8, 9] c48_16)) (.keep [12, 11, 2, 4, 5, 7, 8, 9] c48_17))
theorem u48_18 (P : Program) (B : Nat) (T0 : List Nat) (r : Sto) (Q : Ex → Fr → Loc → Prop) (a : Fr) (l : Loc) : SW P B T0 r c48_18 Q a l = SW P B T0 r (.seq (.seq (.reg [SO.mk (some 53) (.move (.tmp 13)) none, SO.mk (some 54) (.bin .neq 30 (.tmp 53) (.const (Value.int .i64 0))) none]) (.keep [54, 13, 12, 11, 2, 4, 5, 7, 8, 9] c48_16)) (.keep [12, 11, 2, 4, 5, 7, 8, 9] c48_17)) Q a l := (rfl)
def c48_19 : SC := (.seq (.seq (.reg [SO.mk (some 48) (.move (.tmp 13)) none, SO.mk (some 49) (.bin .eql 30 (.tmp 48) (.const (Value.int .i64 10))) none]) (.keep [49, 13, 12, 11, 2, 4, 5, 7, 8, 9] c48_13)) (.keep [13, 12, 11, 2, 4, 5, 7, 8, 9] c48_18))
theorem u48_19 (P : Program) (B : Nat) (T0 : List Nat) (r : Sto) (Q : Ex → Fr → Loc → Prop) (a : Fr) (l : Loc) : SW P B T0 r c48_19 Q a l = SW P B T0 r (.seq (.seq (.reg [SO.mk (some 48) (.move (.tmp 13)) none, SO.mk (some 49) (.bin .eql 30 (.tmp 48) (.const (Value.int .i64 10))) none]) (.keep [49, 13, 12, 11, 2, 4, 5, 7, 8, 9] c48_13)) (.keep [13, 12, 11, 2, 4, 5, 7, 8, 9] c48_18)) Q a l := (rfl)
def c48_20 : SC := (.seq (.seq (.reg [SO.mk (some 21) (.move (.tmp 2)) none, SO.mk (some 22) (.move (.tmp 11)) none, SO.mk (some 23) (.iaddr 71 (.tmp 21) (.tmp 22)) none, SO.mk (some 24) (.faddr 74 (.tmp 23) 0) none, SO.mk (some 25) (.load 4 (.tmp 24)) none]) (.keep [25, 12, 11, 2, 4, 5, 7, 8, 9] c48_10)) (.keep [13, 12, 11, 2, 4, 5, 7, 8, 9] c48_19))
theorem u48_20 (P : Program) (B : Nat) (T0 : List Nat) (r : Sto) (Q : Ex → Fr → Loc → Prop) (a : Fr) (l : Loc) : SW P B T0 r c48_20 Q a l = SW P B T0 r (.seq (.seq (.reg [SO.mk (some 21) (.move (.tmp 2)) none, SO.mk (some 22) (.move (.tmp 11)) none, SO.mk (some 23) (.iaddr 71 (.tmp 21) (.tmp 22)) none, SO.mk (some 24) (.faddr 74 (.tmp 23) 0) none, SO.mk (some 25) (.load 4 (.tmp 24)) none]) (.keep [25, 12, 11, 2, 4, 5, 7, 8, 9] c48_10)) (.keep [13, 12, 11, 2, 4, 5, 7, 8, 9] c48_19)) Q a l := (rfl)
def c48_21 : SC := (.seq (.reg [SO.mk (some 13) (.move (.const (Value.int .i64 0))) none]) (.keep [12, 11, 2, 4, 5, 7, 8, 9] c48_20))
theorem u48_21 (P : Program) (B : Nat) (T0 : List Nat) (r : Sto) (Q : Ex → Fr → Loc → Prop) (a : Fr) (l : Loc) : SW P B T0 r c48_21 Q a l = SW P B T0 r (.seq (.reg [SO.mk (some 13) (.move (.const (Value.int .i64 0))) none]) (.keep [12, 11, 2, 4, 5, 7, 8, 9] c48_20)) Q a l := (rfl)
def c48_22 : SC := (.reg [SO.mk (some 18) (.move (.tmp 11)) none, SO.mk (some 19) (.bin .add 3 (.tmp 18) (.const (Value.int .i64 1))) none, SO.mk (some 11) (.move (.tmp 19)) none])
theorem u48_22 (P : Program) (B : Nat) (T0 : List Nat) (r : Sto) (Q : Ex → Fr → Loc → Prop) (a : Fr) (l : Loc) : SW P B T0 r c48_22 Q a l = SW P B T0 r (.reg [SO.mk (some 18) (.move (.tmp 11)) none, SO.mk (some 19) (.bin .add 3 (.tmp 18) (.const (Value.int .i64 1))) none, SO.mk (some 11) (.move (.tmp 19)) none]) Q a l := (rfl)
def c48_23 : SC := (.seq (.block 1 (.seq (.reg [SO.mk (some 20) (.build 28 []) none, SO.mk (some 12) (.alloc 28) none, SO.mk none (.store 28 (.tmp 12) (.tmp 20)) none]) (.keep [12, 11, 2, 4, 5, 7, 8, 9] c48_21))) (.keep [11, 2, 4, 5, 7, 8, 9] c48_22))
theorem u48_23 (P : Program) (B : Nat) (T0 : List Nat) (r : Sto) (Q : Ex → Fr → Loc → Prop) (a : Fr) (l : Loc) : SW P B T0 r c48_23 Q a l = SW P B T0 r (.seq (.block 1 (.seq (.reg [SO.mk (some 20) (.build 28 []) none, SO.mk (some 12) (.alloc 28) none, SO.mk none (.store 28 (.tmp 12) (.tmp 20)) none]) (.keep [12, 11, 2, 4, 5, 7, 8, 9] c48_21))) (.keep [11, 2, 4, 5, 7, 8, 9] c48_22)) Q a l := (rfl)
def c48_24 : SC := (.seq (.seq (.reg [SO.mk (some 14) (.move (.tmp 11)) none, SO.mk (some 15) (.move (.tmp 2)) none, SO.mk (some 16) (.len 71 (.tmp 15)) none, SO.mk (some 17) (.bin .lss 3 (.tmp 14) (.tmp 16)) none]) (.keep [17, 4, 2, 11, 5, 7, 8, 9] c48_2)) (.keep [11, 2, 4, 5, 7, 8, 9] c48_23))
theorem u48_24 (P : Program) (B : Nat) (T0 : List Nat) (r : Sto) (Q : Ex → Fr → Loc → Prop) (a : Fr) (l : Loc) : SW P B T0 r c48_24 Q a l = SW P B T0 r (.seq (.seq (.reg [SO.mk (some 14) (.move (.tmp 11)) none, SO.mk (some 15) (.move (.tmp 2)) none, SO.mk (some 16) (.len 71 (.tmp 15)) none, SO.mk (some 17) (.bin .lss 3 (.tmp 14) (.tmp 16)) none]) (.keep [17, 4, 2, 11, 5, 7, 8, 9] c48_2)) (.keep [11, 2, 4, 5, 7, 8, 9] c48_23)) Q a l := (rfl)
def c48_25 : SC := (.block 0 (.loop (.keep [4, 2, 11, 5, 7, 8, 9] c48_24)))
theorem u48_25 (P : Program) (B : Nat) (T0 : List Nat) (r : Sto) (Q : Ex → Fr → Loc → Prop) (a : Fr) (l : Loc) : SW P B T0 r c48_25 Q a l = SW P B T0 r (.block 0 (.loop (.keep [4, 2, 11, 5, 7, 8, 9] c48_24))) Q a l := (rfl)
def c48_26 : SC := (.seq (.dreg true [SO.mk (some 59) (.load 28 (.tmp 5)) none, SO.mk (some 60) (.load 47 (.tmp 7)) none] [SO.mk none (.store 28 (.tmp 8) (.tmp 59)) none, SO.mk none (.store 47 (.tmp 9) (.tmp 60)) none, SO.mk (some 10) (.move (.const (Value.int .i64 0))) none]) (.keep [8, 9, 10] .ret))
theorem u48_26 (P : Program) (B : Nat) (T0 : List Nat) (r : Sto) (Q : Ex → Fr → Loc → Prop) (a : Fr) (l : Loc) : SW P B T0 r c48_26 Q a l = SW P B T0 r (.seq (.dreg true [SO.mk (some 59) (.load 28 (.tmp 5)) none, SO.mk (some 60) (.load 47 (.tmp 7)) none] [SO.mk none (.store 28 (.tmp 8) (.tmp 59)) none, SO.mk none (.store 47 (.tmp 9) (.tmp 60)) none, SO.mk (some 10) (.move (.const (Value.int .i64 0))) none]) (.keep [8, 9, 10] .ret)) Q a l := (rfl)
def c48_27 : SC := (.seq (.seq (.reg [SO.mk (some 11) (.move (.const (Value.int .i64 0))) none]) (.keep [4, 2, 11, 5, 7, 8, 9] c48_25)) (.keep [5, 7, 8, 9] c48_26))
theorem u48_27 (P : Program) (B : Nat) (T0 : List Nat) (r : Sto) (Q : Ex → Fr → Loc → Prop) (a : Fr) (l : Loc) : SW P B T0 r c48_27 Q a l = SW P B T0 r (.seq (.seq (.reg [SO.mk (some 11) (.move (.const (Value.int .i64 0))) none]) (.keep [4, 2, 11, 5, 7, 8, 9] c48_25)) (.keep [5, 7, 8, 9] c48_26)) Q a l := (rfl)
def c48 : SC := (.seq (.reg ((SO.mk (some 4) (.box 23 (.tmp 0)) none) :: (SO.mk (some 5) (.box 28 (.tmp 1)) none) :: (SO.mk (some 7) (.box 47 (.tmp 3)) none) :: (SO.mk (some 8) (.alloc 28) none) :: o48_1)) (.keep [4, 2, 5, 7, 8, 9] c48_27))
theorem c48_eq : annC Try.f48 = some c48 := by kernel_rfl
theorem r48 : Try.f48.results.toList = [.cell 8 28, .cell 9 47, .tmp 10] := by kernel_rfl
theorem e48 : enters Try.prog 48 = true := by kernel_rfl
end Go.Proofs.Ytkcfnhfbdcnhjaa
namespace Go.Proofs.Ytkcfnhfbdcnhjaa
open Go.RowKit
set_option maxHeartbeats 4000000
set_option maxRecDepth 20000
attribute [local irreducible] SW SWL SWLn SWD SEcall SEcallv SDv SE SO1 SOg ACalls ACallv Wk EndV
set_option linter.unusedSimpArgs false
set_option linter.unusedVariables false
structure TodD where
  fl : Bool
  pos : Int
  b : List UInt8
instance : Inhabited TodD := ⟨⟨false, 0, []⟩⟩
def TodD.row (t : TodD) : List RV := [.v (.bool t.fl), .v (.int .i64 t.pos), bytes t.b]
def stepE (g : GeoD) (d : DevD) (t : TodD) : Int := bif t.fl then spendE g d else putE g d t.pos t.b
def stepD (g : GeoD) (d : DevD) (t : TodD) : DevD := bif t.fl then flushD g d else putD g d t.pos t.b
def stepF (g : GeoD) (s : DevD × Int) (t : TodD) : DevD × Int := bif s.2 != 0 then s else bif stepE g s.1 t == 0 then (stepD g s.1 t, 0) else (s.1, stepE g s.1 t)
def runF (g : GeoD) (d : DevD) (ts : List TodD) : DevD × Int := ts.foldl (stepF g) (d, 0)
def endR (s : DevD × Int) : DevD × Int := bif s.2 == 0 || s.2 == 10 then s else (nilD, s.2)
def jEnd (e : Int) (j : JrnD) : JrnD := bif e == 0 then j else nilJ
theorem stepD_fit {g : GeoD} {d : DevD} (hw : d.fit) (t : TodD) : (stepD g d t).fit := by
  unfold stepD
  cases t.fl
  · exact putD_fit hw
  · exact flushD_fit hw
theorem stepF_fit {g : GeoD} {s : DevD × Int} (hw : s.1.fit) (t : TodD) : (stepF g s t).1.fit := by
  unfold stepF
  cases s.2 != 0
  · simp only [cond_false]
    cases stepE g s.1 t == 0
    · exact hw
    · exact stepD_fit hw t
  · exact hw
theorem foldF_fit {g : GeoD} (ts : List TodD) : ∀ {s : DevD × Int}, s.1.fit → (ts.foldl (stepF g) s).1.fit := by
  induction ts with
  | nil => intro s h; exact h
  | cons t ts ih => intro s h; exact ih (stepF_fit h t)
theorem runF_nil (g : GeoD) (d : DevD) : runF g d [] = (d, 0) := rfl
theorem runF_fit {g : GeoD} {d : DevD} (hw : d.fit) (ts : List TodD) : (runF g d ts).1.fit := foldF_fit ts hw
theorem runF_next {g : GeoD} {d : DevD} {ts : List TodD} {k : Nat} (h : k < ts.length) : runF g d (ts.take (k + 1)) = stepF g (runF g d (ts.take k)) ts[k]! := by
  rw [take_next h]; unfold runF; rw [List.foldl_append]; rfl
theorem foldF_stop {g : GeoD} (ts : List TodD) : ∀ {s : DevD × Int}, s.2 ≠ 0 → ts.foldl (stepF g) s = s := by
  induction ts with
  | nil => intro s h; rfl
  | cons t ts ih =>
    intro s h
    have e : stepF g s t = s := by
      have : (s.2 != 0) = true := by simpa using h
      unfold stepF; rw [this]; rfl
    rw [List.foldl_cons, e, ih h]
theorem runF_at {g : GeoD} {d : DevD} {ts : List TodD} (k : Nat) (h : (runF g d (ts.take k)).2 ≠ 0) : runF g d ts = runF g d (ts.take k) := by
  have e : ts.foldl (stepF g) (d, 0) = (ts.take k ++ ts.drop k).foldl (stepF g) (d, 0) := by rw [List.take_append_drop]
  unfold runF at h ⊢
  rw [e, List.foldl_append, foldF_stop _ h]
section
variable {g : GeoD} {d : DevD} {ts : List TodD} {k : Nat} {e : Int}
theorem run_go (hF : (runF g d (ts.take k)).2 = 0) (hk : k < ts.length) (he : stepE g (runF g d (ts.take k)).1 ts[k]! = e) (h0 : (e != 0) = false) : runF g d (ts.take (k + 1)) = (stepD g (runF g d (ts.take k)).1 ts[k]!, 0) := by
  have h1 : e = 0 := by simpa using h0
  subst h1
  rw [runF_next hk]
  unfold stepF
  rw [hF, he]; rfl
theorem run_no (hF : (runF g d (ts.take k)).2 = 0) (hk : k < ts.length) (he : stepE g (runF g d (ts.take k)).1 ts[k]! = e) (h0 : e ≠ 0) : runF g d ts = ((runF g d (ts.take k)).1, e) := by
  have h1 : (e == 0) = false := by simpa using h0
  have e1 : runF g d (ts.take (k + 1)) = ((runF g d (ts.take k)).1, e) := by
    rw [runF_next hk]
    unfold stepF
    rw [hF, he, h1]; rfl
  rw [runF_at (k + 1) (by rw [e1]; exact h0), e1]
theorem run_all (hk : k ≤ ts.length) (hg : decide ((k : Int) < ts.length) = false) : runF g d ts = runF g d (ts.take k) := by
  have : k = ts.length := by simp at hg; omega
  subst this; rw [List.take_length]
theorem step_fl (h : (ts[k]!).fl = true) : stepE g (runF g d (ts.take k)).1 ts[k]! = spendE g (runF g d (ts.take k)).1 ∧ stepD g (runF g d (ts.take k)).1 ts[k]! = flushD g (runF g d (ts.take k)).1 := by
  unfold stepE stepD; rw [h]; exact ⟨rfl, rfl⟩
theorem step_pu (h : (ts[k]!).fl = false) : stepE g (runF g d (ts.take k)).1 ts[k]! = putE g (runF g d (ts.take k)).1 (ts[k]!).pos (ts[k]!).b ∧ stepD g (runF g d (ts.take k)).1 ts[k]! = putD g (runF g d (ts.take k)).1 (ts[k]!).pos (ts[k]!).b := by
  unfold stepE stepD; rw [h]; exact ⟨rfl, rfl⟩
end
/-- what is done, as it is told -/
def doneV (s : DevD × Int) (j : JrnD) : AV := .tup [(endR s).1.av, (jEnd s.2 j).av, I s.2]
theorem done_10 {s : DevD × Int} {x : DevD} {e : Int} {j : JrnD} (h : s = (x, e)) (he : (e == 10) = true) : AV.tup [.agg [.d (.ro (x.safe.map secRow)), .d (.ro (x.cache.map WrD.row)), .d (.ro (x.vols.map VolD.row)), I x.fuel], .agg [I 0, I 0, I 0, I 0, I 0, I 0, I 0, I 0, I 0], I e] = doneV s j := by
  have : e = 10 := by simpa using he
  subst this; subst h; rfl
theorem done_e {s : DevD × Int} {x : DevD} {e : Int} {j : JrnD} (h : s = (x, e)) (he : (e == 10) = false) (h0 : e ≠ 0) : AV.tup [.agg [.d (.ro []), .d (.ro []), .d (.ro []), I 0], .agg [I 0, I 0, I 0, I 0, I 0, I 0, I 0, I 0, I 0], I e] = doneV s j := by
  have h1 : (e == 0) = false := by simpa using h0
  subst h; simp only [doneV, endR, jEnd, h1, he, Bool.false_or, Bool.true_or, Bool.or_true, Bool.or_false, Bool.and_true, Bool.true_and, Bool.false_and, Bool.and_false, Bool.not_true, Bool.not_false, cond_true, cond_false]; rfl
theorem done_0 {s : DevD × Int} {j : JrnD} (h0 : s.2 = 0) : AV.tup [.agg [.d (.ro (s.1.safe.map secRow)), .d (.ro (s.1.cache.map WrD.row)), .d (.ro (s.1.vols.map VolD.row)), I s.1.fuel], .agg [I j.gen, I j.epoch, I j.area, I j.length, I j.start, I j.first, I j.place, I j.next, I j.used], I 0] = doneV s j := by
  obtain ⟨x, e⟩ := s
  simp only at h0; subst h0; rfl
theorem ne10 {e : Int} (h : (e == 10) = true) : e ≠ 0 := by
  have : e = 10 := by simpa using h
  rw [this]; decide
theorem neB {e : Int} (h : (e != 0) = true) : e ≠ 0 := by simpa using h
theorem done_p (g : GeoD) (d : DevD) (ts : List TodD) (j : JrnD) (hwf : d.fit) : Pure Try.prog 48 [g.av, d.av, .d (.ro (ts.map TodD.row)), j.av] (doneV (runF g d ts) j) := by
  refine pureY_of follows Try.func48 c48_eq r48 (Nat.le_of_ble_eq_true rfl) fun B σ hcl hsz => ?_
  have hlen : ts.length ≤ 2 ^ 47 := by simpa using (show Sized (.ro (ts.map TodD.row)) from hsz (.d (.ro (ts.map TodD.row))) (by simp)).len
  clear hsz
  repeat' (first | (simp -implicitDefEqProofs only [*, contN, contC, Nat.reduceBEq, Bool.or_false, Bool.or_true, Bool.false_or, Bool.true_or, Bool.not_true, Bool.not_false, w_skip, w_ret, w_exit, w_reg, w_dreg, w_seq, SK_n, SK_r, SK_x, w_keep, w_block, w_cond, w_nil, w_cons, w_consg, w_nnil, w_ncons, w_dnil, w_dcons, w_dconsg, HK_app, HD_app, HQ_n, HQ_r, HQ_x, HQ_bn, HQ_br, HQ_bx, HQ_en, HQ_er, HQ_ex, CondB_true, CondB_false, SO1, w_sdv, SDe_alloc, SDe_box, SDe_bslice, SDe_app, true_imp_iff, false_imp_iff, and_false, false_and, not_false_eq_true, not_true_eq_false, addN, mkNames, killT, killD, killO, List.foldl_nil, List.foldl_cons, List.append_nil, List.nil_append, List.cons_append, GuardS_true, GuardS_false, GuardD_true, GuardD_false, DK_true, DK_false, lt_self_add, le_self_add, decide_true, decide_false, Bool.false_eq_true, Bool.true_eq_false, Nat.add_left_cancel_iff, SE, SEalloc, SEbox, SEstore, w_bs, SEbl, SEfz, SEbs0, fzName, osOf, AV.fz1, w_app, w_mk, aev, opd, Fr.get, putO, Fr.norm, List.map_cons, List.map_nil, with1, with2, onInt, AV.lit, entry, ↓reduceIte, Nat.reduceEqDiff, Nat.reduceAdd, reduceCtorEq, true_and, and_true, Option.map_some, Option.map_none, Option.bind_some, Option.bind_none, cond_true, cond_false, binV, unV, fieldV, loadV, sto, cellsAV, newF, newL, Fr.map, Loc.kill, Loc.set, AO.kill, AV.kill, AV.mapN, AV.mapNL, List.filter_nil, List.filter_cons, allP, EndV, retV, resV, resL, frz, dropL, AV.pick, nilV, tupV, imp_self, ne_eq, Int.cast_ofNat_Int, Int.reduceLT, Int.reduceToNat, List.getD_cons_zero, List.getD_cons_succ, bsliceV, buildV, afill, repl, chunk, rvs, AV.rv, RV.nrm, List.getElem?_nil, List.append_assoc, Nat.reduceMul, Nat.reducePow, Nat.zero_lt_succ, Nat.zero_add, Nat.add_zero, List.length_cons, List.length_nil, Nat.reduceLeDiff, Nat.le_refl, List.take_succ_cons, List.take_zero, List.drop_succ_cons, List.drop_zero, indexV, lenV, rowOf_mapD, rowOf_mapI, rowOf_mapA, List.length_map, Int.toNat_natCast, List.getElem?_cons_zero, List.getElem?_cons_succ, and_self, implies_true, if_true, if_false, HQ_zn, HQ_zr, HQ_wn, HQ_wr, AV.nz, AV.nzL, RV.nrm, SEbin, SEnil, nilK, srcV, dstV, appName, List.length_append, Nat.mul_one, take_map_len, take_map_app, List.getElem?_cons_zero, List.map_append, c48, r48, v48_1, u48_2, v48_3, u48_4, v48_5, v48_6, v48_7, v48_8, m48_8, u48_9, u48_10, v48_11, u48_12, u48_13, v48_14, u48_15, u48_16, u48_17, u48_18, u48_19, u48_20, u48_21, u48_22, u48_23, u48_24, u48_25, u48_26, u48_27, ty23, ty28, ty47, ty71, ty3, ty74, ty4, ty29, ty30, ty5, GeoD.av, GeoD.cells, DevD.av, DevD.cells, JrnD.av, JrnD.cells, TodD.row, bytes, HQ_yn, HQ_yr, Loc.nz, AO.nz, bne_self_eq_false, runF_nil]) | (with_reducible refine And.intro ?_ ?_) | (refine call_ro e79 ( flushedOf_p g (runF g d (ts.take k)).1 (runF_fit hwf _)) rfl ?_ ?_ ?_ ?_) | (refine gcall_ro e79 ( flushedOf_p g (runF g d (ts.take k)).1 (runF_fit hwf _)) rfl ?_ ?_ ?_ ?_) | (refine dcall_ro e79 ( flushedOf_p g (runF g d (ts.take k)).1 (runF_fit hwf _)) rfl ?_ ?_ ?_ ?_) | (refine gdcall_ro rfl e79 ( flushedOf_p g (runF g d (ts.take k)).1 (runF_fit hwf _)) rfl ?_ ?_ ?_ ?_) | (refine call_ro e80 ( putOf_p g (runF g d (ts.take k)).1 (ts[k]!).pos (ts[k]!).b (runF_fit hwf _)) rfl ?_ ?_ ?_ ?_) | (refine gcall_ro e80 ( putOf_p g (runF g d (ts.take k)).1 (ts[k]!).pos (ts[k]!).b (runF_fit hwf _)) rfl ?_ ?_ ?_ ?_) | (refine dcall_ro e80 ( putOf_p g (runF g d (ts.take k)).1 (ts[k]!).pos (ts[k]!).b (runF_fit hwf _)) rfl ?_ ?_ ?_ ?_) | (refine gdcall_ro rfl e80 ( putOf_p g (runF g d (ts.take k)).1 (ts[k]!).pos (ts[k]!).b (runF_fit hwf _)) rfl ?_ ?_ ?_ ?_) | (refine loop_nat (ts.length) (fun k => (runF g d (ts.take k)).2 = 0) (fun k => [(4, .lp (B + 4) 0), (2, .d (.ro (ts.map TodD.row))), (11, I k), (5, .lp (B + 5) 0), (7, .lp (B + 7) 0), (8, .lp (B + 8) 0), (9, .lp (B + 9) 0)]) (fun k => [(B + 4, .box g.cells), (B + 5, .box (runF g d (ts.take k)).1.cells), (B + 7, .box j.cells), (B + 8, .box [.d (.v (.slice none 0 0)), .d (.v (.slice none 0 0)), .d (.v (.slice none 0 0)), I 0]), (B + 9, .box [I 0, I 0, I 0, I 0, I 0, I 0, I 0, I 0, I 0])]) ?_ (Wk.keep hcl ?_ ?_ ?_) fun k hk hF => ?_; rotate_left 1; (focus (simp [Fr.get, newF, Fr.map, AV.kill, AV.mapN, GeoD.av, GeoD.cells, DevD.av, DevD.cells, JrnD.av, JrnD.cells, TodD.row, bytes, HQ_yn, HQ_yr, Loc.nz, AO.nz, bne_self_eq_false, runF_nil] <;> fail)); (focus (simp [sto, newL, Loc.kill, Loc.set, AO.kill, AV.kill, AV.mapN, GeoD.av, GeoD.cells, DevD.av, DevD.cells, JrnD.av, JrnD.cells, TodD.row, bytes, HQ_yn, HQ_yr, Loc.nz, AO.nz, bne_self_eq_false, runF_nil] <;> fail)); (focus (simp [newL, Loc.kill, Loc.set, GeoD.av, GeoD.cells, DevD.av, DevD.cells, JrnD.av, JrnD.cells, TodD.row, bytes, HQ_yn, HQ_yr, Loc.nz, AO.nz, bne_self_eq_false, runF_nil] <;> fail)); (try have hw : IntKind.i64.wrap ((k : Int) + 1) = (k : Int) + 1 := IntWalk.i64_in _ (by omega))) | (refine EndX.plain ?_) | (refine nil_split (fun hn => ?_) (fun hn => ?_)) | (refine gcall_no not_false ?_) | (refine gdcall_no not_false ?_) | (refine GuardS_of _ _ _ _ _ _ (fun hg => ?_) (fun hg => ?_)) | (refine GuardD_of _ _ _ _ (fun hg => ?_) (fun hg => ?_)) | (refine CondB_of _ _ _ _ _ _ _ ?_ (fun hg => ?_) (fun hg => ?_)))
  all_goals (try (first | ((first | unfold noN | unfold Fr.below | unfold Loc.below); simp [Fr.allN, AV.allN, AV.allNL, AO.allN]; done) | rfl | trivial | assumption | (intro row hrow; simp only [List.mem_map] at hrow; obtain ⟨x, _, rfl⟩ := hrow; rfl) | (refine Wk.keep hcl ?_ ?_ ?_; (focus (simp [Fr.get, GeoD.av, GeoD.cells, DevD.av, DevD.cells, JrnD.av, JrnD.cells, TodD.row, bytes, HQ_yn, HQ_yr, Loc.nz, AO.nz, bne_self_eq_false, runF_nil] <;> fail)); (focus (simp [sto, GeoD.av, GeoD.cells, DevD.av, DevD.cells, JrnD.av, JrnD.cells, TodD.row, bytes, HQ_yn, HQ_yr, Loc.nz, AO.nz, bne_self_eq_false, runF_nil] <;> fail)); (focus (simp <;> fail))) | (simp [allP, opd, Fr.get, Fr.below, Fr.allN, AV.allN, AV.allNL, Loc.below, AO.allN, noN, killO, killT, killD, mkNames, AO.kill, AV.kill, AV.mapN, AV.mapNL]; done) | (with_reducible exact ltD (by assumption)) | omega | (simp only [decide_eq_true_eq, decide_eq_false_iff_not] at *; omega)))
  all_goals first
    | (simp [avName, loadNames, opd, Fr.get]; done)
    | exact done_10 (run_no hF (dltL (by assumption)) (step_fl (by assumption)).1 (ne10 (by assumption))) (by assumption)
    | exact done_10 (run_no hF (dltL (by assumption)) (step_pu (by assumption)).1 (ne10 (by assumption))) (by assumption)
    | exact done_e (run_no hF (dltL (by assumption)) (step_fl (by assumption)).1 (neB (by assumption))) (by assumption) (neB (by assumption))
    | exact done_e (run_no hF (dltL (by assumption)) (step_pu (by assumption)).1 (neB (by assumption))) (by assumption) (neB (by assumption))
    | (rw [run_go hF (dltL (by assumption)) (step_fl (by assumption)).1 hg]; done)
    | (rw [run_go hF (dltL (by assumption)) (step_pu (by assumption)).1 hg]; done)
    | (rw [run_go hF (dltL (by assumption)) (step_fl (by assumption)).1 hg, (step_fl (by assumption)).2]
       refine Wk.keep hcl (by simp [Fr.get]) (by simp [sto]) (by simp))
    | (rw [run_go hF (dltL (by assumption)) (step_pu (by assumption)).1 hg, (step_pu (by assumption)).2]
       refine Wk.keep hcl (by simp [Fr.get]) (by simp [sto]) (by simp))
    | (rw [run_all hk hg]; exact done_0 hF)
attribute [irreducible] stepF
end Go.Proofs.Ytkcfnhfbdcnhjaa
