/- Bytes cut into pieces of 64. -/
import Derived.Test.YtkcfnhfbdcnhjaaBase
import Derived.Test.YtkcfnhfbdcnhjaaTypes
namespace Go.Proofs.Ytkcfnhfbdcnhjaa
open Go.RowKit
set_option maxRecDepth 100000
/-- icehouse_icehouseref.chunk -/
def c47_1 : SC := (.reg [SO.mk (some 19) (.move (.tmp 0)) none, SO.mk (some 20) (.len 29 (.tmp 19)) none, SO.mk (some 7) (.move (.tmp 20)) none])
theorem u47_1 (P : Program) (B : Nat) (T0 : List Nat) (r : Sto) (Q : Ex → Fr → Loc → Prop) (a : Fr) (l : Loc) : SW P B T0 r c47_1 Q a l = SW P B T0 r (.reg [SO.mk (some 19) (.move (.tmp 0)) none, SO.mk (some 20) (.len 29 (.tmp 19)) none, SO.mk (some 7) (.move (.tmp 20)) none]) Q a l := (rfl)
def c47_2 : SC := (.cond (.tmp 18) c47_1 .skip)
theorem u47_2 (P : Program) (B : Nat) (T0 : List Nat) (r : Sto) (Q : Ex → Fr → Loc → Prop) (a : Fr) (l : Loc) : SW P B T0 r c47_2 Q a l = SW P B T0 r (.cond (.tmp 18) c47_1 .skip) Q a l := (rfl)
def c47_3 : SC := (.reg [SO.mk (some 25) (.move (.tmp 0)) none, SO.mk (some 26) (.len 29 (.tmp 25)) none, SO.mk (some 8) (.move (.tmp 26)) none])
theorem u47_3 (P : Program) (B : Nat) (T0 : List Nat) (r : Sto) (Q : Ex → Fr → Loc → Prop) (a : Fr) (l : Loc) : SW P B T0 r c47_3 Q a l = SW P B T0 r (.reg [SO.mk (some 25) (.move (.tmp 0)) none, SO.mk (some 26) (.len 29 (.tmp 25)) none, SO.mk (some 8) (.move (.tmp 26)) none]) Q a l := (rfl)
def c47_4 : SC := (.cond (.tmp 24) c47_3 .skip)
theorem u47_4 (P : Program) (B : Nat) (T0 : List Nat) (r : Sto) (Q : Ex → Fr → Loc → Prop) (a : Fr) (l : Loc) : SW P B T0 r c47_4 Q a l = SW P B T0 r (.cond (.tmp 24) c47_3 .skip) Q a l := (rfl)
def c47_5 : SC := (.seq (.reg [SO.mk (some 27) (.move (.tmp 0)) none, SO.mk (some 28) (.move (.tmp 7)) none, SO.mk (some 29) (.move (.tmp 8)) none, SO.mk (some 30) (.slice 29 (.tmp 27) (some (.tmp 28)) (some (.tmp 29))) none, SO.mk (some 6) (.move (.tmp 30)) none]) (.keep [6] .ret))
theorem u47_5 (P : Program) (B : Nat) (T0 : List Nat) (r : Sto) (Q : Ex → Fr → Loc → Prop) (a : Fr) (l : Loc) : SW P B T0 r c47_5 Q a l = SW P B T0 r (.seq (.reg [SO.mk (some 27) (.move (.tmp 0)) none, SO.mk (some 28) (.move (.tmp 7)) none, SO.mk (some 29) (.move (.tmp 8)) none, SO.mk (some 30) (.slice 29 (.tmp 27) (some (.tmp 28)) (some (.tmp 29))) none, SO.mk (some 6) (.move (.tmp 30)) none]) (.keep [6] .ret)) Q a l := (rfl)
def c47_6 : SC := (.seq (.seq (.reg [SO.mk (some 21) (.move (.tmp 8)) none, SO.mk (some 22) (.move (.tmp 0)) none, SO.mk (some 23) (.len 29 (.tmp 22)) none, SO.mk (some 24) (.bin .gtr 3 (.tmp 21) (.tmp 23)) none]) (.keep [24, 0, 7, 8] c47_4)) (.keep [0, 7, 8] c47_5))
theorem u47_6 (P : Program) (B : Nat) (T0 : List Nat) (r : Sto) (Q : Ex → Fr → Loc → Prop) (a : Fr) (l : Loc) : SW P B T0 r c47_6 Q a l = SW P B T0 r (.seq (.seq (.reg [SO.mk (some 21) (.move (.tmp 8)) none, SO.mk (some 22) (.move (.tmp 0)) none, SO.mk (some 23) (.len 29 (.tmp 22)) none, SO.mk (some 24) (.bin .gtr 3 (.tmp 21) (.tmp 23)) none]) (.keep [24, 0, 7, 8] c47_4)) (.keep [0, 7, 8] c47_5)) Q a l := (rfl)
def c47_7 : SC := (.seq (.seq (.reg [SO.mk (some 15) (.move (.tmp 7)) none, SO.mk (some 16) (.move (.tmp 0)) none, SO.mk (some 17) (.len 29 (.tmp 16)) none, SO.mk (some 18) (.bin .gtr 3 (.tmp 15) (.tmp 17)) none]) (.keep [18, 0, 7, 8] c47_2)) (.keep [0, 7, 8] c47_6))
theorem u47_7 (P : Program) (B : Nat) (T0 : List Nat) (r : Sto) (Q : Ex → Fr → Loc → Prop) (a : Fr) (l : Loc) : SW P B T0 r c47_7 Q a l = SW P B T0 r (.seq (.seq (.reg [SO.mk (some 15) (.move (.tmp 7)) none, SO.mk (some 16) (.move (.tmp 0)) none, SO.mk (some 17) (.len 29 (.tmp 16)) none, SO.mk (some 18) (.bin .gtr 3 (.tmp 15) (.tmp 17)) none]) (.keep [18, 0, 7, 8] c47_2)) (.keep [0, 7, 8] c47_6)) Q a l := (rfl)
def c47_8 : SC := (.seq (.reg [SO.mk (some 12) (.move (.tmp 7)) none, SO.mk (some 13) (.move (.tmp 2)) none, SO.mk (some 14) (.bin .add 3 (.tmp 12) (.tmp 13)) none, SO.mk (some 8) (.move (.tmp 14)) none]) (.keep [0, 7, 8] c47_7))
theorem u47_8 (P : Program) (B : Nat) (T0 : List Nat) (r : Sto) (Q : Ex → Fr → Loc → Prop) (a : Fr) (l : Loc) : SW P B T0 r c47_8 Q a l = SW P B T0 r (.seq (.reg [SO.mk (some 12) (.move (.tmp 7)) none, SO.mk (some 13) (.move (.tmp 2)) none, SO.mk (some 14) (.bin .add 3 (.tmp 12) (.tmp 13)) none, SO.mk (some 8) (.move (.tmp 14)) none]) (.keep [0, 7, 8] c47_7)) Q a l := (rfl)
def c47_9 : SC := (.seq (.reg [SO.mk (some 9) (.move (.tmp 1)) none, SO.mk (some 10) (.move (.tmp 2)) none, SO.mk (some 11) (.bin .mul 3 (.tmp 9) (.tmp 10)) none, SO.mk (some 7) (.move (.tmp 11)) none]) (.keep [2, 0, 7] c47_8))
theorem u47_9 (P : Program) (B : Nat) (T0 : List Nat) (r : Sto) (Q : Ex → Fr → Loc → Prop) (a : Fr) (l : Loc) : SW P B T0 r c47_9 Q a l = SW P B T0 r (.seq (.reg [SO.mk (some 9) (.move (.tmp 1)) none, SO.mk (some 10) (.move (.tmp 2)) none, SO.mk (some 11) (.bin .mul 3 (.tmp 9) (.tmp 10)) none, SO.mk (some 7) (.move (.tmp 11)) none]) (.keep [2, 0, 7] c47_8)) Q a l := (rfl)
def c47 : SC := (.seq (.reg [SO.mk (some 6) (.move (.const (Value.slice none 0 0))) none]) (.keep [1, 2, 0] c47_9))
theorem c47_eq : annC Try.f47 = some c47 := by kernel_rfl
theorem r47 : Try.f47.results.toList = [.tmp 6] := by kernel_rfl
theorem e47 : enters Try.prog 47 = true := by kernel_rfl
end Go.Proofs.Ytkcfnhfbdcnhjaa
namespace Go.Proofs.Ytkcfnhfbdcnhjaa
open Go.RowKit
set_option maxHeartbeats 4000000
set_option maxRecDepth 20000
attribute [local irreducible] SW SWL SWLn SWD SEcall SEcallv SDv SE SO1 SOg ACalls ACallv Wk EndV
set_option linter.unusedSimpArgs false
set_option linter.unusedVariables false
theorem Rows_byK (l : List UInt8) : Rows (l.map by_) 1 = True := by
  refine eq_true ?_
  intro r hr
  simp only [List.mem_map] at hr; obtain ⟨x, _, rfl⟩ := hr; rfl
end Go.Proofs.Ytkcfnhfbdcnhjaa
