/- The code of functions, without its places in the text. -/
import Derived.Test.YtlnkebnkjofaiaaTypes
namespace Go.Proofs.Ytlnkebnkjofaiaa
open Go.RowKit
set_option maxRecDepth 100000
/-- slices.Clone___int_int_ -/
def c9_1 : SC := (.seq (.reg [SO.mk (some 2) (.move (.const (Value.slice none 0 0))) none]) (.keep [2] .ret))
theorem u9_1 (P : Program) (B : Nat) (T0 : List Nat) (r : Sto) (Q : Ex → Fr → Loc → Prop) (a : Fr) (l : Loc) : SW P B T0 r c9_1 Q a l = SW P B T0 r (.seq (.reg [SO.mk (some 2) (.move (.const (Value.slice none 0 0))) none]) (.keep [2] .ret)) Q a l := (rfl)
def c9_2 : SC := (.cond (.tmp 4) c9_1 .skip)
theorem u9_2 (P : Program) (B : Nat) (T0 : List Nat) (r : Sto) (Q : Ex → Fr → Loc → Prop) (a : Fr) (l : Loc) : SW P B T0 r c9_2 Q a l = SW P B T0 r (.cond (.tmp 4) c9_1 .skip) Q a l := (rfl)
def c9_3 : SC := (.seq (.reg [SO.mk (some 5) (.bslice 24 0 []) none, SO.mk (some 6) (.move (.tmp 0)) none, SO.mk (some 7) (.app 24 24 (.tmp 5) (.tmp 6)) none, SO.mk (some 2) (.move (.tmp 7)) none]) (.keep [2] .ret))
theorem u9_3 (P : Program) (B : Nat) (T0 : List Nat) (r : Sto) (Q : Ex → Fr → Loc → Prop) (a : Fr) (l : Loc) : SW P B T0 r c9_3 Q a l = SW P B T0 r (.seq (.reg [SO.mk (some 5) (.bslice 24 0 []) none, SO.mk (some 6) (.move (.tmp 0)) none, SO.mk (some 7) (.app 24 24 (.tmp 5) (.tmp 6)) none, SO.mk (some 2) (.move (.tmp 7)) none]) (.keep [2] .ret)) Q a l := (rfl)
def c9_4 : SC := (.seq (.seq (.reg [SO.mk (some 3) (.move (.tmp 0)) none, SO.mk (some 4) (.bin .eql 24 (.tmp 3) (.const (Value.slice none 0 0))) none]) (.keep [4, 0] c9_2)) (.keep [0] c9_3))
theorem u9_4 (P : Program) (B : Nat) (T0 : List Nat) (r : Sto) (Q : Ex → Fr → Loc → Prop) (a : Fr) (l : Loc) : SW P B T0 r c9_4 Q a l = SW P B T0 r (.seq (.seq (.reg [SO.mk (some 3) (.move (.tmp 0)) none, SO.mk (some 4) (.bin .eql 24 (.tmp 3) (.const (Value.slice none 0 0))) none]) (.keep [4, 0] c9_2)) (.keep [0] c9_3)) Q a l := (rfl)
def c9 : SC := (.seq (.reg [SO.mk (some 2) (.move (.const (Value.slice none 0 0))) none]) (.keep [0] c9_4))
theorem c9_eq : annC Try.f9 = some c9 := by kernel_rfl
theorem r9 : Try.f9.results.toList = [.tmp 2] := by kernel_rfl
theorem e9 : enters Try.prog 9 = true := by kernel_rfl
/-- slices.Clone___icehouse_api.Bucket_icehouse_api.Bucket_ -/
def c7_1 : SC := (.seq (.reg [SO.mk (some 2) (.move (.const (Value.slice none 0 0))) none]) (.keep [2] .ret))
theorem u7_1 (P : Program) (B : Nat) (T0 : List Nat) (r : Sto) (Q : Ex → Fr → Loc → Prop) (a : Fr) (l : Loc) : SW P B T0 r c7_1 Q a l = SW P B T0 r (.seq (.reg [SO.mk (some 2) (.move (.const (Value.slice none 0 0))) none]) (.keep [2] .ret)) Q a l := (rfl)
def c7_2 : SC := (.cond (.tmp 4) c7_1 .skip)
theorem u7_2 (P : Program) (B : Nat) (T0 : List Nat) (r : Sto) (Q : Ex → Fr → Loc → Prop) (a : Fr) (l : Loc) : SW P B T0 r c7_2 Q a l = SW P B T0 r (.cond (.tmp 4) c7_1 .skip) Q a l := (rfl)
def c7_3 : SC := (.seq (.reg [SO.mk (some 5) (.bslice 26 0 []) none, SO.mk (some 6) (.move (.tmp 0)) none, SO.mk (some 7) (.app 26 26 (.tmp 5) (.tmp 6)) none, SO.mk (some 2) (.move (.tmp 7)) none]) (.keep [2] .ret))
theorem u7_3 (P : Program) (B : Nat) (T0 : List Nat) (r : Sto) (Q : Ex → Fr → Loc → Prop) (a : Fr) (l : Loc) : SW P B T0 r c7_3 Q a l = SW P B T0 r (.seq (.reg [SO.mk (some 5) (.bslice 26 0 []) none, SO.mk (some 6) (.move (.tmp 0)) none, SO.mk (some 7) (.app 26 26 (.tmp 5) (.tmp 6)) none, SO.mk (some 2) (.move (.tmp 7)) none]) (.keep [2] .ret)) Q a l := (rfl)
def c7_4 : SC := (.seq (.seq (.reg [SO.mk (some 3) (.move (.tmp 0)) none, SO.mk (some 4) (.bin .eql 26 (.tmp 3) (.const (Value.slice none 0 0))) none]) (.keep [4, 0] c7_2)) (.keep [0] c7_3))
theorem u7_4 (P : Program) (B : Nat) (T0 : List Nat) (r : Sto) (Q : Ex → Fr → Loc → Prop) (a : Fr) (l : Loc) : SW P B T0 r c7_4 Q a l = SW P B T0 r (.seq (.seq (.reg [SO.mk (some 3) (.move (.tmp 0)) none, SO.mk (some 4) (.bin .eql 26 (.tmp 3) (.const (Value.slice none 0 0))) none]) (.keep [4, 0] c7_2)) (.keep [0] c7_3)) Q a l := (rfl)
def c7 : SC := (.seq (.reg [SO.mk (some 2) (.move (.const (Value.slice none 0 0))) none]) (.keep [0] c7_4))
theorem c7_eq : annC Try.f7 = some c7 := by kernel_rfl
theorem r7 : Try.f7.results.toList = [.tmp 2] := by kernel_rfl
theorem e7 : enters Try.prog 7 = true := by kernel_rfl
/-- slices.Clone___icehouse_api.Ask_icehouse_api.Ask_ -/
def c8_1 : SC := (.seq (.reg [SO.mk (some 2) (.move (.const (Value.slice none 0 0))) none]) (.keep [2] .ret))
theorem u8_1 (P : Program) (B : Nat) (T0 : List Nat) (r : Sto) (Q : Ex → Fr → Loc → Prop) (a : Fr) (l : Loc) : SW P B T0 r c8_1 Q a l = SW P B T0 r (.seq (.reg [SO.mk (some 2) (.move (.const (Value.slice none 0 0))) none]) (.keep [2] .ret)) Q a l := (rfl)
def c8_2 : SC := (.cond (.tmp 4) c8_1 .skip)
theorem u8_2 (P : Program) (B : Nat) (T0 : List Nat) (r : Sto) (Q : Ex → Fr → Loc → Prop) (a : Fr) (l : Loc) : SW P B T0 r c8_2 Q a l = SW P B T0 r (.cond (.tmp 4) c8_1 .skip) Q a l := (rfl)
def c8_3 : SC := (.seq (.reg [SO.mk (some 5) (.bslice 29 0 []) none, SO.mk (some 6) (.move (.tmp 0)) none, SO.mk (some 7) (.app 29 29 (.tmp 5) (.tmp 6)) none, SO.mk (some 2) (.move (.tmp 7)) none]) (.keep [2] .ret))
theorem u8_3 (P : Program) (B : Nat) (T0 : List Nat) (r : Sto) (Q : Ex → Fr → Loc → Prop) (a : Fr) (l : Loc) : SW P B T0 r c8_3 Q a l = SW P B T0 r (.seq (.reg [SO.mk (some 5) (.bslice 29 0 []) none, SO.mk (some 6) (.move (.tmp 0)) none, SO.mk (some 7) (.app 29 29 (.tmp 5) (.tmp 6)) none, SO.mk (some 2) (.move (.tmp 7)) none]) (.keep [2] .ret)) Q a l := (rfl)
def c8_4 : SC := (.seq (.seq (.reg [SO.mk (some 3) (.move (.tmp 0)) none, SO.mk (some 4) (.bin .eql 29 (.tmp 3) (.const (Value.slice none 0 0))) none]) (.keep [4, 0] c8_2)) (.keep [0] c8_3))
theorem u8_4 (P : Program) (B : Nat) (T0 : List Nat) (r : Sto) (Q : Ex → Fr → Loc → Prop) (a : Fr) (l : Loc) : SW P B T0 r c8_4 Q a l = SW P B T0 r (.seq (.seq (.reg [SO.mk (some 3) (.move (.tmp 0)) none, SO.mk (some 4) (.bin .eql 29 (.tmp 3) (.const (Value.slice none 0 0))) none]) (.keep [4, 0] c8_2)) (.keep [0] c8_3)) Q a l := (rfl)
def c8 : SC := (.seq (.reg [SO.mk (some 2) (.move (.const (Value.slice none 0 0))) none]) (.keep [0] c8_4))
theorem c8_eq : annC Try.f8 = some c8 := by kernel_rfl
theorem r8 : Try.f8.results.toList = [.tmp 2] := by kernel_rfl
theorem e8 : enters Try.prog 8 = true := by kernel_rfl
end Go.Proofs.Ytlnkebnkjofaiaa
