/- Bytes put one behind the other by slices.Concat. -/
import Derived.Test.YtkcfnhfbdcnhjaaBytes
import Derived.Test.YtkcfnhfbdcnhjaaTypes
namespace Go.Proofs.Ytkcfnhfbdcnhjaa
open Go.RowKit
set_option maxRecDepth 100000
/-- slices.Grow___byte_byte_ -/
def c90_1 : SC := (.reg [SO.mk (some 7) .bad none, SO.mk none .bad none])
theorem u90_1 (P : Program) (B : Nat) (T0 : List Nat) (r : Sto) (Q : Ex → Fr → Loc → Prop) (a : Fr) (l : Loc) : SW P B T0 r c90_1 Q a l = SW P B T0 r (.reg [SO.mk (some 7) .bad none, SO.mk none .bad none]) Q a l := (rfl)
def c90_2 : SC := (.cond (.tmp 6) c90_1 .skip)
theorem u90_2 (P : Program) (B : Nat) (T0 : List Nat) (r : Sto) (Q : Ex → Fr → Loc → Prop) (a : Fr) (l : Loc) : SW P B T0 r c90_2 Q a l = SW P B T0 r (.cond (.tmp 6) c90_1 .skip) Q a l := (rfl)
def o90_3 : List SO := ((SO.mk (some 12) (.len 29 (.tmp 11)) none) :: (SO.mk (some 13) (.bin .sub 3 (.tmp 10) (.tmp 12)) none) :: (SO.mk (some 14) (.bin .sub 3 (.tmp 8) (.tmp 13)) none) :: (SO.mk (some 1) (.move (.tmp 14)) none) :: [])
theorem v90_3 (P : Program) (B : Nat) (T0 : List Nat) (r : Sto) (K : Fr → Loc → Prop) (a : Fr) (l : Loc) : SWL P B T0 r o90_3 K a l = SWL P B T0 r ((SO.mk (some 12) (.len 29 (.tmp 11)) none) :: (SO.mk (some 13) (.bin .sub 3 (.tmp 10) (.tmp 12)) none) :: (SO.mk (some 14) (.bin .sub 3 (.tmp 8) (.tmp 13)) none) :: (SO.mk (some 1) (.move (.tmp 14)) none) :: []) K a l := (rfl)
def o90_4 : List SO := ((SO.mk (some 25) (.slice 29 (.tmp 22) none (some (.tmp 24))) none) :: (SO.mk (some 0) (.move (.tmp 25)) none) :: [])
theorem v90_4 (P : Program) (B : Nat) (T0 : List Nat) (r : Sto) (K : Fr → Loc → Prop) (a : Fr) (l : Loc) : SWL P B T0 r o90_4 K a l = SWL P B T0 r ((SO.mk (some 25) (.slice 29 (.tmp 22) none (some (.tmp 24))) none) :: (SO.mk (some 0) (.move (.tmp 25)) none) :: []) K a l := (rfl)
def o90_5 : List SO := ((SO.mk (some 21) (.move (.tmp 1)) none) :: (SO.mk (some 22) (.app 29 3 (.tmp 20) (.tmp 21)) none) :: (SO.mk (some 23) (.move (.tmp 0)) none) :: (SO.mk (some 24) (.len 29 (.tmp 23)) none) :: o90_4)
theorem v90_5 (P : Program) (B : Nat) (T0 : List Nat) (r : Sto) (K : Fr → Loc → Prop) (a : Fr) (l : Loc) : SWL P B T0 r o90_5 K a l = SWL P B T0 r ((SO.mk (some 21) (.move (.tmp 1)) none) :: (SO.mk (some 22) (.app 29 3 (.tmp 20) (.tmp 21)) none) :: (SO.mk (some 23) (.move (.tmp 0)) none) :: (SO.mk (some 24) (.len 29 (.tmp 23)) none) :: o90_4) K a l := (rfl)
def c90_6 : SC := (.reg ((SO.mk (some 17) (.move (.tmp 0)) none) :: (SO.mk (some 18) (.move (.tmp 0)) none) :: (SO.mk (some 19) (.cap 29 (.tmp 18)) none) :: (SO.mk (some 20) (.slice 29 (.tmp 17) none (some (.tmp 19))) none) :: o90_5))
theorem u90_6 (P : Program) (B : Nat) (T0 : List Nat) (r : Sto) (Q : Ex → Fr → Loc → Prop) (a : Fr) (l : Loc) : SW P B T0 r c90_6 Q a l = SW P B T0 r (.reg ((SO.mk (some 17) (.move (.tmp 0)) none) :: (SO.mk (some 18) (.move (.tmp 0)) none) :: (SO.mk (some 19) (.cap 29 (.tmp 18)) none) :: (SO.mk (some 20) (.slice 29 (.tmp 17) none (some (.tmp 19))) none) :: o90_5)) Q a l := (rfl)
def c90_7 : SC := (.cond (.tmp 16) c90_6 .skip)
theorem u90_7 (P : Program) (B : Nat) (T0 : List Nat) (r : Sto) (Q : Ex → Fr → Loc → Prop) (a : Fr) (l : Loc) : SW P B T0 r c90_7 Q a l = SW P B T0 r (.cond (.tmp 16) c90_6 .skip) Q a l := (rfl)
def c90_8 : SC := (.seq (.reg [SO.mk (some 15) (.move (.tmp 1)) none, SO.mk (some 16) (.bin .gtr 3 (.tmp 15) (.const (Value.int .i64 0))) none]) (.keep [16, 1, 0] c90_7))
theorem u90_8 (P : Program) (B : Nat) (T0 : List Nat) (r : Sto) (Q : Ex → Fr → Loc → Prop) (a : Fr) (l : Loc) : SW P B T0 r c90_8 Q a l = SW P B T0 r (.seq (.reg [SO.mk (some 15) (.move (.tmp 1)) none, SO.mk (some 16) (.bin .gtr 3 (.tmp 15) (.const (Value.int .i64 0))) none]) (.keep [16, 1, 0] c90_7)) Q a l := (rfl)
def c90_9 : SC := (.seq (.reg [SO.mk (some 26) (.move (.tmp 0)) none, SO.mk (some 4) (.move (.tmp 26)) none]) (.keep [4] .ret))
theorem u90_9 (P : Program) (B : Nat) (T0 : List Nat) (r : Sto) (Q : Ex → Fr → Loc → Prop) (a : Fr) (l : Loc) : SW P B T0 r c90_9 Q a l = SW P B T0 r (.seq (.reg [SO.mk (some 26) (.move (.tmp 0)) none, SO.mk (some 4) (.move (.tmp 26)) none]) (.keep [4] .ret)) Q a l := (rfl)
def c90_10 : SC := (.seq (.seq (.reg ((SO.mk (some 8) (.move (.tmp 1)) none) :: (SO.mk (some 9) (.move (.tmp 0)) none) :: (SO.mk (some 10) (.cap 29 (.tmp 9)) none) :: (SO.mk (some 11) (.move (.tmp 0)) none) :: o90_3)) (.keep [1, 0] c90_8)) (.keep [0] c90_9))
theorem u90_10 (P : Program) (B : Nat) (T0 : List Nat) (r : Sto) (Q : Ex → Fr → Loc → Prop) (a : Fr) (l : Loc) : SW P B T0 r c90_10 Q a l = SW P B T0 r (.seq (.seq (.reg ((SO.mk (some 8) (.move (.tmp 1)) none) :: (SO.mk (some 9) (.move (.tmp 0)) none) :: (SO.mk (some 10) (.cap 29 (.tmp 9)) none) :: (SO.mk (some 11) (.move (.tmp 0)) none) :: o90_3)) (.keep [1, 0] c90_8)) (.keep [0] c90_9)) Q a l := (rfl)
def c90_11 : SC := (.seq (.seq (.reg [SO.mk (some 5) (.move (.tmp 1)) none, SO.mk (some 6) (.bin .lss 3 (.tmp 5) (.const (Value.int .i64 0))) none]) (.keep [6, 1, 0] c90_2)) (.keep [1, 0] c90_10))
theorem u90_11 (P : Program) (B : Nat) (T0 : List Nat) (r : Sto) (Q : Ex → Fr → Loc → Prop) (a : Fr) (l : Loc) : SW P B T0 r c90_11 Q a l = SW P B T0 r (.seq (.seq (.reg [SO.mk (some 5) (.move (.tmp 1)) none, SO.mk (some 6) (.bin .lss 3 (.tmp 5) (.const (Value.int .i64 0))) none]) (.keep [6, 1, 0] c90_2)) (.keep [1, 0] c90_10)) Q a l := (rfl)
def c90 : SC := (.seq (.reg [SO.mk (some 4) (.move (.const (Value.slice none 0 0))) none]) (.keep [1, 0] c90_11))
theorem c90_eq : annC Try.f90 = some c90 := by kernel_rfl
theorem r90 : Try.f90.results.toList = [.tmp 4] := by kernel_rfl
theorem e90 : enters Try.prog 90 = true := by kernel_rfl
/-- slices.Concat___byte_byte_ -/
def c81_1 : SC := (.reg [SO.mk (some 21) .bad none, SO.mk none .bad none])
theorem u81_1 (P : Program) (B : Nat) (T0 : List Nat) (r : Sto) (Q : Ex → Fr → Loc → Prop) (a : Fr) (l : Loc) : SW P B T0 r c81_1 Q a l = SW P B T0 r (.reg [SO.mk (some 21) .bad none, SO.mk none .bad none]) Q a l := (rfl)
def c81_2 : SC := (.cond (.tmp 20) c81_1 .skip)
theorem u81_2 (P : Program) (B : Nat) (T0 : List Nat) (r : Sto) (Q : Ex → Fr → Loc → Prop) (a : Fr) (l : Loc) : SW P B T0 r c81_2 Q a l = SW P B T0 r (.cond (.tmp 20) c81_1 .skip) Q a l := (rfl)
def c81_3 : SC := (.seq (.reg [SO.mk (some 19) (.move (.tmp 3)) none, SO.mk (some 20) (.bin .lss 3 (.tmp 19) (.const (Value.int .i64 0))) none]) (.keep [20, 11, 10, 9, 3, 0] c81_2))
theorem u81_3 (P : Program) (B : Nat) (T0 : List Nat) (r : Sto) (Q : Ex → Fr → Loc → Prop) (a : Fr) (l : Loc) : SW P B T0 r c81_3 Q a l = SW P B T0 r (.seq (.reg [SO.mk (some 19) (.move (.tmp 3)) none, SO.mk (some 20) (.bin .lss 3 (.tmp 19) (.const (Value.int .i64 0))) none]) (.keep [20, 11, 10, 9, 3, 0] c81_2)) Q a l := (rfl)
def c81_4 : SC := (.seq (.reg [SO.mk (some 15) (.move (.tmp 3)) none, SO.mk (some 16) (.move (.tmp 5)) none, SO.mk (some 17) (.len 29 (.tmp 16)) none, SO.mk (some 18) (.bin .add 3 (.tmp 15) (.tmp 17)) none, SO.mk (some 3) (.move (.tmp 18)) none]) (.keep [11, 10, 9, 3, 0] c81_3))
theorem u81_4 (P : Program) (B : Nat) (T0 : List Nat) (r : Sto) (Q : Ex → Fr → Loc → Prop) (a : Fr) (l : Loc) : SW P B T0 r c81_4 Q a l = SW P B T0 r (.seq (.reg [SO.mk (some 15) (.move (.tmp 3)) none, SO.mk (some 16) (.move (.tmp 5)) none, SO.mk (some 17) (.len 29 (.tmp 16)) none, SO.mk (some 18) (.bin .add 3 (.tmp 15) (.tmp 17)) none, SO.mk (some 3) (.move (.tmp 18)) none]) (.keep [11, 10, 9, 3, 0] c81_3)) Q a l := (rfl)
def c81_5 : SC := (.reg [SO.mk (some 22) (.bin .add 3 (.tmp 11) (.const (Value.int .i64 1))) none, SO.mk (some 11) (.move (.tmp 22)) none])
theorem u81_5 (P : Program) (B : Nat) (T0 : List Nat) (r : Sto) (Q : Ex → Fr → Loc → Prop) (a : Fr) (l : Loc) : SW P B T0 r c81_5 Q a l = SW P B T0 r (.reg [SO.mk (some 22) (.bin .add 3 (.tmp 11) (.const (Value.int .i64 1))) none, SO.mk (some 11) (.move (.tmp 22)) none]) Q a l := (rfl)
def c81_6 : SC := (.seq (.block 1 (.seq (.reg [SO.mk (some 13) (.iaddr 24 (.tmp 9) (.tmp 11)) none, SO.mk (some 14) (.load 29 (.tmp 13)) none, SO.mk (some 5) (.move (.tmp 14)) none]) (.keep [3, 5, 11, 10, 9, 0] c81_4))) (.keep [11, 10, 9, 3, 0] c81_5))
theorem u81_6 (P : Program) (B : Nat) (T0 : List Nat) (r : Sto) (Q : Ex → Fr → Loc → Prop) (a : Fr) (l : Loc) : SW P B T0 r c81_6 Q a l = SW P B T0 r (.seq (.block 1 (.seq (.reg [SO.mk (some 13) (.iaddr 24 (.tmp 9) (.tmp 11)) none, SO.mk (some 14) (.load 29 (.tmp 13)) none, SO.mk (some 5) (.move (.tmp 14)) none]) (.keep [3, 5, 11, 10, 9, 0] c81_4))) (.keep [11, 10, 9, 3, 0] c81_5)) Q a l := (rfl)
def c81_7 : SC := (.seq (.cond (.tmp 12) .skip (.exit 0)) (.keep [3, 11, 10, 9, 0] c81_6))
theorem u81_7 (P : Program) (B : Nat) (T0 : List Nat) (r : Sto) (Q : Ex → Fr → Loc → Prop) (a : Fr) (l : Loc) : SW P B T0 r c81_7 Q a l = SW P B T0 r (.seq (.cond (.tmp 12) .skip (.exit 0)) (.keep [3, 11, 10, 9, 0] c81_6)) Q a l := (rfl)
def c81_8 : SC := (.seq (.reg [SO.mk (some 12) (.bin .lss 3 (.tmp 11) (.tmp 10)) none]) (.keep [12, 9, 10, 11, 3, 0] c81_7))
theorem u81_8 (P : Program) (B : Nat) (T0 : List Nat) (r : Sto) (Q : Ex → Fr → Loc → Prop) (a : Fr) (l : Loc) : SW P B T0 r c81_8 Q a l = SW P B T0 r (.seq (.reg [SO.mk (some 12) (.bin .lss 3 (.tmp 11) (.tmp 10)) none]) (.keep [12, 9, 10, 11, 3, 0] c81_7)) Q a l := (rfl)
def c81_9 : SC := (.block 0 (.loop (.keep [9, 10, 11, 3, 0] c81_8)))
theorem u81_9 (P : Program) (B : Nat) (T0 : List Nat) (r : Sto) (Q : Ex → Fr → Loc → Prop) (a : Fr) (l : Loc) : SW P B T0 r c81_9 Q a l = SW P B T0 r (.block 0 (.loop (.keep [9, 10, 11, 3, 0] c81_8))) Q a l := (rfl)
def c81_10 : SC := (.reg [SO.mk (some 31) (.move (.tmp 6)) none, SO.mk (some 32) (.move (.tmp 8)) none, SO.mk (some 33) (.app 29 29 (.tmp 31) (.tmp 32)) none, SO.mk (some 6) (.move (.tmp 33)) none])
theorem u81_10 (P : Program) (B : Nat) (T0 : List Nat) (r : Sto) (Q : Ex → Fr → Loc → Prop) (a : Fr) (l : Loc) : SW P B T0 r c81_10 Q a l = SW P B T0 r (.reg [SO.mk (some 31) (.move (.tmp 6)) none, SO.mk (some 32) (.move (.tmp 8)) none, SO.mk (some 33) (.app 29 29 (.tmp 31) (.tmp 32)) none, SO.mk (some 6) (.move (.tmp 33)) none]) Q a l := (rfl)
def c81_11 : SC := (.reg [SO.mk (some 34) (.bin .add 3 (.tmp 27) (.const (Value.int .i64 1))) none, SO.mk (some 27) (.move (.tmp 34)) none])
theorem u81_11 (P : Program) (B : Nat) (T0 : List Nat) (r : Sto) (Q : Ex → Fr → Loc → Prop) (a : Fr) (l : Loc) : SW P B T0 r c81_11 Q a l = SW P B T0 r (.reg [SO.mk (some 34) (.bin .add 3 (.tmp 27) (.const (Value.int .i64 1))) none, SO.mk (some 27) (.move (.tmp 34)) none]) Q a l := (rfl)
def c81_12 : SC := (.seq (.block 3 (.seq (.reg [SO.mk (some 29) (.iaddr 24 (.tmp 25) (.tmp 27)) none, SO.mk (some 30) (.load 29 (.tmp 29)) none, SO.mk (some 8) (.move (.tmp 30)) none]) (.keep [6, 8, 27, 26, 25] c81_10))) (.keep [27, 26, 25, 6] c81_11))
theorem u81_12 (P : Program) (B : Nat) (T0 : List Nat) (r : Sto) (Q : Ex → Fr → Loc → Prop) (a : Fr) (l : Loc) : SW P B T0 r c81_12 Q a l = SW P B T0 r (.seq (.block 3 (.seq (.reg [SO.mk (some 29) (.iaddr 24 (.tmp 25) (.tmp 27)) none, SO.mk (some 30) (.load 29 (.tmp 29)) none, SO.mk (some 8) (.move (.tmp 30)) none]) (.keep [6, 8, 27, 26, 25] c81_10))) (.keep [27, 26, 25, 6] c81_11)) Q a l := (rfl)
def c81_13 : SC := (.seq (.cond (.tmp 28) .skip (.exit 2)) (.keep [6, 27, 26, 25] c81_12))
theorem u81_13 (P : Program) (B : Nat) (T0 : List Nat) (r : Sto) (Q : Ex → Fr → Loc → Prop) (a : Fr) (l : Loc) : SW P B T0 r c81_13 Q a l = SW P B T0 r (.seq (.cond (.tmp 28) .skip (.exit 2)) (.keep [6, 27, 26, 25] c81_12)) Q a l := (rfl)
def c81_14 : SC := (.seq (.reg [SO.mk (some 28) (.bin .lss 3 (.tmp 27) (.tmp 26)) none]) (.keep [28, 25, 26, 27, 6] c81_13))
theorem u81_14 (P : Program) (B : Nat) (T0 : List Nat) (r : Sto) (Q : Ex → Fr → Loc → Prop) (a : Fr) (l : Loc) : SW P B T0 r c81_14 Q a l = SW P B T0 r (.seq (.reg [SO.mk (some 28) (.bin .lss 3 (.tmp 27) (.tmp 26)) none]) (.keep [28, 25, 26, 27, 6] c81_13)) Q a l := (rfl)
def c81_15 : SC := (.block 2 (.loop (.keep [25, 26, 27, 6] c81_14)))
theorem u81_15 (P : Program) (B : Nat) (T0 : List Nat) (r : Sto) (Q : Ex → Fr → Loc → Prop) (a : Fr) (l : Loc) : SW P B T0 r c81_15 Q a l = SW P B T0 r (.block 2 (.loop (.keep [25, 26, 27, 6] c81_14))) Q a l := (rfl)
def c81_16 : SC := (.seq (.reg [SO.mk (some 35) (.move (.tmp 6)) none, SO.mk (some 2) (.move (.tmp 35)) none]) (.keep [2] .ret))
theorem u81_16 (P : Program) (B : Nat) (T0 : List Nat) (r : Sto) (Q : Ex → Fr → Loc → Prop) (a : Fr) (l : Loc) : SW P B T0 r c81_16 Q a l = SW P B T0 r (.seq (.reg [SO.mk (some 35) (.move (.tmp 6)) none, SO.mk (some 2) (.move (.tmp 35)) none]) (.keep [2] .ret)) Q a l := (rfl)
def c81_17 : SC := (.seq (.seq (.reg [SO.mk (some 25) (.move (.tmp 0)) none, SO.mk (some 26) (.len 24 (.tmp 25)) none, SO.mk (some 27) (.move (.const (Value.int .i64 0))) none]) (.keep [25, 26, 27, 6] c81_15)) (.keep [6] c81_16))
theorem u81_17 (P : Program) (B : Nat) (T0 : List Nat) (r : Sto) (Q : Ex → Fr → Loc → Prop) (a : Fr) (l : Loc) : SW P B T0 r c81_17 Q a l = SW P B T0 r (.seq (.seq (.reg [SO.mk (some 25) (.move (.tmp 0)) none, SO.mk (some 26) (.len 24 (.tmp 25)) none, SO.mk (some 27) (.move (.const (Value.int .i64 0))) none]) (.keep [25, 26, 27, 6] c81_15)) (.keep [6] c81_16)) Q a l := (rfl)
def c81_18 : SC := (.seq (.reg [SO.mk (some 23) (.move (.tmp 3)) none, SO.mk (some 24) (.call 90 [(.const (Value.slice none 0 0)), (.tmp 23)]) none, SO.mk (some 6) (.move (.tmp 24)) none]) (.keep [0, 6] c81_17))
theorem u81_18 (P : Program) (B : Nat) (T0 : List Nat) (r : Sto) (Q : Ex → Fr → Loc → Prop) (a : Fr) (l : Loc) : SW P B T0 r c81_18 Q a l = SW P B T0 r (.seq (.reg [SO.mk (some 23) (.move (.tmp 3)) none, SO.mk (some 24) (.call 90 [(.const (Value.slice none 0 0)), (.tmp 23)]) none, SO.mk (some 6) (.move (.tmp 24)) none]) (.keep [0, 6] c81_17)) Q a l := (rfl)
def c81_19 : SC := (.seq (.seq (.reg [SO.mk (some 9) (.move (.tmp 0)) none, SO.mk (some 10) (.len 24 (.tmp 9)) none, SO.mk (some 11) (.move (.const (Value.int .i64 0))) none]) (.keep [9, 10, 11, 3, 0] c81_9)) (.keep [3, 0] c81_18))
theorem u81_19 (P : Program) (B : Nat) (T0 : List Nat) (r : Sto) (Q : Ex → Fr → Loc → Prop) (a : Fr) (l : Loc) : SW P B T0 r c81_19 Q a l = SW P B T0 r (.seq (.seq (.reg [SO.mk (some 9) (.move (.tmp 0)) none, SO.mk (some 10) (.len 24 (.tmp 9)) none, SO.mk (some 11) (.move (.const (Value.int .i64 0))) none]) (.keep [9, 10, 11, 3, 0] c81_9)) (.keep [3, 0] c81_18)) Q a l := (rfl)
def c81_20 : SC := (.seq (.reg [SO.mk (some 3) (.move (.const (Value.int .i64 0))) none]) (.keep [3, 0] c81_19))
theorem u81_20 (P : Program) (B : Nat) (T0 : List Nat) (r : Sto) (Q : Ex → Fr → Loc → Prop) (a : Fr) (l : Loc) : SW P B T0 r c81_20 Q a l = SW P B T0 r (.seq (.reg [SO.mk (some 3) (.move (.const (Value.int .i64 0))) none]) (.keep [3, 0] c81_19)) Q a l := (rfl)
def c81 : SC := (.seq (.reg [SO.mk (some 2) (.move (.const (Value.slice none 0 0))) none]) (.keep [0] c81_20))
theorem c81_eq : annC Try.f81 = some c81 := by kernel_rfl
theorem r81 : Try.f81.results.toList = [.tmp 2] := by kernel_rfl
theorem e81 : enters Try.prog 81 = true := by kernel_rfl
end Go.Proofs.Ytkcfnhfbdcnhjaa
namespace Go.Proofs.Ytkcfnhfbdcnhjaa
open Go.RowKit
set_option maxHeartbeats 4000000
set_option maxRecDepth 20000
attribute [local irreducible] SW SWL SWLn SWD SEcall SEcallv SDv SE SO1 SOg ACalls ACallv Wk EndV
set_option linter.unusedSimpArgs false
set_option linter.unusedVariables false
theorem EndX.of2 {P : Program} {B : Nat} {T : List Nat} {r : Sto} {rs : List ResultVar} {R : AV → Sto → Prop} {a a' : Fr} {l l' : Loc} (h : Wk B T r a l a' l') (h2 : EndV P B r rs R a' l') : EndX P B T r rs R a l := by
  unfold EndX; exact ⟨a', l', h, h2⟩
theorem nbC {m B : Nat} (h : m < B) (s : Nat) : (m = B + s) = False := by simp; omega
theorem nbC' {m B : Nat} (h : m < B) (s : Nat) : (B + s = m) = False := by simp; omega
def zr (n : Nat) : List (List RV) := List.replicate n [.v (.int .u8 0)]
theorem zr_eq (n : Nat) : List.replicate n [RV.v (.int .u8 0)] = zr n := rfl
theorem zr_len (n : Nat) : (zr n).length = n := by simp [zr]
theorem w0 : IntKind.i64.wrap 0 = 0 := rfl
theorem grow_own (n : Nat) (hn : n ≤ 2 ^ 47) (B : Nat) (σ : Sto) (m : Nat) (hm : m < B) (hk : ∀ x, (σ x).kill m = σ x) : ACalls Try.prog 90 [.d (.v (.slice none 0 0)), I n] σ B [m] (fun v σ' => v = .os m 0 ∧ σ' = sto [(m, .arr 1 5 (zr n))] σ) := by
  refine own_of follows Try.func90 c90_eq r90 (Nat.le_of_ble_eq_true rfl) fun hcl hsz => ?_
  clear hsz
  have y1 := nbC hm
  have y4 := nbC' hm
  have y7 : (B ≤ m) = False := by simp; omega
  have n7 : B + 22 ≠ m := by omega
  have hwn : IntKind.i64.wrap ((n : Int) - 0) = (n : Int) := by rw [Int.sub_zero]; exact IntWalk.i64_in _ (by omega)
  have hwn' : IntKind.i64.wrap (n : Int) = (n : Int) := IntWalk.i64_in _ (by omega)
  have hn0 : decide ((n : Int) < 0) = false := by simp
  repeat' (first | (simp -implicitDefEqProofs only [*, contN, contC, Nat.reduceBEq, Bool.or_false, Bool.or_true, Bool.false_or, Bool.true_or, Bool.not_true, Bool.not_false, w_skip, w_ret, w_exit, w_reg, w_dreg, w_seq, SK_n, SK_r, SK_x, w_keep, w_block, w_cond, w_nil, w_cons, w_consg, w_nnil, w_ncons, w_dnil, w_dcons, w_dconsg, HK_app, HD_app, HQ_n, HQ_r, HQ_x, HQ_bn, HQ_br, HQ_bx, HQ_en, HQ_er, HQ_ex, CondB_true, CondB_false, SO1, w_sdv, SDe_alloc, SDe_box, SDe_bslice, SDe_app, true_imp_iff, false_imp_iff, and_false, false_and, not_false_eq_true, not_true_eq_false, addN, mkNames, killT, killD, killO, List.foldl_nil, List.foldl_cons, List.append_nil, List.nil_append, List.cons_append, GuardS_true, GuardS_false, GuardD_true, GuardD_false, DK_true, DK_false, lt_self_add, le_self_add, decide_true, decide_false, Bool.false_eq_true, Bool.true_eq_false, Nat.add_left_cancel_iff, SE, SEalloc, SEbox, SEstore, w_bs, SEbl, SEfz, SEbs0, fzName, osOf, AV.fz1, w_app, w_mk, aev, opd, Fr.get, putO, Fr.norm, List.map_cons, List.map_nil, with1, with2, onInt, AV.lit, entry, ↓reduceIte, Nat.reduceEqDiff, Nat.reduceAdd, reduceCtorEq, true_and, and_true, Option.map_some, Option.map_none, Option.bind_some, Option.bind_none, cond_true, cond_false, binV, unV, fieldV, loadV, sto, cellsAV, newF, newL, Fr.map, Loc.kill, Loc.set, AO.kill, AV.kill, AV.mapN, AV.mapNL, List.filter_nil, List.filter_cons, allP, EndV, retV, resV, resL, frz, dropL, AV.pick, nilV, tupV, imp_self, ne_eq, Int.cast_ofNat_Int, Int.reduceLT, Int.reduceToNat, List.getD_cons_zero, List.getD_cons_succ, bsliceV, buildV, afill, repl, chunk, rvs, AV.rv, RV.nrm, List.getElem?_nil, List.append_assoc, Nat.reduceMul, Nat.reducePow, Nat.zero_lt_succ, Nat.zero_add, Nat.add_zero, List.length_cons, List.length_nil, Nat.reduceLeDiff, Nat.le_refl, List.take_succ_cons, List.take_zero, List.drop_succ_cons, List.drop_zero, indexV, lenV, rowOf_mapD, rowOf_mapI, rowOf_mapA, List.length_map, Int.toNat_natCast, List.getElem?_cons_zero, List.getElem?_cons_succ, and_self, implies_true, if_true, if_false, HQ_zn, HQ_zr, HQ_wn, HQ_wr, AV.nz, AV.nzL, RV.nrm, SEbin, SEnil, nilK, srcV, dstV, appName, List.length_append, Nat.mul_one, take_map_len, take_map_app, List.getElem?_cons_zero, List.map_append, c90, r90, u90_1, u90_2, v90_3, v90_4, v90_5, u90_6, u90_7, u90_8, u90_9, u90_10, u90_11, ty3, ty29, ty5, SEcap, bnd, sliceV, Option.getD_some, Option.getD_none, w0, Int.sub_self, Int.sub_zero, zr_eq, zr_len, AV.ren, y1, y4, y7, n7]) | (with_reducible refine And.intro ?_ ?_) | (refine EndX.of2 (Wk.nameF (s := 4) (n := m) (k := 1) (E := 5) rfl (by omega) (.inr (by simp)) hk) ?_) | (refine EndX.of2 (Wk.ren (n := B + 22) (m := m) (l1 := []) (k := 1) (E := 5) (rows := zr n) hcl (by omega) n7 (.inr (by simp)) hk (by simp [sto]) (by simp) (by simp)) ?_) | (refine EndX.plain ?_) | (refine nil_split (fun hn => ?_) (fun hn => ?_)) | (refine gcall_no not_false ?_) | (refine gdcall_no not_false ?_) | (refine GuardS_of _ _ _ _ _ _ (fun hg => ?_) (fun hg => ?_)) | (refine GuardD_of _ _ _ _ (fun hg => ?_) (fun hg => ?_)) | (refine CondB_of _ _ _ _ _ _ _ ?_ (fun hg => ?_) (fun hg => ?_)))
  all_goals (try (first | ((first | unfold noN | unfold Fr.below | unfold Loc.below); simp [Fr.allN, AV.allN, AV.allNL, AO.allN]; done) | rfl | trivial | assumption | (intro row hrow; simp only [List.mem_map] at hrow; obtain ⟨x, _, rfl⟩ := hrow; rfl) | (refine Wk.keep hcl ?_ ?_ ?_; (focus (simp [Fr.get, SEcap, bnd, sliceV, Option.getD_some, Option.getD_none, w0, Int.sub_self, Int.sub_zero, zr_eq, zr_len, AV.ren, y1, y4, y7, n7] <;> fail)); (focus (simp [sto, SEcap, bnd, sliceV, Option.getD_some, Option.getD_none, w0, Int.sub_self, Int.sub_zero, zr_eq, zr_len, AV.ren, y1, y4, y7, n7] <;> fail)); (focus (simp <;> fail))) | (simp [allP, opd, Fr.get, Fr.below, Fr.allN, AV.allN, AV.allNL, Loc.below, AO.allN, noN, killO, killT, killD, mkNames, AO.kill, AV.kill, AV.mapN, AV.mapNL]; done) | (with_reducible exact ltD (by assumption)) | omega | (simp only [decide_eq_true_eq, decide_eq_false_iff_not] at *; omega)))
  all_goals first
    | (intro row hrow; have := List.eq_of_mem_replicate hrow; subst this; rfl)
    | (have h0 : n = 0 := by simp at hg; omega
       subst h0; rfl)
/-- what is left of the zeros that were made -/
def exZ (k n : Nat) : List (List RV) := match k with
  | 0 => zr n
  | _ => []
theorem exZ_zero (n : Nat) : exZ 0 n = zr n := rfl
theorem exZ_succ (k n : Nat) : exZ (k + 1) n = [] := rfl
theorem cat_take (ls : List (List UInt8)) (k n : Nat) : List.take (catN ls k).length ((catN ls k).map by_ ++ exZ k n) = (catN ls k).map by_ := by
  rw [List.take_append_of_le_length (by simp), List.take_of_length_le (by simp)]
theorem cat_zero (ls : List (List UInt8)) : catN ls 0 = [] := rfl
theorem cat_all (ls : List (List UInt8)) {k : Nat} (h : decide ((k : Int) < ls.length) = false) : catN ls k = ls.flatten := by
  have : ls.length ≤ k := by simp at h; omega
  simp only [catN, List.take_of_length_le this]
theorem cat_w {ls : List (List UInt8)} (hs : ls.flatten.length ≤ 2 ^ 47) {k : Nat} (h : decide ((k : Int) < ls.length) = true) : IntKind.i64.wrap (((catN ls k).length : Int) + (ls[k]!.length : Int)) = ((catN ls (k + 1)).length : Int) := by
  have hk : k < ls.length := by simp at h; omega
  have h1 := catN_le hk
  have h2 := catN_next hk
  rw [h2, List.length_append, IntWalk.i64_in _ (by omega)]; omega
theorem nn0 (n : Nat) : decide ((n : Int) < 0) = false := by simp
theorem cat_rest {ls : List (List UInt8)} (n : Nat) (k : Nat) : (catN ls k).length ≤ ((catN ls k).map by_ ++ exZ k n).length := by simp
theorem concat_p (ls : List (List UInt8)) (hs : ls.flatten.length ≤ 2 ^ 47) : Pure Try.prog 81 [.d (.ro (ls.map secRow))] (.d (bytes ls.flatten)) := by
  refine pureZ_of follows Try.func81 c81_eq r81 (Nat.le_of_ble_eq_true rfl) fun B σ hcl hsz => ?_
  have hlen : ls.length ≤ 2 ^ 47 := by simpa using (show Sized (.ro (ls.map secRow)) from hsz (.d (.ro (ls.map secRow))) (by simp)).len
  clear hsz
  have q1 : ∀ k : Nat, decide ((k : Int) < ls.length) = true → IntKind.i64.wrap (((catN ls k).length : Int) + (ls[k]!.length : Int)) = ((catN ls (k + 1)).length : Int) := fun k hk => cat_w hs hk
  repeat' (first | (simp -implicitDefEqProofs only [*, contN, contC, Nat.reduceBEq, Bool.or_false, Bool.or_true, Bool.false_or, Bool.true_or, Bool.not_true, Bool.not_false, w_skip, w_ret, w_exit, w_reg, w_dreg, w_seq, SK_n, SK_r, SK_x, w_keep, w_block, w_cond, w_nil, w_cons, w_consg, w_nnil, w_ncons, w_dnil, w_dcons, w_dconsg, HK_app, HD_app, HQ_n, HQ_r, HQ_x, HQ_bn, HQ_br, HQ_bx, HQ_en, HQ_er, HQ_ex, CondB_true, CondB_false, SO1, w_sdv, SDe_alloc, SDe_box, SDe_bslice, SDe_app, true_imp_iff, false_imp_iff, and_false, false_and, not_false_eq_true, not_true_eq_false, addN, mkNames, killT, killD, killO, List.foldl_nil, List.foldl_cons, List.append_nil, List.nil_append, List.cons_append, GuardS_true, GuardS_false, GuardD_true, GuardD_false, DK_true, DK_false, lt_self_add, le_self_add, decide_true, decide_false, Bool.false_eq_true, Bool.true_eq_false, Nat.add_left_cancel_iff, SE, SEalloc, SEbox, SEstore, w_bs, SEbl, SEfz, SEbs0, fzName, osOf, AV.fz1, w_app, w_mk, aev, opd, Fr.get, putO, Fr.norm, List.map_cons, List.map_nil, with1, with2, onInt, AV.lit, entry, ↓reduceIte, Nat.reduceEqDiff, Nat.reduceAdd, reduceCtorEq, true_and, and_true, Option.map_some, Option.map_none, Option.bind_some, Option.bind_none, cond_true, cond_false, binV, unV, fieldV, loadV, sto, cellsAV, newF, newL, Fr.map, Loc.kill, Loc.set, AO.kill, AV.kill, AV.mapN, AV.mapNL, List.filter_nil, List.filter_cons, allP, EndV, retV, resV, resL, frz, dropL, AV.pick, nilV, tupV, imp_self, ne_eq, Int.cast_ofNat_Int, Int.reduceLT, Int.reduceToNat, List.getD_cons_zero, List.getD_cons_succ, bsliceV, buildV, afill, repl, chunk, rvs, AV.rv, RV.nrm, List.getElem?_nil, List.append_assoc, Nat.reduceMul, Nat.reducePow, Nat.zero_lt_succ, Nat.zero_add, Nat.add_zero, List.length_cons, List.length_nil, Nat.reduceLeDiff, Nat.le_refl, List.take_succ_cons, List.take_zero, List.drop_succ_cons, List.drop_zero, indexV, lenV, rowOf_mapD, rowOf_mapI, rowOf_mapA, List.length_map, Int.toNat_natCast, List.getElem?_cons_zero, List.getElem?_cons_succ, and_self, implies_true, if_true, if_false, HQ_zn, HQ_zr, HQ_wn, HQ_wr, AV.nz, AV.nzL, RV.nrm, SEbin, SEnil, nilK, srcV, dstV, appName, List.length_append, Nat.mul_one, take_map_len, take_map_app, List.getElem?_cons_zero, List.map_append, c81, r81, u81_1, u81_2, u81_3, u81_4, u81_5, u81_6, u81_7, u81_8, u81_9, u81_10, u81_11, u81_12, u81_13, u81_14, u81_15, u81_16, u81_17, u81_18, u81_19, u81_20, ty24, ty3, ty29, ty5, secRow, bytes, nn0, cat_all, cat_take, cat_zero, exZ_zero, exZ_succ]) | (with_reducible refine And.intro ?_ ?_) | (refine call_own [B + 90001] [(B + 90001, .arr 1 5 (zr ls.flatten.length))] e90 (grow_own ls.flatten.length hs _ _ (B + 90001) (by omega) (sto_all (q := fun o => o.kill (B + 90001) = o) (by simp) fun n => AO.kill_below (q := fun m => decide (m < B)) (by simp) _ (hcl n).1)) rfl ?_ ?_ ?_ ?_ ?_) | (refine loop_nat (ls.length) (fun _ => True) (fun k => [(9, .d (.ro (ls.map secRow))), (10, I ls.length), (11, I k), (3, I (catN ls k).length), (0, .d (.ro (ls.map secRow)))]) (fun k => []) ?_ (Wk.keep hcl ?_ ?_ ?_) fun k hk hF => ?_; rotate_left 1; (focus (simp [Fr.get, newF, Fr.map, AV.kill, AV.mapN, secRow, bytes, nn0, cat_all, cat_take, cat_zero, exZ_zero, exZ_succ] <;> fail)); (focus (simp [sto, newL, Loc.kill, Loc.set, AO.kill, AV.kill, AV.mapN, secRow, bytes, nn0, cat_all, cat_take, cat_zero, exZ_zero, exZ_succ] <;> fail)); (focus (simp [newL, Loc.kill, Loc.set, secRow, bytes, nn0, cat_all, cat_take, cat_zero, exZ_zero, exZ_succ] <;> fail)); (try have hw : IntKind.i64.wrap ((k : Int) + 1) = (k : Int) + 1 := IntWalk.i64_in _ (by omega))) | (refine loop_nat (ls.length) (fun _ => True) (fun k => [(25, .d (.ro (ls.map secRow))), (26, I ls.length), (27, I k), (6, .os (B + 90001) (catN ls k).length)]) (fun k => [(B + 90001, .arr 1 5 ((catN ls k).map by_ ++ exZ k ls.flatten.length))]) ?_ (Wk.keep hcl ?_ ?_ ?_) fun k hk hF => ?_; rotate_left 1; (focus (simp [Fr.get, newF, Fr.map, AV.kill, AV.mapN, secRow, bytes, nn0, cat_all, cat_take, cat_zero, exZ_zero, exZ_succ] <;> fail)); (focus (simp [sto, newL, Loc.kill, Loc.set, AO.kill, AV.kill, AV.mapN, secRow, bytes, nn0, cat_all, cat_take, cat_zero, exZ_zero, exZ_succ] <;> fail)); (focus (simp [newL, Loc.kill, Loc.set, secRow, bytes, nn0, cat_all, cat_take, cat_zero, exZ_zero, exZ_succ] <;> fail)); (try have hw : IntKind.i64.wrap ((k : Int) + 1) = (k : Int) + 1 := IntWalk.i64_in _ (by omega))) | (refine EndX.plain ?_) | (refine nil_split (fun hn => ?_) (fun hn => ?_)) | (refine gcall_no not_false ?_) | (refine gdcall_no not_false ?_) | (refine GuardS_of _ _ _ _ _ _ (fun hg => ?_) (fun hg => ?_)) | (refine GuardD_of _ _ _ _ (fun hg => ?_) (fun hg => ?_)) | (refine CondB_of _ _ _ _ _ _ _ ?_ (fun hg => ?_) (fun hg => ?_)))
  all_goals (try (first | ((first | unfold noN | unfold Fr.below | unfold Loc.below); simp [Fr.allN, AV.allN, AV.allNL, AO.allN]; done) | rfl | trivial | assumption | (intro row hrow; simp only [List.mem_map] at hrow; obtain ⟨x, _, rfl⟩ := hrow; rfl) | (refine Wk.keep hcl ?_ ?_ ?_; (focus (simp [Fr.get, secRow, bytes, nn0, cat_all, cat_take, cat_zero, exZ_zero, exZ_succ] <;> fail)); (focus (simp [sto, secRow, bytes, nn0, cat_all, cat_take, cat_zero, exZ_zero, exZ_succ] <;> fail)); (focus (simp <;> fail))) | (simp [allP, opd, Fr.get, Fr.below, Fr.allN, AV.allN, AV.allNL, Loc.below, AO.allN, noN, killO, killT, killD, mkNames, AO.kill, AV.kill, AV.mapN, AV.mapNL]; done) | (with_reducible exact ltD (by assumption)) | omega | (simp only [decide_eq_true_eq, decide_eq_false_iff_not] at *; omega)))
  all_goals first
    | exact cat_rest _ _
    | (have hk : k < ls.length := by simp at hg; omega
       have h1 := catN_le hk
       omega)
    | (have hk : k < ls.length := by simp at hg; omega
       rw [catN_next hk]
       refine Wk.keep hcl (by simp [Fr.get]) (by simp [sto]) (by simp))
    | (rw [List.take_append_of_le_length (by rw [List.length_map]; exact Nat.le_refl _), List.take_of_length_le (by rw [List.length_map]; exact Nat.le_refl _)])
end Go.Proofs.Ytkcfnhfbdcnhjaa
