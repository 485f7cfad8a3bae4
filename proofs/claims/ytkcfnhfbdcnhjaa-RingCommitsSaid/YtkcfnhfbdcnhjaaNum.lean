/- Numbers as bytes, the highest first: one to four of them. -/
import Derived.Test.YtkcfnhfbdcnhjaaB8
import Derived.Test.YtkcfnhfbdcnhjaaConcat
import Derived.Test.YtkcfnhfbdcnhjaaTypes
namespace Go.Proofs.Ytkcfnhfbdcnhjaa
open Go.RowKit
set_option maxRecDepth 100000
/-- icehouse_icehouseref.big -/
def c83_1 : SC := (.cond (.tmp 11) .skip (.exit 0))
theorem u83_1 (P : Program) (B : Nat) (T0 : List Nat) (r : Sto) (Q : Ex → Fr → Loc → Prop) (a : Fr) (l : Loc) : SW P B T0 r c83_1 Q a l = SW P B T0 r (.cond (.tmp 11) .skip (.exit 0)) Q a l := (rfl)
def c83_2 : SC := (.reg [SO.mk (some 12) (.move (.tmp 7)) none, SO.mk (some 13) (.bin .add 3 (.tmp 12) (.const (Value.int .i64 1))) none, SO.mk (some 7) (.move (.tmp 13)) none])
theorem u83_2 (P : Program) (B : Nat) (T0 : List Nat) (r : Sto) (Q : Ex → Fr → Loc → Prop) (a : Fr) (l : Loc) : SW P B T0 r c83_2 Q a l = SW P B T0 r (.reg [SO.mk (some 12) (.move (.tmp 7)) none, SO.mk (some 13) (.bin .add 3 (.tmp 12) (.const (Value.int .i64 1))) none, SO.mk (some 7) (.move (.tmp 13)) none]) Q a l := (rfl)
def c83_3 : SC := (.seq (.block 1 (.reg [SO.mk (some 14) (.move (.tmp 6)) none, SO.mk (some 15) (.bin .mul 3 (.tmp 14) (.const (Value.int .i64 256))) none, SO.mk (some 6) (.move (.tmp 15)) none])) (.keep [7, 0, 1, 6, 5] c83_2))
theorem u83_3 (P : Program) (B : Nat) (T0 : List Nat) (r : Sto) (Q : Ex → Fr → Loc → Prop) (a : Fr) (l : Loc) : SW P B T0 r c83_3 Q a l = SW P B T0 r (.seq (.block 1 (.reg [SO.mk (some 14) (.move (.tmp 6)) none, SO.mk (some 15) (.bin .mul 3 (.tmp 14) (.const (Value.int .i64 256))) none, SO.mk (some 6) (.move (.tmp 15)) none])) (.keep [7, 0, 1, 6, 5] c83_2)) Q a l := (rfl)
def c83_4 : SC := (.seq (.seq (.reg [SO.mk (some 9) (.move (.tmp 7)) none, SO.mk (some 10) (.move (.tmp 1)) none, SO.mk (some 11) (.bin .lss 3 (.tmp 9) (.tmp 10)) none]) (.keep [11, 7, 0, 1, 6, 5] c83_1)) (.keep [6, 7, 0, 1, 5] c83_3))
theorem u83_4 (P : Program) (B : Nat) (T0 : List Nat) (r : Sto) (Q : Ex → Fr → Loc → Prop) (a : Fr) (l : Loc) : SW P B T0 r c83_4 Q a l = SW P B T0 r (.seq (.seq (.reg [SO.mk (some 9) (.move (.tmp 7)) none, SO.mk (some 10) (.move (.tmp 1)) none, SO.mk (some 11) (.bin .lss 3 (.tmp 9) (.tmp 10)) none]) (.keep [11, 7, 0, 1, 6, 5] c83_1)) (.keep [6, 7, 0, 1, 5] c83_3)) Q a l := (rfl)
def c83_5 : SC := (.block 0 (.loop (.keep [7, 0, 1, 6, 5] c83_4)))
theorem u83_5 (P : Program) (B : Nat) (T0 : List Nat) (r : Sto) (Q : Ex → Fr → Loc → Prop) (a : Fr) (l : Loc) : SW P B T0 r c83_5 Q a l = SW P B T0 r (.block 0 (.loop (.keep [7, 0, 1, 6, 5] c83_4))) Q a l := (rfl)
def c83_6 : SC := (.cond (.tmp 18) .skip (.exit 2))
theorem u83_6 (P : Program) (B : Nat) (T0 : List Nat) (r : Sto) (Q : Ex → Fr → Loc → Prop) (a : Fr) (l : Loc) : SW P B T0 r c83_6 Q a l = SW P B T0 r (.cond (.tmp 18) .skip (.exit 2)) Q a l := (rfl)
def o83_7 : List SO := ((SO.mk (some 5) (.move (.tmp 28)) none) :: [])
theorem v83_7 (P : Program) (B : Nat) (T0 : List Nat) (r : Sto) (K : Fr → Loc → Prop) (a : Fr) (l : Loc) : SWL P B T0 r o83_7 K a l = SWL P B T0 r ((SO.mk (some 5) (.move (.tmp 28)) none) :: []) K a l := (rfl)
def o83_8 : List SO := ((SO.mk (some 25) (.bin .rem 3 (.tmp 24) (.const (Value.int .i64 256))) none) :: (SO.mk (some 26) (.conv 3 5 (.tmp 25)) none) :: (SO.mk (some 27) (.bslice 29 1 [(0 , (.tmp 26))]) none) :: (SO.mk (some 28) (.app 29 29 (.tmp 21) (.tmp 27)) none) :: o83_7)
theorem v83_8 (P : Program) (B : Nat) (T0 : List Nat) (r : Sto) (K : Fr → Loc → Prop) (a : Fr) (l : Loc) : SWL P B T0 r o83_8 K a l = SWL P B T0 r ((SO.mk (some 25) (.bin .rem 3 (.tmp 24) (.const (Value.int .i64 256))) none) :: (SO.mk (some 26) (.conv 3 5 (.tmp 25)) none) :: (SO.mk (some 27) (.bslice 29 1 [(0 , (.tmp 26))]) none) :: (SO.mk (some 28) (.app 29 29 (.tmp 21) (.tmp 27)) none) :: o83_7) K a l := (rfl)
def c83_9 : SC := (.reg [SO.mk (some 29) (.move (.tmp 6)) none, SO.mk (some 30) (.bin .quo 3 (.tmp 29) (.const (Value.int .i64 256))) none, SO.mk (some 6) (.move (.tmp 30)) none])
theorem u83_9 (P : Program) (B : Nat) (T0 : List Nat) (r : Sto) (Q : Ex → Fr → Loc → Prop) (a : Fr) (l : Loc) : SW P B T0 r c83_9 Q a l = SW P B T0 r (.reg [SO.mk (some 29) (.move (.tmp 6)) none, SO.mk (some 30) (.bin .quo 3 (.tmp 29) (.const (Value.int .i64 256))) none, SO.mk (some 6) (.move (.tmp 30)) none]) Q a l := (rfl)
def c83_10 : SC := (.reg [SO.mk (some 19) (.move (.tmp 8)) none, SO.mk (some 20) (.bin .add 3 (.tmp 19) (.const (Value.int .i64 1))) none, SO.mk (some 8) (.move (.tmp 20)) none])
theorem u83_10 (P : Program) (B : Nat) (T0 : List Nat) (r : Sto) (Q : Ex → Fr → Loc → Prop) (a : Fr) (l : Loc) : SW P B T0 r c83_10 Q a l = SW P B T0 r (.reg [SO.mk (some 19) (.move (.tmp 8)) none, SO.mk (some 20) (.bin .add 3 (.tmp 19) (.const (Value.int .i64 1))) none, SO.mk (some 8) (.move (.tmp 20)) none]) Q a l := (rfl)
def c83_11 : SC := (.seq (.block 3 (.seq (.reg ((SO.mk (some 21) (.move (.tmp 5)) none) :: (SO.mk (some 22) (.move (.tmp 0)) none) :: (SO.mk (some 23) (.move (.tmp 6)) none) :: (SO.mk (some 24) (.bin .quo 3 (.tmp 22) (.tmp 23)) none) :: o83_8)) (.keep [6, 8, 1, 0, 5] c83_9))) (.keep [8, 1, 6, 0, 5] c83_10))
theorem u83_11 (P : Program) (B : Nat) (T0 : List Nat) (r : Sto) (Q : Ex → Fr → Loc → Prop) (a : Fr) (l : Loc) : SW P B T0 r c83_11 Q a l = SW P B T0 r (.seq (.block 3 (.seq (.reg ((SO.mk (some 21) (.move (.tmp 5)) none) :: (SO.mk (some 22) (.move (.tmp 0)) none) :: (SO.mk (some 23) (.move (.tmp 6)) none) :: (SO.mk (some 24) (.bin .quo 3 (.tmp 22) (.tmp 23)) none) :: o83_8)) (.keep [6, 8, 1, 0, 5] c83_9))) (.keep [8, 1, 6, 0, 5] c83_10)) Q a l := (rfl)
def c83_12 : SC := (.seq (.seq (.reg [SO.mk (some 16) (.move (.tmp 8)) none, SO.mk (some 17) (.move (.tmp 1)) none, SO.mk (some 18) (.bin .lss 3 (.tmp 16) (.tmp 17)) none]) (.keep [18, 0, 1, 8, 6, 5] c83_6)) (.keep [5, 6, 8, 1, 0] c83_11))
theorem u83_12 (P : Program) (B : Nat) (T0 : List Nat) (r : Sto) (Q : Ex → Fr → Loc → Prop) (a : Fr) (l : Loc) : SW P B T0 r c83_12 Q a l = SW P B T0 r (.seq (.seq (.reg [SO.mk (some 16) (.move (.tmp 8)) none, SO.mk (some 17) (.move (.tmp 1)) none, SO.mk (some 18) (.bin .lss 3 (.tmp 16) (.tmp 17)) none]) (.keep [18, 0, 1, 8, 6, 5] c83_6)) (.keep [5, 6, 8, 1, 0] c83_11)) Q a l := (rfl)
def c83_13 : SC := (.block 2 (.loop (.keep [0, 1, 8, 6, 5] c83_12)))
theorem u83_13 (P : Program) (B : Nat) (T0 : List Nat) (r : Sto) (Q : Ex → Fr → Loc → Prop) (a : Fr) (l : Loc) : SW P B T0 r c83_13 Q a l = SW P B T0 r (.block 2 (.loop (.keep [0, 1, 8, 6, 5] c83_12))) Q a l := (rfl)
def c83_14 : SC := (.seq (.reg [SO.mk (some 31) (.move (.tmp 5)) none, SO.mk (some 4) (.move (.tmp 31)) none]) (.keep [4] .ret))
theorem u83_14 (P : Program) (B : Nat) (T0 : List Nat) (r : Sto) (Q : Ex → Fr → Loc → Prop) (a : Fr) (l : Loc) : SW P B T0 r c83_14 Q a l = SW P B T0 r (.seq (.reg [SO.mk (some 31) (.move (.tmp 5)) none, SO.mk (some 4) (.move (.tmp 31)) none]) (.keep [4] .ret)) Q a l := (rfl)
def c83_15 : SC := (.seq (.seq (.reg [SO.mk (some 8) (.move (.const (Value.int .i64 0))) none]) (.keep [0, 1, 8, 6, 5] c83_13)) (.keep [5] c83_14))
theorem u83_15 (P : Program) (B : Nat) (T0 : List Nat) (r : Sto) (Q : Ex → Fr → Loc → Prop) (a : Fr) (l : Loc) : SW P B T0 r c83_15 Q a l = SW P B T0 r (.seq (.seq (.reg [SO.mk (some 8) (.move (.const (Value.int .i64 0))) none]) (.keep [0, 1, 8, 6, 5] c83_13)) (.keep [5] c83_14)) Q a l := (rfl)
def c83_16 : SC := (.seq (.seq (.reg [SO.mk (some 7) (.move (.const (Value.int .i64 1))) none]) (.keep [7, 0, 1, 6, 5] c83_5)) (.keep [0, 1, 6, 5] c83_15))
theorem u83_16 (P : Program) (B : Nat) (T0 : List Nat) (r : Sto) (Q : Ex → Fr → Loc → Prop) (a : Fr) (l : Loc) : SW P B T0 r c83_16 Q a l = SW P B T0 r (.seq (.seq (.reg [SO.mk (some 7) (.move (.const (Value.int .i64 1))) none]) (.keep [7, 0, 1, 6, 5] c83_5)) (.keep [0, 1, 6, 5] c83_15)) Q a l := (rfl)
def c83_17 : SC := (.seq (.reg [SO.mk (some 6) (.move (.const (Value.int .i64 1))) none]) (.keep [0, 1, 6, 5] c83_16))
theorem u83_17 (P : Program) (B : Nat) (T0 : List Nat) (r : Sto) (Q : Ex → Fr → Loc → Prop) (a : Fr) (l : Loc) : SW P B T0 r c83_17 Q a l = SW P B T0 r (.seq (.reg [SO.mk (some 6) (.move (.const (Value.int .i64 1))) none]) (.keep [0, 1, 6, 5] c83_16)) Q a l := (rfl)
def c83_18 : SC := (.seq (.reg [SO.mk (some 5) (.move (.const (Value.slice none 0 0))) none]) (.keep [0, 1, 5] c83_17))
theorem u83_18 (P : Program) (B : Nat) (T0 : List Nat) (r : Sto) (Q : Ex → Fr → Loc → Prop) (a : Fr) (l : Loc) : SW P B T0 r c83_18 Q a l = SW P B T0 r (.seq (.reg [SO.mk (some 5) (.move (.const (Value.slice none 0 0))) none]) (.keep [0, 1, 5] c83_17)) Q a l := (rfl)
def c83 : SC := (.seq (.reg [SO.mk (some 4) (.move (.const (Value.slice none 0 0))) none]) (.keep [0, 1] c83_18))
theorem c83_eq : annC Try.f83 = some c83 := by kernel_rfl
theorem r83 : Try.f83.results.toList = [.tmp 4] := by kernel_rfl
theorem e83 : enters Try.prog 83 = true := by kernel_rfl
/-- icehouse_ring.number -/
def c82_1 : SC := (.cond (.tmp 10) .skip (.exit 0))
theorem u82_1 (P : Program) (B : Nat) (T0 : List Nat) (r : Sto) (Q : Ex → Fr → Loc → Prop) (a : Fr) (l : Loc) : SW P B T0 r c82_1 Q a l = SW P B T0 r (.cond (.tmp 10) .skip (.exit 0)) Q a l := (rfl)
def o82_2 : List SO := ((SO.mk (some 5) (.move (.tmp 20)) none) :: [])
theorem v82_2 (P : Program) (B : Nat) (T0 : List Nat) (r : Sto) (K : Fr → Loc → Prop) (a : Fr) (l : Loc) : SWL P B T0 r o82_2 K a l = SWL P B T0 r ((SO.mk (some 5) (.move (.tmp 20)) none) :: []) K a l := (rfl)
def o82_3 : List SO := ((SO.mk (some 17) (.bin .shr 3 (.tmp 14) (.tmp 16)) none) :: (SO.mk (some 18) (.conv 3 5 (.tmp 17)) none) :: (SO.mk (some 19) (.bslice 29 1 [(0 , (.tmp 18))]) none) :: (SO.mk (some 20) (.app 29 29 (.tmp 13) (.tmp 19)) none) :: o82_2)
theorem v82_3 (P : Program) (B : Nat) (T0 : List Nat) (r : Sto) (K : Fr → Loc → Prop) (a : Fr) (l : Loc) : SWL P B T0 r o82_3 K a l = SWL P B T0 r ((SO.mk (some 17) (.bin .shr 3 (.tmp 14) (.tmp 16)) none) :: (SO.mk (some 18) (.conv 3 5 (.tmp 17)) none) :: (SO.mk (some 19) (.bslice 29 1 [(0 , (.tmp 18))]) none) :: (SO.mk (some 20) (.app 29 29 (.tmp 13) (.tmp 19)) none) :: o82_2) K a l := (rfl)
def c82_4 : SC := (.reg [SO.mk (some 11) (.move (.tmp 6)) none, SO.mk (some 12) (.bin .sub 3 (.tmp 11) (.const (Value.int .i64 1))) none, SO.mk (some 6) (.move (.tmp 12)) none])
theorem u82_4 (P : Program) (B : Nat) (T0 : List Nat) (r : Sto) (Q : Ex → Fr → Loc → Prop) (a : Fr) (l : Loc) : SW P B T0 r c82_4 Q a l = SW P B T0 r (.reg [SO.mk (some 11) (.move (.tmp 6)) none, SO.mk (some 12) (.bin .sub 3 (.tmp 11) (.const (Value.int .i64 1))) none, SO.mk (some 6) (.move (.tmp 12)) none]) Q a l := (rfl)
def c82_5 : SC := (.seq (.block 1 (.reg ((SO.mk (some 13) (.move (.tmp 5)) none) :: (SO.mk (some 14) (.move (.tmp 0)) none) :: (SO.mk (some 15) (.move (.tmp 6)) none) :: (SO.mk (some 16) (.bin .mul 3 (.const (Value.int .i64 8)) (.tmp 15)) none) :: o82_3))) (.keep [6, 0, 5] c82_4))
theorem u82_5 (P : Program) (B : Nat) (T0 : List Nat) (r : Sto) (Q : Ex → Fr → Loc → Prop) (a : Fr) (l : Loc) : SW P B T0 r c82_5 Q a l = SW P B T0 r (.seq (.block 1 (.reg ((SO.mk (some 13) (.move (.tmp 5)) none) :: (SO.mk (some 14) (.move (.tmp 0)) none) :: (SO.mk (some 15) (.move (.tmp 6)) none) :: (SO.mk (some 16) (.bin .mul 3 (.const (Value.int .i64 8)) (.tmp 15)) none) :: o82_3))) (.keep [6, 0, 5] c82_4)) Q a l := (rfl)
def c82_6 : SC := (.seq (.seq (.reg [SO.mk (some 9) (.move (.tmp 6)) none, SO.mk (some 10) (.bin .geq 3 (.tmp 9) (.const (Value.int .i64 0))) none]) (.keep [10, 0, 6, 5] c82_1)) (.keep [5, 6, 0] c82_5))
theorem u82_6 (P : Program) (B : Nat) (T0 : List Nat) (r : Sto) (Q : Ex → Fr → Loc → Prop) (a : Fr) (l : Loc) : SW P B T0 r c82_6 Q a l = SW P B T0 r (.seq (.seq (.reg [SO.mk (some 9) (.move (.tmp 6)) none, SO.mk (some 10) (.bin .geq 3 (.tmp 9) (.const (Value.int .i64 0))) none]) (.keep [10, 0, 6, 5] c82_1)) (.keep [5, 6, 0] c82_5)) Q a l := (rfl)
def c82_7 : SC := (.block 0 (.loop (.keep [0, 6, 5] c82_6)))
theorem u82_7 (P : Program) (B : Nat) (T0 : List Nat) (r : Sto) (Q : Ex → Fr → Loc → Prop) (a : Fr) (l : Loc) : SW P B T0 r c82_7 Q a l = SW P B T0 r (.block 0 (.loop (.keep [0, 6, 5] c82_6))) Q a l := (rfl)
def c82_8 : SC := (.seq (.reg [SO.mk (some 21) (.move (.tmp 5)) none, SO.mk (some 4) (.move (.tmp 21)) none]) (.keep [4] .ret))
theorem u82_8 (P : Program) (B : Nat) (T0 : List Nat) (r : Sto) (Q : Ex → Fr → Loc → Prop) (a : Fr) (l : Loc) : SW P B T0 r c82_8 Q a l = SW P B T0 r (.seq (.reg [SO.mk (some 21) (.move (.tmp 5)) none, SO.mk (some 4) (.move (.tmp 21)) none]) (.keep [4] .ret)) Q a l := (rfl)
def c82_9 : SC := (.seq (.seq (.reg [SO.mk (some 7) (.move (.tmp 1)) none, SO.mk (some 8) (.bin .sub 3 (.tmp 7) (.const (Value.int .i64 1))) none, SO.mk (some 6) (.move (.tmp 8)) none]) (.keep [0, 6, 5] c82_7)) (.keep [5] c82_8))
theorem u82_9 (P : Program) (B : Nat) (T0 : List Nat) (r : Sto) (Q : Ex → Fr → Loc → Prop) (a : Fr) (l : Loc) : SW P B T0 r c82_9 Q a l = SW P B T0 r (.seq (.seq (.reg [SO.mk (some 7) (.move (.tmp 1)) none, SO.mk (some 8) (.bin .sub 3 (.tmp 7) (.const (Value.int .i64 1))) none, SO.mk (some 6) (.move (.tmp 8)) none]) (.keep [0, 6, 5] c82_7)) (.keep [5] c82_8)) Q a l := (rfl)
def c82_10 : SC := (.seq (.reg [SO.mk (some 5) (.move (.const (Value.slice none 0 0))) none]) (.keep [1, 0, 5] c82_9))
theorem u82_10 (P : Program) (B : Nat) (T0 : List Nat) (r : Sto) (Q : Ex → Fr → Loc → Prop) (a : Fr) (l : Loc) : SW P B T0 r c82_10 Q a l = SW P B T0 r (.seq (.reg [SO.mk (some 5) (.move (.const (Value.slice none 0 0))) none]) (.keep [1, 0, 5] c82_9)) Q a l := (rfl)
def c82 : SC := (.seq (.reg [SO.mk (some 4) (.move (.const (Value.slice none 0 0))) none]) (.keep [1, 0] c82_10))
theorem c82_eq : annC Try.f82 = some c82 := by kernel_rfl
theorem r82 : Try.f82.results.toList = [.tmp 4] := by kernel_rfl
theorem e82 : enters Try.prog 82 = true := by kernel_rfl
end Go.Proofs.Ytkcfnhfbdcnhjaa
namespace Go.Proofs.Ytkcfnhfbdcnhjaa
open Go.RowKit
set_option maxHeartbeats 4000000
set_option maxRecDepth 20000
attribute [local irreducible] SW SWL SWLn SWD SEcall SEcallv SDv SE SO1 SOg ACalls ACallv Wk EndV
set_option linter.unusedSimpArgs false
set_option linter.unusedVariables false
theorem m4 {m : Nat} (h1 : 1 ≤ m) (h2 : m ≤ 4) : m = 1 ∨ m = 2 ∨ m = 3 ∨ m = 4 := by omega
theorem k4 {m k : Nat} (h2 : m ≤ 4) (h : k < m) : k = 0 ∨ k = 1 ∨ k = 2 ∨ k = 3 := by omega
theorem g1_all {m k : Nat} (h1 : 1 ≤ m) (h2 : m ≤ 4) (hk : k ≤ m - 1) (hg : decide ((k : Int) + 1 < m) = false) : f1 k = f2 m 0 := by
  have : k = m - 1 := by simp at hg; omega
  subst this
  rcases m4 h1 h2 with rfl | rfl | rfl | rfl <;> decide
theorem g2_pos {m k : Nat} (h1 : 1 ≤ m) (h2 : m ≤ 4) (hk : k < m) : 1 ≤ f2 m k := by
  rcases m4 h1 h2 with rfl | rfl | rfl | rfl <;> rcases k4 (by omega) hk with rfl | rfl | rfl | rfl <;> first | decide | (exfalso; omega)
theorem g2_ne {m k : Nat} (h1 : 1 ≤ m) (h2 : m ≤ 4) (h : decide ((k : Int) < m) = true) : (f2 m k = 0) = False := by
  have hk : k < m := by simp at h; omega
  have := g2_pos h1 h2 hk
  refine eq_false ?_; omega
theorem g2_next {m k : Nat} (h1 : 1 ≤ m) (h2 : m ≤ 4) (h : decide ((k : Int) < m) = true) : IntKind.i64.wrap ((f2 m k).tdiv 256) = f2 m (k + 1) := by
  have hk : k < m := by simp at h; omega
  rcases m4 h1 h2 with rfl | rfl | rfl | rfl <;> rcases k4 (by omega) hk with rfl | rfl | rfl | rfl <;> first | decide | (exfalso; omega)
theorem g2_byte {m k : Nat} {n : Int} (h1 : 1 ≤ m) (h2 : m ≤ 4) (hn : 0 ≤ n ∧ n ≤ 2 ^ 40) (hk : k < m) : IntKind.u8.wrap ((IntKind.i64.wrap (n.tdiv (f2 m k))).tmod 256) = ((b8 (n / f2 m k)).toNat : Int) := by
  have hp := g2_pos h1 h2 hk
  have e : n.tdiv (f2 m k) = n / f2 m k := Int.tdiv_eq_ediv_of_nonneg hn.1
  have h0 : 0 ≤ n / f2 m k := Int.ediv_nonneg hn.1 (by omega)
  have h1 : n / f2 m k ≤ n := Int.ediv_le_self _ hn.1
  rw [e, IntWalk.i64_in _ (by omega), IntWalk.rem_in _ _ h0, b8_wrap, b8_mod]
theorem bigN_p (n : Int) (m : Nat) (h1 : 1 ≤ m) (h2 : m ≤ 4) (hn : 0 ≤ n ∧ n ≤ 2 ^ 40) : Pure Try.prog 83 [I n, I m] (.d (bytes (bigB n m))) := by
  refine pureZ_of follows Try.func83 c83_eq r83 (Nat.le_of_ble_eq_true rfl) fun B σ hcl hsz => ?_
  clear hsz
  have q2 : ∀ k : Nat, decide ((k : Int) < m) = true → (f2 m k = 0) = False := fun k hk => g2_ne h1 h2 hk
  have q3 : ∀ k : Nat, decide ((k : Int) < m) = true → IntKind.i64.wrap ((f2 m k).tdiv 256) = f2 m (k + 1) := fun k hk => g2_next h1 h2 hk
  repeat' (first | (simp -implicitDefEqProofs only [*, contN, contC, Nat.reduceBEq, Bool.or_false, Bool.or_true, Bool.false_or, Bool.true_or, Bool.not_true, Bool.not_false, w_skip, w_ret, w_exit, w_reg, w_dreg, w_seq, SK_n, SK_r, SK_x, w_keep, w_block, w_cond, w_nil, w_cons, w_consg, w_nnil, w_ncons, w_dnil, w_dcons, w_dconsg, HK_app, HD_app, HQ_n, HQ_r, HQ_x, HQ_bn, HQ_br, HQ_bx, HQ_en, HQ_er, HQ_ex, CondB_true, CondB_false, SO1, w_sdv, SDe_alloc, SDe_box, SDe_bslice, SDe_app, true_imp_iff, false_imp_iff, and_false, false_and, not_false_eq_true, not_true_eq_false, addN, mkNames, killT, killD, killO, List.foldl_nil, List.foldl_cons, List.append_nil, List.nil_append, List.cons_append, GuardS_true, GuardS_false, GuardD_true, GuardD_false, DK_true, DK_false, lt_self_add, le_self_add, decide_true, decide_false, Bool.false_eq_true, Bool.true_eq_false, Nat.add_left_cancel_iff, SE, SEalloc, SEbox, SEstore, w_bs, SEbl, SEfz, SEbs0, fzName, osOf, AV.fz1, w_app, w_mk, aev, opd, Fr.get, putO, Fr.norm, List.map_cons, List.map_nil, with1, with2, onInt, AV.lit, entry, ↓reduceIte, Nat.reduceEqDiff, Nat.reduceAdd, reduceCtorEq, true_and, and_true, Option.map_some, Option.map_none, Option.bind_some, Option.bind_none, cond_true, cond_false, binV, unV, fieldV, loadV, sto, cellsAV, newF, newL, Fr.map, Loc.kill, Loc.set, AO.kill, AV.kill, AV.mapN, AV.mapNL, List.filter_nil, List.filter_cons, allP, EndV, retV, resV, resL, frz, dropL, AV.pick, nilV, tupV, imp_self, ne_eq, Int.cast_ofNat_Int, Int.reduceLT, Int.reduceToNat, List.getD_cons_zero, List.getD_cons_succ, bsliceV, buildV, afill, repl, chunk, rvs, AV.rv, RV.nrm, List.getElem?_nil, List.append_assoc, Nat.reduceMul, Nat.reducePow, Nat.zero_lt_succ, Nat.zero_add, Nat.add_zero, List.length_cons, List.length_nil, Nat.reduceLeDiff, Nat.le_refl, List.take_succ_cons, List.take_zero, List.drop_succ_cons, List.drop_zero, indexV, lenV, rowOf_mapD, rowOf_mapI, rowOf_mapA, List.length_map, Int.toNat_natCast, List.getElem?_cons_zero, List.getElem?_cons_succ, and_self, implies_true, if_true, if_false, HQ_zn, HQ_zr, HQ_wn, HQ_wr, AV.nz, AV.nzL, RV.nrm, SEbin, SEnil, nilK, srcV, dstV, appName, List.length_append, Nat.mul_one, take_map_len, take_map_app, List.getElem?_cons_zero, List.map_append, c83, r83, u83_1, u83_2, u83_3, u83_4, u83_5, u83_6, v83_7, v83_8, u83_9, u83_10, u83_11, u83_12, u83_13, u83_14, u83_15, u83_16, u83_17, u83_18, ty3, ty5, ty29, convV, bytes, g1_all h1 h2, f1_zero]) | (with_reducible refine And.intro ?_ ?_) | (refine loop_nat (m - 1) (fun _ => True) (fun k => [(7, I (k + 1)), (0, I n), (1, I m), (6, I (f1 k)), (5, .d (.v (.slice none 0 0)))]) (fun k => []) ?_ (Wk.keep hcl ?_ ?_ ?_) fun k hk hF => ?_; rotate_left 1; (focus (simp [Fr.get, newF, Fr.map, AV.kill, AV.mapN, convV, bytes, g1_all h1 h2, f1_zero] <;> fail)); (focus (simp [sto, newL, Loc.kill, Loc.set, AO.kill, AV.kill, AV.mapN, convV, bytes, g1_all h1 h2, f1_zero] <;> fail)); (focus (simp [newL, Loc.kill, Loc.set, convV, bytes, g1_all h1 h2, f1_zero] <;> fail)); (try have hw : IntKind.i64.wrap ((k : Int) + 1) = (k : Int) + 1 := IntWalk.i64_in _ (by omega))) | (refine loop_nat (m) (fun _ => True) (fun k => [(0, I n), (1, I m), (8, I k), (6, I (f2 m k)), (5, .os (B + 28) ((bigB n m).take k).length)]) (fun k => [(B + 28, .arr 1 5 (((bigB n m).take k).map by_))]) ?_ (Wk.trans (Wk.nameF (s := 5) (n := B + 28) (k := 1) (E := 5) rfl (by omega) (.inl (by omega)) (fun m => AO.kill_below (q := fun m => decide (m < B)) (by simp) _ (hcl m).1)) (Wk.keep hcl ?_ ?_ ?_)) fun k hk hF => ?_; rotate_left 1; (focus (simp [Fr.get, newF, Fr.map, AV.kill, AV.mapN, convV, bytes, g1_all h1 h2, f1_zero] <;> fail)); (focus (simp [sto, newL, Loc.kill, Loc.set, AO.kill, AV.kill, AV.mapN, convV, bytes, g1_all h1 h2, f1_zero] <;> fail)); (focus (simp [newL, Loc.kill, Loc.set, convV, bytes, g1_all h1 h2, f1_zero] <;> fail)); (try have hw : IntKind.i64.wrap ((k : Int) + 1) = (k : Int) + 1 := IntWalk.i64_in _ (by omega))) | (refine EndX.plain ?_) | (refine nil_split (fun hn => ?_) (fun hn => ?_)) | (refine gcall_no not_false ?_) | (refine gdcall_no not_false ?_) | (refine GuardS_of _ _ _ _ _ _ (fun hg => ?_) (fun hg => ?_)) | (refine GuardD_of _ _ _ _ (fun hg => ?_) (fun hg => ?_)) | (refine CondB_of _ _ _ _ _ _ _ ?_ (fun hg => ?_) (fun hg => ?_)))
  all_goals (try (first | ((first | unfold noN | unfold Fr.below | unfold Loc.below); simp [Fr.allN, AV.allN, AV.allNL, AO.allN]; done) | rfl | trivial | assumption | (intro row hrow; simp only [List.mem_map] at hrow; obtain ⟨x, _, rfl⟩ := hrow; rfl) | (refine Wk.keep hcl ?_ ?_ ?_; (focus (simp [Fr.get, convV, bytes, g1_all h1 h2, f1_zero] <;> fail)); (focus (simp [sto, convV, bytes, g1_all h1 h2, f1_zero] <;> fail)); (focus (simp <;> fail))) | (simp [allP, opd, Fr.get, Fr.below, Fr.allN, AV.allN, AV.allNL, Loc.below, AO.allN, noN, killO, killT, killD, mkNames, AO.kill, AV.kill, AV.mapN, AV.mapNL]; done) | (with_reducible exact ltD (by assumption)) | omega | (simp only [decide_eq_true_eq, decide_eq_false_iff_not] at *; omega)))
  all_goals first
    | (simp only [List.length_take, bigB_len]; omega)
    | (have hk1 : k + 1 < m := by simp at hg; omega
       rw [IntWalk.i64_in ((k : Int) + 1 + 1) (by omega), f1_next (k := k) (by omega)]
       refine Wk.keep hcl (by simp [Fr.get]) (by simp [sto]) (by simp))
    | (have hk1 : k < m := by simp at hg; omega
       have hk2 : k < (bigB n m).length := by rw [bigB_len]; exact hk1
       rw [g2_byte h1 h2 hn hk1, take_next hk2, bigB_at hk1]
       refine Wk.keep hcl (by simp [Fr.get]) (by simp [sto, by_]) (by simp))
    | (have hk1 : m ≤ k := by simp at hg; omega
       rw [List.take_of_length_le (by rw [bigB_len]; exact hk1)])
theorem shr_f2 {m k : Nat} (n : Int) (h1 : 1 ≤ m) (h2 : m ≤ 4) (hk : k < m) : n.fdiv (2 ^ min (8 * ((m : Int) - 1 - k)).toNat IntKind.i64.bits) = n / f2 m k := by
  rw [show (2 ^ min (8 * ((m : Int) - 1 - k)).toNat IntKind.i64.bits : Int) = f2 m k from by
    rcases m4 h1 h2 with rfl | rfl | rfl | rfl <;> rcases k4 (by omega) hk with rfl | rfl | rfl | rfl <;> first | decide | (exfalso; omega)]
  exact Int.fdiv_eq_ediv_of_nonneg _ (by have := g2_pos h1 h2 hk; omega)
theorem number_p (n : Int) (m : Nat) (h1 : 1 ≤ m) (h2 : m ≤ 4) : Pure Try.prog 82 [I n, I m] (.d (bytes (bigB n m))) := by
  refine pureZ_of follows Try.func82 c82_eq r82 (Nat.le_of_ble_eq_true rfl) fun B σ hcl hsz => ?_
  clear hsz
  have q0 : IntKind.i64.wrap ((m : Int) - 1) = (m : Int) - 1 := IntWalk.i64_in _ (by omega)
  have q1 : ∀ k : Nat, decide ((m : Int) - 1 - k ≥ 0) = true → IntKind.i64.wrap (8 * ((m : Int) - 1 - k)) = 8 * ((m : Int) - 1 - k) := fun k hk => IntWalk.i64_in _ (by simp at hk; omega)
  have q2 : ∀ k : Nat, decide ((m : Int) - 1 - k ≥ 0) = true → (0 ≤ 8 * ((m : Int) - 1 - k)) = True := fun k hk => eq_true (by simp at hk; omega)
  repeat' (first | (simp -implicitDefEqProofs only [*, contN, contC, Nat.reduceBEq, Bool.or_false, Bool.or_true, Bool.false_or, Bool.true_or, Bool.not_true, Bool.not_false, w_skip, w_ret, w_exit, w_reg, w_dreg, w_seq, SK_n, SK_r, SK_x, w_keep, w_block, w_cond, w_nil, w_cons, w_consg, w_nnil, w_ncons, w_dnil, w_dcons, w_dconsg, HK_app, HD_app, HQ_n, HQ_r, HQ_x, HQ_bn, HQ_br, HQ_bx, HQ_en, HQ_er, HQ_ex, CondB_true, CondB_false, SO1, w_sdv, SDe_alloc, SDe_box, SDe_bslice, SDe_app, true_imp_iff, false_imp_iff, and_false, false_and, not_false_eq_true, not_true_eq_false, addN, mkNames, killT, killD, killO, List.foldl_nil, List.foldl_cons, List.append_nil, List.nil_append, List.cons_append, GuardS_true, GuardS_false, GuardD_true, GuardD_false, DK_true, DK_false, lt_self_add, le_self_add, decide_true, decide_false, Bool.false_eq_true, Bool.true_eq_false, Nat.add_left_cancel_iff, SE, SEalloc, SEbox, SEstore, w_bs, SEbl, SEfz, SEbs0, fzName, osOf, AV.fz1, w_app, w_mk, aev, opd, Fr.get, putO, Fr.norm, List.map_cons, List.map_nil, with1, with2, onInt, AV.lit, entry, ↓reduceIte, Nat.reduceEqDiff, Nat.reduceAdd, reduceCtorEq, true_and, and_true, Option.map_some, Option.map_none, Option.bind_some, Option.bind_none, cond_true, cond_false, binV, unV, fieldV, loadV, sto, cellsAV, newF, newL, Fr.map, Loc.kill, Loc.set, AO.kill, AV.kill, AV.mapN, AV.mapNL, List.filter_nil, List.filter_cons, allP, EndV, retV, resV, resL, frz, dropL, AV.pick, nilV, tupV, imp_self, ne_eq, Int.cast_ofNat_Int, Int.reduceLT, Int.reduceToNat, List.getD_cons_zero, List.getD_cons_succ, bsliceV, buildV, afill, repl, chunk, rvs, AV.rv, RV.nrm, List.getElem?_nil, List.append_assoc, Nat.reduceMul, Nat.reducePow, Nat.zero_lt_succ, Nat.zero_add, Nat.add_zero, List.length_cons, List.length_nil, Nat.reduceLeDiff, Nat.le_refl, List.take_succ_cons, List.take_zero, List.drop_succ_cons, List.drop_zero, indexV, lenV, rowOf_mapD, rowOf_mapI, rowOf_mapA, List.length_map, Int.toNat_natCast, List.getElem?_cons_zero, List.getElem?_cons_succ, and_self, implies_true, if_true, if_false, HQ_zn, HQ_zr, HQ_wn, HQ_wr, AV.nz, AV.nzL, RV.nrm, SEbin, SEnil, nilK, srcV, dstV, appName, List.length_append, Nat.mul_one, take_map_len, take_map_app, List.getElem?_cons_zero, List.map_append, c82, r82, u82_1, v82_2, v82_3, u82_4, u82_5, u82_6, u82_7, u82_8, u82_9, u82_10, ty3, ty5, ty29, convV, bytes]) | (with_reducible refine And.intro ?_ ?_) | (refine loop_nat (m) (fun _ => True) (fun k => [(0, I n), (6, I ((m : Int) - 1 - k)), (5, .os (B + 20) ((bigB n m).take k).length)]) (fun k => [(B + 20, .arr 1 5 (((bigB n m).take k).map by_))]) ?_ (Wk.trans (Wk.nameF (s := 5) (n := B + 20) (k := 1) (E := 5) rfl (by omega) (.inl (by omega)) (fun m => AO.kill_below (q := fun m => decide (m < B)) (by simp) _ (hcl m).1)) (Wk.keep hcl ?_ ?_ ?_)) fun k hk hF => ?_; rotate_left 1; (focus (simp [Fr.get, newF, Fr.map, AV.kill, AV.mapN, convV, bytes] <;> fail)); (focus (simp [sto, newL, Loc.kill, Loc.set, AO.kill, AV.kill, AV.mapN, convV, bytes] <;> fail)); (focus (simp [newL, Loc.kill, Loc.set, convV, bytes] <;> fail)); (try have hw : IntKind.i64.wrap ((k : Int) + 1) = (k : Int) + 1 := IntWalk.i64_in _ (by omega))) | (refine EndX.plain ?_) | (refine nil_split (fun hn => ?_) (fun hn => ?_)) | (refine gcall_no not_false ?_) | (refine gdcall_no not_false ?_) | (refine GuardS_of _ _ _ _ _ _ (fun hg => ?_) (fun hg => ?_)) | (refine GuardD_of _ _ _ _ (fun hg => ?_) (fun hg => ?_)) | (refine CondB_of _ _ _ _ _ _ _ ?_ (fun hg => ?_) (fun hg => ?_)))
  all_goals (try (first | ((first | unfold noN | unfold Fr.below | unfold Loc.below); simp [Fr.allN, AV.allN, AV.allNL, AO.allN]; done) | rfl | trivial | assumption | (intro row hrow; simp only [List.mem_map] at hrow; obtain ⟨x, _, rfl⟩ := hrow; rfl) | (refine Wk.keep hcl ?_ ?_ ?_; (focus (simp [Fr.get, convV, bytes] <;> fail)); (focus (simp [sto, convV, bytes] <;> fail)); (focus (simp <;> fail))) | (simp [allP, opd, Fr.get, Fr.below, Fr.allN, AV.allN, AV.allNL, Loc.below, AO.allN, noN, killO, killT, killD, mkNames, AO.kill, AV.kill, AV.mapN, AV.mapNL]; done) | (with_reducible exact ltD (by assumption)) | omega | (simp only [decide_eq_true_eq, decide_eq_false_iff_not] at *; omega)))
  all_goals first
    | (simp only [List.length_take, bigB_len]; omega)
    | (have hk1 : k < m := by simp at hg; omega
       have hk2 : k < (bigB n m).length := by rw [bigB_len]; exact hk1
       rw [shr_f2 n h1 h2 hk1, b8_wrap, IntWalk.i64_in _ (by omega), take_next hk2, bigB_at hk1, show (m : Int) - 1 - (k : Int) - 1 = (m : Int) - 1 - ((k + 1 : Nat) : Int) by omega]
       refine Wk.keep hcl (by simp [Fr.get]) (by simp [sto, by_]) (by simp))
    | (have hk1 : m ≤ k := by simp at hg; omega
       rw [List.take_of_length_le (by rw [bigB_len]; exact hk1)])
def superB (j : JrnD) : List UInt8 := [bigB j.gen 4, bigB j.epoch 4, bigB j.area 1, bigB j.length 4, bigB j.start 2, bigB j.first 4].flatten
/-- numbers that can be written -/
structure JrnOk (j : JrnD) : Prop where
  g : 0 ≤ j.gen ∧ j.gen ≤ 2 ^ 40
  e : 0 ≤ j.epoch ∧ j.epoch ≤ 2 ^ 40
  a : 0 ≤ j.area ∧ j.area ≤ 2 ^ 40
  l : 0 ≤ j.length ∧ j.length ≤ 2 ^ 40
  s : 0 ≤ j.start ∧ j.start ≤ 2 ^ 40
  f : 0 ≤ j.first ∧ j.first ≤ 2 ^ 40
end Go.Proofs.Ytkcfnhfbdcnhjaa
