/- Bytes of numbers. No program in sight. -/
import Derived.Test.YtckjgipcephmfaaDoorBase
namespace Go.Proofs.YtckjgipcephmfaaDoor
open Go.RowKit
set_option linter.unusedSimpArgs false
set_option linter.unusedVariables false
def b8 (n : Int) : UInt8 := UInt8.ofNat (n % 256).toNat
theorem b8_wrap (n : Int) : IntKind.u8.wrap n = ((b8 n).toNat : Int) := by
  rw [IntKind.wrap_u8]
  have h : (n % 256).toNat < 256 := by omega
  have : (b8 n).toNat = (n % 256).toNat := by
    unfold b8; rw [UInt8.toNat_ofNat']; exact Nat.mod_eq_of_lt h
  rw [this]; omega
theorem b8_mod (n : Int) : b8 (n % 256) = b8 n := by
  unfold b8; congr 2; omega
def f1 (k : Nat) : Int := 256 ^ k
def f2 (m k : Nat) : Int := if k < m then 256 ^ (m - 1 - k) else 0
def bigB (n : Int) (m : Nat) : List UInt8 := (List.range m).map fun k => b8 (n / f2 m k)
theorem f1_zero : f1 0 = 1 := rfl
theorem f1_next {k : Nat} (h : k ≤ 3) : IntKind.i64.wrap (f1 k * 256) = f1 (k + 1) := by
  have : k = 0 ∨ k = 1 ∨ k = 2 ∨ k = 3 := by omega
  rcases this with rfl | rfl | rfl | rfl <;> decide
theorem bigB_len (n : Int) (m : Nat) : (bigB n m).length = m := by simp [bigB]
theorem bigB_at {n : Int} {m k : Nat} (h : k < m) : (bigB n m)[k]! = b8 (n / f2 m k) := by simp [bigB, h]
end Go.Proofs.YtckjgipcephmfaaDoor
