/- Bytes of numbers. No program in sight. -/
import Derived.Test.YtkcfnhfbdcnhjaaBase
namespace Go.Proofs.Ytkcfnhfbdcnhjaa
open Go.RowKit
def b8 (n : Int) : UInt8 := UInt8.ofNat (n % 256).toNat
theorem b8_wrap (n : Int) : IntKind.u8.wrap n = ((b8 n).toNat : Int) := by
  rw [IntKind.wrap_u8]
  have h : (n % 256).toNat < 256 := by omega
  have : (b8 n).toNat = (n % 256).toNat := by
    unfold b8; rw [UInt8.toNat_ofNat']; exact Nat.mod_eq_of_lt h
  rw [this]; omega
theorem b8_mod (n : Int) : b8 (n % 256) = b8 n := by
  unfold b8; congr 2; omega
theorem fd24 (x : Int) : x.fdiv (2 ^ min 24 IntKind.i64.bits) = x / 16777216 := by
  show x.fdiv 16777216 = _; exact Int.fdiv_eq_ediv_of_nonneg _ (by decide)
theorem fd16 (x : Int) : x.fdiv (2 ^ min 16 IntKind.i64.bits) = x / 65536 := by
  show x.fdiv 65536 = _; exact Int.fdiv_eq_ediv_of_nonneg _ (by decide)
theorem fd8 (x : Int) : x.fdiv (2 ^ min 8 IntKind.i64.bits) = x / 256 := by
  show x.fdiv 256 = _; exact Int.fdiv_eq_ediv_of_nonneg _ (by decide)
def f1 (k : Nat) : Int := 256 ^ k
def f2 (m k : Nat) : Int := if k < m then 256 ^ (m - 1 - k) else 0
def bigB (n : Int) (m : Nat) : List UInt8 := (List.range m).map fun k => b8 (n / f2 m k)
theorem f1_zero : f1 0 = 1 := rfl
theorem f1_next {k : Nat} (h : k ≤ 3) : IntKind.i64.wrap (f1 k * 256) = f1 (k + 1) := by
  have : k = 0 ∨ k = 1 ∨ k = 2 ∨ k = 3 := by omega
  rcases this with rfl | rfl | rfl | rfl <;> decide
theorem f1_all {m k : Nat} (hm : m = 2 ∨ m = 4) (hk : k ≤ m - 1) (hg : decide ((k : Int) + 1 < m) = false) : f1 k = f2 m 0 := by
  have : k = m - 1 := by simp at hg; omega
  subst this
  rcases hm with rfl | rfl <;> decide
theorem f2_ne {m k : Nat} (hm : m = 2 ∨ m = 4) (h : decide ((k : Int) < m) = true) : (f2 m k = 0) = False := by
  have hk : k < m := by simp at h; omega
  refine eq_false ?_
  rcases hm with rfl | rfl
  · have : k = 0 ∨ k = 1 := by omega
    rcases this with rfl | rfl <;> decide
  · have : k = 0 ∨ k = 1 ∨ k = 2 ∨ k = 3 := by omega
    rcases this with rfl | rfl | rfl | rfl <;> decide
theorem f2_next {m k : Nat} (hm : m = 2 ∨ m = 4) (h : decide ((k : Int) < m) = true) : IntKind.i64.wrap ((f2 m k).tdiv 256) = f2 m (k + 1) := by
  have hk : k < m := by simp at h; omega
  rcases hm with rfl | rfl
  · have : k = 0 ∨ k = 1 := by omega
    rcases this with rfl | rfl <;> decide
  · have : k = 0 ∨ k = 1 ∨ k = 2 ∨ k = 3 := by omega
    rcases this with rfl | rfl | rfl | rfl <;> decide
theorem f2_pos {m k : Nat} (hm : m = 2 ∨ m = 4) (hk : k < m) : 1 ≤ f2 m k := by
  rcases hm with rfl | rfl
  · have : k = 0 ∨ k = 1 := by omega
    rcases this with rfl | rfl <;> decide
  · have : k = 0 ∨ k = 1 ∨ k = 2 ∨ k = 3 := by omega
    rcases this with rfl | rfl | rfl | rfl <;> decide
theorem f2_byte {m k : Nat} {n : Int} (hm : m = 2 ∨ m = 4) (hn : 0 ≤ n ∧ n ≤ 2 ^ 40) (hk : k < m) : IntKind.u8.wrap ((IntKind.i64.wrap (n.tdiv (f2 m k))).tmod 256) = ((b8 (n / f2 m k)).toNat : Int) := by
  have hp := f2_pos hm hk
  have e : n.tdiv (f2 m k) = n / f2 m k := Int.tdiv_eq_ediv_of_nonneg hn.1
  have h0 : 0 ≤ n / f2 m k := Int.ediv_nonneg hn.1 (by omega)
  have h1 : n / f2 m k ≤ n := Int.ediv_le_self _ hn.1
  rw [e, IntWalk.i64_in _ (by omega), IntWalk.rem_in _ _ h0, b8_wrap, b8_mod]
theorem bigB_len (n : Int) (m : Nat) : (bigB n m).length = m := by simp [bigB]
theorem bigB_at {n : Int} {m k : Nat} (h : k < m) : (bigB n m)[k]! = b8 (n / f2 m k) := by simp [bigB, h]
end Go.Proofs.Ytkcfnhfbdcnhjaa
