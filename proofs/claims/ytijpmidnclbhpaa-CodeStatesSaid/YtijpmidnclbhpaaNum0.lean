/- Numbers as bytes: what is reckoned. No program in sight. -/
import Derived.Test.YtijpmidnclbhpaaBase

/- Bytes of numbers. No program in sight. -/
namespace Go.Proofs.Ytijpmidnclbhpaa
open Go.RowKit
set_option linter.unusedSimpArgs false
set_option linter.unusedVariables false
def b8 (n : Int) : UInt8 := UInt8.ofNat (n % 256).toNat
theorem b8_wrap (n : Int) : IntKind.u8.wrap n = ((b8 n).toNat : Int) := by
  rw [IntKind.wrap_u8]
  have h : (n % 256).toNat < 256 := by omega
  have : (b8 n).toNat = (n % 256).toNat := by
    unfold b8; rw [UInt8.toNat_ofNat']; exact Nat.mod_eq_of_lt h
  rw [this]; omega
theorem b8_mod (n : Int) : b8 (n % 256) = b8 n := by
  unfold b8; congr 2; omega
def f1 (k : Nat) : Int := 256 ^ k
def f2 (m k : Nat) : Int := if k < m then 256 ^ (m - 1 - k) else 0
def bigB (n : Int) (m : Nat) : List UInt8 := (List.range m).map fun k => b8 (n / f2 m k)
theorem f1_zero : f1 0 = 1 := rfl
theorem f1_next {k : Nat} (h : k ≤ 3) : IntKind.i64.wrap (f1 k * 256) = f1 (k + 1) := by
  have : k = 0 ∨ k = 1 ∨ k = 2 ∨ k = 3 := by omega
  rcases this with rfl | rfl | rfl | rfl <;> decide
theorem bigB_len (n : Int) (m : Nat) : (bigB n m).length = m := by simp [bigB]
theorem bigB_at {n : Int} {m k : Nat} (h : k < m) : (bigB n m)[k]! = b8 (n / f2 m k) := by simp [bigB, h]
end Go.Proofs.Ytijpmidnclbhpaa
namespace Go.Proofs.Ytijpmidnclbhpaa
open Go.RowKit
set_option maxHeartbeats 4000000
set_option maxRecDepth 20000
attribute [local irreducible] SW SWL SWLn SWD SEcall SEcallv SDv SE SO1 SOg ACalls ACallv Wk EndV
set_option linter.unusedSimpArgs false
set_option linter.unusedVariables false
theorem m4 {m : Nat} (h1 : 1 ≤ m) (h2 : m ≤ 4) : m = 1 ∨ m = 2 ∨ m = 3 ∨ m = 4 := by omega
theorem k4 {m k : Nat} (h2 : m ≤ 4) (h : k < m) : k = 0 ∨ k = 1 ∨ k = 2 ∨ k = 3 := by omega
theorem g1_all {m k : Nat} (h1 : 1 ≤ m) (h2 : m ≤ 4) (hk : k ≤ m - 1) (hg : decide ((k : Int) + 1 < m) = false) : f1 k = f2 m 0 := by
  have : k = m - 1 := by simp at hg; omega
  subst this
  rcases m4 h1 h2 with rfl | rfl | rfl | rfl <;> decide
theorem g2_pos {m k : Nat} (h1 : 1 ≤ m) (h2 : m ≤ 4) (hk : k < m) : 1 ≤ f2 m k := by
  rcases m4 h1 h2 with rfl | rfl | rfl | rfl <;> rcases k4 (by omega) hk with rfl | rfl | rfl | rfl <;> first | decide | (exfalso; omega)
theorem g2_ne {m k : Nat} (h1 : 1 ≤ m) (h2 : m ≤ 4) (h : decide ((k : Int) < m) = true) : (f2 m k = 0) = False := by
  have hk : k < m := by simp at h; omega
  have := g2_pos h1 h2 hk
  refine eq_false ?_; omega
theorem g2_next {m k : Nat} (h1 : 1 ≤ m) (h2 : m ≤ 4) (h : decide ((k : Int) < m) = true) : IntKind.i64.wrap ((f2 m k).tdiv 256) = f2 m (k + 1) := by
  have hk : k < m := by simp at h; omega
  rcases m4 h1 h2 with rfl | rfl | rfl | rfl <;> rcases k4 (by omega) hk with rfl | rfl | rfl | rfl <;> first | decide | (exfalso; omega)
theorem g2_byte {m k : Nat} {n : Int} (h1 : 1 ≤ m) (h2 : m ≤ 4) (hn : 0 ≤ n ∧ n ≤ 2 ^ 40) (hk : k < m) : IntKind.u8.wrap ((IntKind.i64.wrap (n.tdiv (f2 m k))).tmod 256) = ((b8 (n / f2 m k)).toNat : Int) := by
  have hp := g2_pos h1 h2 hk
  have e : n.tdiv (f2 m k) = n / f2 m k := Int.tdiv_eq_ediv_of_nonneg hn.1
  have h0 : 0 ≤ n / f2 m k := Int.ediv_nonneg hn.1 (by omega)
  have h1 : n / f2 m k ≤ n := Int.ediv_le_self _ hn.1
  rw [e, IntWalk.i64_in _ (by omega), IntWalk.rem_in _ _ h0, b8_wrap, b8_mod]
theorem shr_f2 {m k : Nat} (n : Int) (h1 : 1 ≤ m) (h2 : m ≤ 4) (hk : k < m) : n.fdiv (2 ^ min (8 * ((m : Int) - 1 - k)).toNat IntKind.i64.bits) = n / f2 m k := by
  rw [show (2 ^ min (8 * ((m : Int) - 1 - k)).toNat IntKind.i64.bits : Int) = f2 m k from by
    rcases m4 h1 h2 with rfl | rfl | rfl | rfl <;> rcases k4 (by omega) hk with rfl | rfl | rfl | rfl <;> first | decide | (exfalso; omega)]
  exact Int.fdiv_eq_ediv_of_nonneg _ (by have := g2_pos h1 h2 hk; omega)
end Go.Proofs.Ytijpmidnclbhpaa
