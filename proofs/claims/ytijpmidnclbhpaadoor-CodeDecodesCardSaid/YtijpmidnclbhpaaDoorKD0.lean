/- Reading many records: plain. -/
import Derived.Test.YtijpmidnclbhpaaDoorKR
namespace Go.Proofs.YtijpmidnclbhpaaDoor
open Go.RowKit
set_option maxHeartbeats 4000000
set_option maxRecDepth 20000
attribute [local irreducible] SW SWL SWLn SWD SEcall SEcallv SDv SE SO1 SOg ACalls ACallv Wk EndV
set_option linter.unusedSimpArgs false
set_option linter.unusedVariables false
def RecD.cl (r : RecD) : RecD := { r with ver := { r.ver with secs := bif r.kind == 4 then r.ver.secs else [] }, part := { r.part with secs := bif r.kind == 11 then r.part.secs else [] }, secs := bif r.kind == 8 then r.secs else [] }
def RecD.rowR (r : RecD) : List RV := r.cl.row
def rcS (s : RdS) : Nat → RdS
  | 0 => takS s 1
  | k + 1 => recS (rcS s k)
def rcC (s : RdS) : Nat → Nat → Nat
  | 0, k => k
  | f + 1, k => bif (rcS s k).2 == 0 then rcC s f (k + 1) else k
def rcM (s : RdS) : Nat := rcC s (takN s 1).toNat 0
def rcL (s : RdS) (k : Nat) : List RecD := (List.range k).map fun j => recN (rcS s j)
theorem rcL_len (s : RdS) (k : Nat) : (rcL s k).length = k := by simp [rcL]
theorem rcL_0 (s : RdS) : rcL s 0 = [] := rfl
theorem rcL_next (s : RdS) (k : Nat) : rcL s k ++ [recN (rcS s k)] = rcL s (k + 1) := by simp [rcL, List.range_succ]
theorem rcS_next (s : RdS) (k : Nat) : recS (rcS s k) = rcS s (k + 1) := rfl
theorem rcS_0 (s : RdS) : rcS s 0 = takS s 1 := rfl
theorem rcC_go {s : RdS} {n k M : Nat} (h : rcC s (n - k) k = M) (hk : k < n) (h0 : ((rcS s k).2 == 0) = true) : rcC s (n - (k + 1)) (k + 1) = M := by
  obtain ⟨f, hf⟩ : ∃ f, n - k = f + 1 := ⟨n - k - 1, by omega⟩
  rw [hf, rcC, h0] at h
  rw [show n - (k + 1) = f by omega]; exact h
theorem rcC_no {s : RdS} {n k M : Nat} (h : rcC s (n - k) k = M) (h0 : ((rcS s k).2 == 0) = false) : k = M := by
  cases hf : n - k with
  | zero => rw [hf] at h; exact h
  | succ f => rw [hf, rcC, h0] at h; exact h
theorem rcC_end {s : RdS} {n k M : Nat} (h : rcC s (n - k) k = M) (hk : n ≤ k) : k = M := by
  rw [show n - k = 0 by omega] at h; exact h
def endE (s : RdS) : Int := bif s.2 == 0 && decide ((s.1.length : Int) > 0) then 4 else s.2
def decL (b : List UInt8) : List RecD := rcL (b, 0) (rcM (b, 0))
def decE (b : List UInt8) : Int := endE (rcS (b, 0) (rcM (b, 0)))
def decV (b : List UInt8) : AV := bif decE b == 0 then .tup [.d (.ro ((decL b).map RecD.rowR)), I 0] else .tup [.d (.ro []), I (decE b)]
theorem dec_no {b : List UInt8} {x : Int} (h : decE b = x) (h0' : (!(x == 0)) = true) : AV.tup [.d (.ro []), I x] = decV b := by
  have h0 : (x == 0) = false := by simpa using h0'
  subst h; unfold decV; rw [h0]; rfl
theorem dec_ok {b : List UInt8} (h' : (!(decE b == 0)) = false) {l : List RecD} (hl : l = decL b) : AV.tup [.d (.ro (l.map RecD.rowR)), I 0] = decV b := by
  have h : (decE b == 0) = true := by simpa using h'
  subst hl; unfold decV; rw [h]; rfl
end Go.Proofs.YtijpmidnclbhpaaDoor
