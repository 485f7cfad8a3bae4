/- Reading a state: plain. -/
import Derived.Test.YtijpmidnclbhpaaKUD
namespace Go.Proofs.Ytijpmidnclbhpaa
open Go.RowKit
set_option maxHeartbeats 4000000
set_option maxRecDepth 20000
attribute [local irreducible] SW OSW SWL SWLn SWD SEcall SEcallv SDv SE SO1 SOg ACalls ACallv Wk EndV
set_option linter.unusedSimpArgs false
set_option linter.unusedVariables false
def mnS (S:RdS → RdS) (s:RdS):Nat → RdS
  | 0=>takS s 1
  | k + 1=>S (mnS S s k)
def mnC (S:RdS → RdS) (s:RdS):Nat → Nat → Nat
  | 0,k=>k
  | f + 1,k=>bif (mnS S s k).2 == 0 then mnC S s f (k + 1) else k
def mnM (S:RdS → RdS) (s:RdS):Nat:=mnC S s (takN s 1).toNat 0
def mnL {α:Type} (N:RdS → α) (S:RdS → RdS) (s:RdS) (k:Nat):List α:=(List.range k).map fun j=>N (mnS S s j)
def mnSe (S:RdS → RdS) (s:RdS):RdS:=mnS S s (mnM S s)
def mnLe {α:Type} (N:RdS → α) (S:RdS → RdS) (s:RdS):List α:=mnL N S s (mnM S s)
section
variable {α:Type} {N:RdS → α} {S:RdS → RdS}
theorem mnL_len (s:RdS) (k:Nat):(mnL N S s k).length = k:=by simp [mnL]
theorem mnL_0 (s:RdS):mnL N S s 0 = []:=rfl
theorem mnL_next (s:RdS) (k:Nat):mnL N S s k ++ [N (mnS S s k)] = mnL N S s (k + 1):=by simp [mnL,List.range_succ]
theorem mnS_next (s:RdS) (k:Nat):S (mnS S s k) = mnS S s (k + 1):=rfl
theorem mnS_0 (s:RdS):mnS S s 0 = takS s 1:=rfl
theorem mnC_go {s:RdS} {n k M:Nat} (h:mnC S s (n - k) k = M) (hk:k < n) (h0:((mnS S s k).2 == 0) = true):mnC S s (n - (k + 1)) (k + 1) = M:=by
  obtain ⟨f,hf⟩:∃ f,n - k = f + 1:=⟨n - k - 1,by omega⟩
  rw [hf,mnC,h0] at h
  rw [show n - (k + 1) = f by omega];exact h
theorem mnC_no {s:RdS} {n k M:Nat} (h:mnC S s (n - k) k = M) (h0:((mnS S s k).2 == 0) = false):k = M:=by
  cases hf:n - k with
  | zero=>rw [hf] at h;exact h
  | succ f=>rw [hf,mnC,h0] at h;exact h
theorem mnC_end {s:RdS} {n k M:Nat} (h:mnC S s (n - k) k = M) (hk:n ≤ k):k = M:=by
  rw [show n - k = 0 by omega] at h;exact h
theorem mnC_le (s:RdS):∀ f k,mnC S s f k ≤ k + f
  | 0,k=>Nat.le_refl _
  | f + 1,k=>by
    unfold mnC
    cases (mnS S s k).2 == 0
    · simp
    · have:=mnC_le s f (k + 1)
      simp only [cond_true];omega
theorem mnM_le (s:RdS):mnM S s ≤ 255:=by
  have h1:=mnC_le (S:=S) s (takN s 1).toNat 0
  have h2:=takN_1 s
  unfold mnM;omega
theorem mnLe_len (s:RdS):(mnLe N S s).length ≤ 255:=by unfold mnLe;rw [mnL_len];exact mnM_le s
end
def bkN (s:RdS):BktD:=⟨textN s,takN (textS s) 1,(ruleN (takS (textS s) 1)).pre,(ruleN (takS (textS s) 1)).frz,(ruleN (takS (textS s) 1)).drop⟩
def bkS (s:RdS):RdS:=ruleS (takS (textS s) 1)
def up1 (s:RdS):RdS:=takS s 3
def up2 (s:RdS):RdS:=textS (up1 s)
def up3 (s:RdS):RdS:=textS (up2 s)
def upN (s:RdS):UpD:=⟨takN s 3,textN (up1 s),textN (up2 s),mnLe partN partS (up3 s)⟩
def upT (s:RdS):RdS:=mnSe partS (up3 s)
def dS1 (b:List UInt8):RdS:=takS (b,0) 3
def dS2 (b:List UInt8):RdS:=takS (dS1 b) 4
def dS3 (b:List UInt8):RdS:=mnSe bkS (dS2 b)
def dS4 (b:List UInt8):RdS:=mnSe verS (dS3 b)
def dS5 (b:List UInt8):RdS:=mnSe upT (dS4 b)
def dS6 (b:List UInt8):RdS:=mnSe askS (dS5 b)
def dS7 (b:List UInt8):RdS:=intsS (dS6 b)
def stN (b:List UInt8):SttD:=⟨takN (b,0) 3,takN (dS1 b) 4,mnLe bkN bkS (dS2 b),mnLe verN verS (dS3 b),mnLe upN upT (dS4 b),mnLe askN askS (dS5 b),intsN (dS6 b)⟩
end Go.Proofs.Ytijpmidnclbhpaa
