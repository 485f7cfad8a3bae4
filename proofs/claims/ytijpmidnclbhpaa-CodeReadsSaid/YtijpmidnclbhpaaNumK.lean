/- Numbers read from bytes: what is reckoned. No program in sight. -/
import Derived.Test.YtijpmidnclbhpaaBase
namespace Go.Proofs.Ytijpmidnclbhpaa
open Go.RowKit
set_option maxHeartbeats 4000000
set_option maxRecDepth 20000
attribute [local irreducible] SW OSW SWL SWLn SWD SEcall SEcallv SDv SE SO1 SOg ACalls ACallv Wk EndV
set_option linter.unusedSimpArgs false
set_option linter.unusedVariables false
def numK (l:List UInt8):Nat → Int
  | 0=>0
  | k + 1=>256 * numK l k + (l[k]!.toNat:Int)
theorem numK_0 (l:List UInt8):numK l 0 = 0:=rfl
theorem numK_le (l:List UInt8):∀ k,0 ≤ numK l k ∧ numK l k < 256 ^ k
  | 0=>by simp [numK]
  | k + 1=>by
    obtain ⟨h1,h2⟩:=numK_le l k
    have h3:(l[k]!.toNat:Int) < 256:=by have:=l[k]!.toNat_lt;omega
    have h4:(256:Int) ^ (k + 1) = 256 ^ k * 256:=by rw [Int.pow_succ]
    simp only [numK]
    omega
theorem numK_7 (l:List UInt8) {k:Nat} (hk:k ≤ 4):0 ≤ numK l k ∧ numK l k < 4294967296:=by
  have:=numK_le l k
  have:(256:Int) ^ k ≤ 256 ^ 4:=by
    match k,hk with
    | 0,_=>decide
    | 1,_=>decide
    | 2,_=>decide
    | 3,_=>decide
    | 4,_=>decide
  have e:(256:Int) ^ 4 = 4294967296:=by decide
  omega
theorem or_byte {m y:Nat} (hm:m < 2 ^ 40) (hy:y < 256):bits BinOp.or IntKind.i64 ((m:Int) * 256) (y:Int) = (m:Int) * 256 + (y:Int):=by
  unfold bits
  have b64:IntKind.i64.bits = 64:=rfl
  have h1:(BitVec.ofInt IntKind.i64.bits ((m:Int) * 256)).toNat = m * 256:=by
    rw [b64,BitVec.toNat_ofInt];omega
  have h2:(BitVec.ofInt IntKind.i64.bits (y:Int)).toNat = y:=by
    rw [b64,BitVec.toNat_ofInt];omega
  simp only [BitVec.toNat_or,h1,h2]
  have h3:m * 256 ||| y = m * 256 + y:=by
    have:=Nat.shiftLeft_add_eq_or_of_lt (i:=8) (b:=y) (by omega) m
    rw [Nat.shiftLeft_eq] at this
    exact this.symm
  rw [h3,IntWalk.i64_in _ (by omega)]
  omega
end Go.Proofs.Ytijpmidnclbhpaa
