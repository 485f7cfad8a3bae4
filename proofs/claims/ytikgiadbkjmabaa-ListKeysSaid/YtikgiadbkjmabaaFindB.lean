/- What is found in slices,by a function: where. -/
import Derived.Test.YtikgiadbkjmabaaBase
namespace Go.Proofs.Ytikgiadbkjmabaa
open Go.RowKit
set_option maxHeartbeats 4000000
set_option maxRecDepth 20000
attribute [local irreducible] SW OSW SWL SWLn SWD SEcall SEcallv SDv SE SO1 SOg ACalls ACallv Wk EndV
set_option linter.unusedSimpArgs false
set_option linter.unusedVariables false
def idxI {α:Type} (xs:List α) (p:α → Bool):Int:=match xs.findIdx? p with
  | some i=>i
  | none=>-1
theorem idxI_some {α:Type} [Inhabited α] {xs:List α} {p:α → Bool} {k:Nat} (h:k < xs.length) (hp:p xs[k]! = true) (hF:∀ i,i < k → p xs[i]! = false):idxI xs p = k:=by
  have:xs.findIdx? p = some k:=by
    rw [List.findIdx?_eq_some_iff_getElem]
    refine ⟨h,by simpa [h] using hp,fun j hj=>?_⟩
    have:=hF j hj
    have hl:j < xs.length:=by omega
    simpa [hl] using this
  simp [idxI,this]
theorem idxI_none {α:Type} [Inhabited α] {xs:List α} {p:α → Bool} {k:Nat} (h:xs.length ≤ k) (hk:k ≤ xs.length) (hF:∀ i,i < k → p xs[i]! = false):idxI xs p = -1:=by
  have:xs.findIdx? p = none:=by
    rw [List.findIdx?_eq_none_iff]
    intro x hx
    obtain ⟨i,hi,rfl⟩:=List.mem_iff_getElem.1 hx
    simpa [hi] using hF i (by omega)
  simp [idxI,this]
theorem idxI_any {α:Type} (xs:List α) (p:α → Bool):decide (idxI xs p ≥ 0) = xs.any p:=by
  unfold idxI
  cases h:xs.findIdx? p with
  | none =>
    rw [List.findIdx?_eq_none_iff] at h
    have:xs.any p = false:=by simpa using h
    rw [this];rfl
  | some i =>
    have:xs.any p = true:=by
      rw [List.findIdx?_eq_some_iff_getElem] at h
      obtain ⟨h1,h2,_⟩:=h
      exact List.any_eq_true.2 ⟨_,List.getElem_mem h1,h2⟩
    rw [this];simp

theorem capt1 {n:Nat} {cs:List AV} (B:Nat) (σ:Sto) (hC:σ n = .box cs) (hcl:ClosedS B σ):AV.allNL (fun m=>decide (m < B + 100000)) [.lp n 0] = true:=by
  have hn:n < B:=by
    rcases Nat.lt_or_ge n B with h | h
    · exact h
    · rw [(hcl n).2 h] at hC;cases hC
  simp [AV.allNL,AV.allN];omega
end Go.Proofs.Ytikgiadbkjmabaa
