/- Numbers, bytes and lists as cells. -/
import Derived.Test.YtckjgipcephmfaaDoorBridge
import Derived.Test.YtckjgipcephmfaaDoorBase
namespace Go.Proofs.YtckjgipcephmfaaDoor
open Go.RowKit
set_option linter.unusedSimpArgs false
set_option linter.unusedVariables false
def shInts : Sh := .sl (.int .i64)
theorem int_of {rs : List RV} (h : Shaped (.int .i64) rs) : ∃ n, inI n ∧ rs = [.v (.int .i64 n)] := by
  obtain ⟨n, hw, rfl⟩ := shaped_int h
  simp only [Lit.wf, Bool.and_eq_true, decide_eq_true_eq] at hw
  refine ⟨n, ?_, rfl⟩
  have h1 : IntKind.i64.min = -2 ^ 63 := rfl
  have h2 : IntKind.i64.max = 2 ^ 63 - 1 := rfl
  unfold inI; omega
theorem sl_of {α : Type} {f : α → List RV} {p : α → Prop} {s : Sh} {rs : List RV} (hf : ∀ r, Shaped s r → ∃ x, p x ∧ r = f x) (h : Shaped (.sl s) rs) : ∃ l : List α, ((l.length ≤ 2 ^ 47 ∧ l.length * s.by ≤ 2 ^ 47) ∧ ∀ x ∈ l, p x) ∧ rs = [.ro (l.map f)] := by
  obtain ⟨rows, h1, h2, rfl⟩ := shaped_sl h
  obtain ⟨l, h3, rfl⟩ := rows_of fun r hr => hf r (h2 r hr)
  exact ⟨l, ⟨by simpa using h1, h3⟩, rfl⟩
theorem ints_of {rs : List RV} (h : Shaped shInts rs) : ∃ l : List Int, ((l.length ≤ 2 ^ 47 ∧ l.length * 8 ≤ 2 ^ 47) ∧ ∀ n ∈ l, inI n) ∧ rs = [ints l] := sl_of (f := int_) (fun r h => int_of h) h
end Go.Proofs.YtckjgipcephmfaaDoor
