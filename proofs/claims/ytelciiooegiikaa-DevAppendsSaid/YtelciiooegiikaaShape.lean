/- Numbers, bytes and lists as cells. -/
import Derived.Test.YtelciiooegiikaaBridge
import Derived.Test.YtelciiooegiikaaBase
namespace Go.Proofs.Ytelciiooegiikaa
open Go.RowKit
set_option linter.unusedSimpArgs false
set_option linter.unusedVariables false
def shBytes : Sh := .sl (.int .u8)
theorem int_of {rs : List RV} (h : Shaped (.int .i64) rs) : ∃ n, inI n ∧ rs = [.v (.int .i64 n)] := by
  obtain ⟨n, hw, rfl⟩ := shaped_int h
  simp only [Lit.wf, Bool.and_eq_true, decide_eq_true_eq] at hw
  refine ⟨n, ?_, rfl⟩
  have h1 : IntKind.i64.min = -2 ^ 63 := rfl
  have h2 : IntKind.i64.max = 2 ^ 63 - 1 := rfl
  unfold inI; omega
theorem byte_of {rs : List RV} (h : Shaped (.int .u8) rs) : ∃ c : UInt8, True ∧ rs = by_ c := by
  obtain ⟨n, hw, rfl⟩ := shaped_int h
  simp only [Lit.wf, Bool.and_eq_true, decide_eq_true_eq] at hw
  have h1 : IntKind.u8.min = 0 := rfl
  have h2 : IntKind.u8.max = 255 := rfl
  have h3 : n.toNat < 256 := by omega
  refine ⟨UInt8.ofNat n.toNat, trivial, ?_⟩
  have : (((UInt8.ofNat n.toNat).toNat : Nat) : Int) = n := by
    rw [UInt8.toNat_ofNat_of_lt' (by simpa using h3)]; omega
  simp only [by_, this]
theorem sl_of {α : Type} {f : α → List RV} {p : α → Prop} {s : Sh} {rs : List RV} (hf : ∀ r, Shaped s r → ∃ x, p x ∧ r = f x) (h : Shaped (.sl s) rs) : ∃ l : List α, ((l.length ≤ 2 ^ 47 ∧ l.length * s.by ≤ 2 ^ 47) ∧ ∀ x ∈ l, p x) ∧ rs = [.ro (l.map f)] := by
  obtain ⟨rows, h1, h2, rfl⟩ := shaped_sl h
  obtain ⟨l, h3, rfl⟩ := rows_of fun r hr => hf r (h2 r hr)
  exact ⟨l, ⟨by simpa using h1, h3⟩, rfl⟩
theorem bytes_of {rs : List RV} (h : Shaped shBytes rs) : ∃ l : List UInt8, l.length ≤ 2 ^ 47 ∧ rs = [bytes l] := by
  obtain ⟨l, h1, h2⟩ := sl_of (fun r h => byte_of h) h
  exact ⟨l, h1.1.1, h2⟩
theorem secs_of {rs : List RV} (h : Shaped (.sl (.sl (.int .u8))) rs) : ∃ l : List (List UInt8), ((l.length ≤ 2 ^ 47 ∧ l.length * 24 ≤ 2 ^ 47) ∧ ∀ s ∈ l, s.length ≤ 2 ^ 47) ∧ rs = [.ro (l.map secRow)] := sl_of (f := secRow) (fun r h => bytes_of h) h
end Go.Proofs.Ytelciiooegiikaa
