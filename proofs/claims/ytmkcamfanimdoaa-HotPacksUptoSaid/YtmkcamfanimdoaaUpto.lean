/- What is of small bulk has few elements. -/
import Derived.Test.YtmkcamfanimdoaaRows
import Derived.Test.YtmkcamfanimdoaaBridge
import Derived.Deep.CondSized
namespace Go.Proofs.Ytmkcamfanimdoaa
open Go.ChangeShapes Go.WideShapes Go.ChangeAt Go.RowKit
set_option linter.unusedVariables false
theorem bulk_pos {H : Type} (d : DataW H) : 1 ≤ Rows.uptoBulk d := by
  cases d with
  | lit l => cases l <;> simp [Rows.uptoBulk]
  | _ => simp [Rows.uptoBulk]
theorem bulkAll_len {H : Type} : ∀ (l : List (DataW H)), l.length ≤ Rows.uptoBulkAll l
  | [] => by simp [Rows.uptoBulkAll]
  | d :: l => by
    have h1 := bulk_pos d
    have h2 := bulkAll_len l
    simp only [Rows.uptoBulkAll, List.length_cons]; omega
theorem bulk_mem {H : Type} {d : DataW H} : ∀ {l : List (DataW H)}, d ∈ l → Rows.uptoBulk d ≤ Rows.uptoBulkAll l
  | [], h => by cases h
  | e :: l, h => by
    simp only [Rows.uptoBulkAll]
    rcases List.mem_cons.1 h with rfl | h
    · omega
    · have := bulk_mem h; omega
theorem slice_bulk {H : Type} {enc : TypeId × Value → H} {P : Program} {w : World} {base : Nat} {spare : Nat → Bool} {held : Bool} {t e : TypeId} {v : Value} {d : DataW H} {p : List MemPlace} {K : KS} {w' : World} {rows : List (List RV)} (hu : P.underlying t = some (.slice e))
    (h : DataW.Trod enc P w base spare held t v d p) (hr : Rep K w' (.d (.ro rows)) v) : rows.length ≤ Rows.uptoBulk d := by
  obtain ⟨fuel, h⟩ := h
  cases hr with
  | d hr =>
    cases hr with
    | nil => simp
    | ro g1 g2 g3 g4 g5 g6 g7 g8 =>
      rcases DataW.trod_slice hu h with ⟨hc, _⟩ | ⟨a, len, cap, elems, rest, m, _, hc, hd, _, _, _, h6, _⟩
      · simp [Value.cells] at hc
      · simp [Value.cells] at hc
        obtain ⟨rfl, _⟩ : rows.length = len ∧ True := ⟨hc.2.1, trivial⟩
        simp only [Prod.mk.injEq] at hd
        rw [hd.1]
        have := bulkAll_len (elems.map (·.1))
        simp only [Rows.uptoBulk, List.length_map] at this ⊢
        omega
end Go.Proofs.Ytmkcamfanimdoaa
