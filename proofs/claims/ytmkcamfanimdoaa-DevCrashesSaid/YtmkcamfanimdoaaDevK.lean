/- Volumes that are changed one behind the other. -/
import Derived.Test.YtmkcamfanimdoaaDevFlush
namespace Go.Proofs.Ytmkcamfanimdoaa
open Go.RowKit
set_option maxHeartbeats 4000000
set_option maxRecDepth 20000
attribute [local irreducible] SW SWL SWLn SWD SEcall SEcallv SDv SE SO1 SOg ACalls ACallv Wk EndV
set_option linter.unusedSimpArgs false
set_option linter.unusedVariables false
def mapK (f : VolD → VolD) (l : List VolD) (k : Nat) : List VolD := (l.take k).map f ++ l.drop k
theorem mapK_len (f : VolD → VolD) (l : List VolD) (k : Nat) : (mapK f l k).length = l.length := by
  simp only [mapK, List.length_append, List.length_map, List.length_take, List.length_drop]; omega
theorem mapK_zero (f : VolD → VolD) (l : List VolD) : mapK f l 0 = l := rfl
theorem mapK_allE (f : VolD → VolD) {l : List VolD} {k : Nat} (h : decide ((k : Int) < l.length) = false) : mapK f l k = l.map f := by
  simp at h
  simp only [mapK, List.take_of_length_le (show l.length ≤ k by omega), List.drop_of_length_le (show l.length ≤ k by omega), List.append_nil]
theorem mapK_get (f : VolD → VolD) {l : List VolD} {k : Nat} (h : k < l.length) : (mapK f l k)[k]! = l[k]! := by
  have : (l.take k).length = k := by simp; omega
  simp [mapK, this, List.getElem?_append, Nat.min_eq_left (Nat.le_of_lt h)]
theorem mapK_getE (f : VolD → VolD) {l : List VolD} {k : Nat} (h : decide ((k : Int) < l.length) = true) : (mapK f l k)[k]! = l[k]! := mapK_get f (dltL h)
theorem mapK_next (f : VolD → VolD) {l : List VolD} {k : Nat} (h : k < l.length) : mapK f l (k + 1) = (mapK f l k).set k (f l[k]!) := by
  have hl : (List.map f (l.take k)).length = k := by simp; omega
  have hd : l.drop k = l[k]! :: l.drop (k + 1) := by rw [List.drop_eq_getElem_cons h]; simp [h]
  unfold mapK
  rw [hd, List.set_append_right _ _ (by omega), hl, Nat.sub_self, List.set_cons_zero, take_next h, List.map_append, List.append_assoc]; rfl
theorem mapK_take (f : VolD → VolD) (l : List VolD) (k : Nat) : List.take l.length ((mapK f l k).map VolD.row) = (mapK f l k).map VolD.row := List.take_of_length_le (by rw [List.length_map, mapK_len]; exact Nat.le_refl _)
theorem mapK_row (f : VolD → VolD) {l : List VolD} {k : Nat} (h : decide ((k : Int) < l.length) = true) : rowOf ((mapK f l k).map VolD.row) k = [bytes (l[k]!).data, .v (.int .i64 (l[k]!).synced), .v (.bool (l[k]!).gone)] := by
  have h' := dltL h
  rw [rowOf_map _ _ _ (by rw [mapK_len]; exact h'), mapK_get f h']; rfl
theorem map_take (f : VolD → VolD) (l : List VolD) : List.take l.length ((l.map f).map VolD.row) = (l.map f).map VolD.row := List.take_of_length_le (by simp)
end Go.Proofs.Ytmkcamfanimdoaa
