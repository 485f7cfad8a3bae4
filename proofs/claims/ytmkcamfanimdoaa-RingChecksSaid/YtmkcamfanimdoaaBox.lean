/- The blocks that a function makes at its entry, as later worlds show them. -/
import Derived.Test.YtmkcamfanimdoaaOwn
namespace Go.Proofs.Ytmkcamfanimdoaa
open Go.RowKit
set_option linter.unusedVariables false

theorem Grow.box0 {w w' : World} {cs : Array Value} {T : TypeId} (hg : Grow (w.alloc (.cells cs T)) w') : w'.heap[w.heap.size]? = some (.cells cs T (0, 0)) :=
  Grow.hp hg (hp_new rfl)
theorem Grow.box1 {w w' : World} {o : Obj} {cs : Array Value} {T : TypeId} (hg : Grow ((w.alloc o).alloc (.cells cs T)) w') : w'.heap[w.heap.size + 1]? = some (.cells cs T (0, 0)) :=
  Grow.hp hg (hp_new (by simp))
theorem Grow.box01 {w w' : World} {o : Obj} {cs : Array Value} {T : TypeId} (hg : Grow ((w.alloc (.cells cs T)).alloc o) w') : w'.heap[w.heap.size]? = some (.cells cs T (0, 0)) :=
  Grow.hp hg ((hp_old (by simp)).trans (hp_new rfl))
theorem Grow.lt1 {w w' : World} {o : Obj} (hg : Grow (w.alloc o) w') : w.heap.size < w'.heap.size := by have := hg.size; simp at this; omega
theorem Grow.lt2 {w w' : World} {o o' : Obj} (hg : Grow ((w.alloc o).alloc o') w') : w.heap.size < w'.heap.size ∧ w.heap.size + 1 < w'.heap.size := by have := hg.size; simp at this; omega
theorem Grow.from1 {w w' : World} {o : Obj} (hg : Grow (w.alloc o) w') : Grow w w' := ((Grow.refl w).alloc _).trans hg
theorem Grow.from2 {w w' : World} {o o' : Obj} (hg : Grow ((w.alloc o).alloc o') w') : Grow w w' := (((Grow.refl w).alloc _).alloc _).trans hg
theorem SLR.ex {α : Type} {L : Nat → Prop} {w : World} {v : Value} {k : Nat} {R : World → Array Value → α → Prop} {xs : List α} (h : SLR L w v k R xs) : ∃ a c, v = .slice a xs.length c := by
  obtain ⟨es, h1, h2, _⟩ := h
  obtain ⟨a, c, rfl, _⟩ := h1.ex
  exact ⟨a, c, by rw [h2]⟩
/-- The block's cells, in every later world. -/
theorem look_of_block {w : World} {b : Nat} {cs : Array Value} {T : TypeId} {fr : Nat × Nat} (h : w.heap[b]? = some (.cells cs T fr)) : ∀ (w' : World) (o : Nat), Grow w w' → w'.cell? ⟨b, o, none⟩ = cs[o]? :=
  fun w' o hg => cell_of_block' (hg.hp h)
end Go.Proofs.Ytmkcamfanimdoaa
