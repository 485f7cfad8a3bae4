/- DevNew: dev.New answers as the reference does, at every geometry. No condition. -/
import Derived.Test.YtmkcamfanimdoaaOpenGeo
import Derived.Test.YtmkcamfanimdoaaNewOf
import Derived.Test.YtmkcamfanimdoaaBox
import Derived.Test.YtmkcamfanimdoaaSame
namespace Go.Proofs.Ytmkcamfanimdoaa
open Go.RowKit
set_option linter.unusedVariables false

/-- the devices that a fault hands back -/
def noDev : Value := .agg #[.slice none 0 0, .slice none 0 0, .slice none 0 0, .int .i64 0]

set_option maxRecDepth 100000 in
theorem New_bad (g : Geo) (hok : g.ok = false) (w : World) :
    Calls Try.prog 28 #[g.val] w fun e w' => e = .returned (.tuple #[noDev, .int .i64 2]) ∧ Grow w w' := by
  have hf : g.fault = 2 := by simp [Geo.fault, hok]
  obtain ⟨a, b, c, d, e⟩ := g
  have C1 := CheckGeometry_any ⟨a, b, c, d, e⟩
  rw [hf] at C1
  unfold Geo.val Geo.cells at *
  have D1 := Lib.hid C1
  clear C1 hf
  go_enter Try.func28, Try.ntmps28
  go_wp2_with (go_at_call 24; refine (D1.out _).mono ?_; rintro e w1 ⟨rfl, hg1⟩; have e2 := hg1.box1; have hc2 := cell_of_block e2; have hf2 := frozen_of_block e2; obtain ⟨z0, z1⟩ := hg1.lt2)
  refine bodyPost_ret (v := .tuple #[noDev, .int .i64 2]) (by simp [results, Try.results28, go_sem, hc2, noDev]) rfl ⟨rfl, ?_⟩
  have hg3 := hg1.from2
  repeat (first | exact hg3 | refine Grow.setCell ?_ (by simp) _)

set_option maxRecDepth 100000 in
theorem NewOf_bad (g : Geo) (hok : g.ok = false) (w : World) :
    Calls Try.prog 29 #[g.val] w fun e w' => e = .returned (.tuple #[noDev, .int .i64 2]) ∧ Grow w w' := by
  have hf : g.fault = 2 := by simp [Geo.fault, hok]
  obtain ⟨a, b, c, d, e⟩ := g
  have C1 := GeometryFault_any ⟨a, b, c, d, e⟩
  rw [hf] at C1
  unfold Geo.val Geo.cells at *
  have D1 := Lib.hid C1
  clear C1 hf
  go_enter Try.func29, Try.ntmps29
  go_wp2_with (go_at_call 25; refine (D1.out _).mono ?_; rintro e w1 ⟨rfl, hg1⟩; have e2 := hg1.box1; have hc2 := cell_of_block e2; have hf2 := frozen_of_block e2; obtain ⟨z0, z1⟩ := hg1.lt2)
  refine bodyPost_ret (v := .tuple #[noDev, .int .i64 2]) (by simp [results, Try.results29, go_sem, hc2, noDev]) rfl ⟨rfl, ?_⟩
  have hg3 := hg1.from2
  repeat (first | exact hg3 | refine Grow.setCell ?_ (by simp) _)

/-- new devices of a geometry -/
def newDev (g : Geo) : Dev := if g.ok then ⟨List.replicate g.sectors zeros, [], [], -1⟩ else ⟨[], [], [], 0⟩

theorem noDev_R (w : World) : DevR (fun _ => False) w noDev ⟨[], [], [], 0⟩ :=
  ⟨_, _, _, rfl, DevF.devR (B := w.heap.size) ⟨OwnR.nil, OwnR.nil, OwnR.nil⟩ ⟨by simp, by simp, by simp, by simp, by simp, by simp⟩ (fun b h => h.elim)⟩

theorem newDev_R {g : Geo} (hok : g.ok = true) {B : Nat} {w : World} {v : Value} (h : RowsF B w v (List.replicate g.sectors zeros)) : DevR (fun _ => False) w (.agg #[v, .slice none 0 0, .slice none 0 0, .int .i64 (-1)]) (newDev g) := by
  have hb := ok_bounds hok
  have hn : g.sectors ≤ 500 := by simp only [Geo.sectors]; omega
  simp only [newDev, hok, if_true]
  refine ⟨_, _, _, rfl, DevF.devR (B := B) ⟨h, OwnR.nil, OwnR.nil⟩ ⟨by simp; omega, by simp, by simp, fun x hx => ?_, by simp, by simp⟩ (fun b h => h.elim)⟩
  rw [List.eq_of_mem_replicate hx]; simp [zeros]

theorem New_any (g : Geo) (w : World) :
    Calls Try.prog 28 #[g.val] w fun e w' => (∃ v, e = .returned (.tuple #[v, .int .i64 g.fault]) ∧ DevR (fun _ => False) w' v (newDev g)) ∧ Grow w w' := by
  cases hok : g.ok
  · refine (New_bad g hok w).mono fun e w' ⟨he, hg⟩ => ⟨⟨_, by simpa [Geo.fault, hok] using he, ?_⟩, hg⟩
    simp only [newDev, hok]; exact noDev_R w'
  · refine (New_ok g hok w).mono fun e w' ⟨⟨v, he, hr⟩, hg⟩ => ⟨⟨_, by simpa [Geo.fault, hok] using he, newDev_R hok hr⟩, hg⟩

theorem NewOf_any (g : Geo) (w : World) :
    Calls Try.prog 29 #[g.val] w fun e w' => (∃ v, e = .returned (.tuple #[v, .int .i64 g.fault]) ∧ DevR (fun _ => False) w' v (newDev g)) ∧ Grow w w' := by
  cases hok : g.ok
  · refine (NewOf_bad g hok w).mono fun e w' ⟨he, hg⟩ => ⟨⟨_, by simpa [Geo.fault, hok] using he, ?_⟩, hg⟩
    simp only [newDev, hok]; exact noDev_R w'
  · refine (NewOf_ok g hok w).mono fun e w' ⟨⟨v, he, hr⟩, hg⟩ => ⟨⟨_, by simpa [Geo.fault, hok] using he, newDev_R hok hr⟩, hg⟩

theorem lawNew_walk (g : Geo) (w : World) :
    Calls Try.prog 5 #[g.val] w fun e w' => e = .returned (.bool true) ∧ Grow w w' := by
  have C1 := New_any g
  have C2 := NewOf_any g
  generalize g.fault = f at *
  generalize newDev g = nd at *
  obtain ⟨a, b, c, d, e⟩ := g
  unfold Geo.val Geo.cells at *
  go_enter Try.func5, Try.ntmps5
  go_wp2_with (first
    | (go_at_call 28; refine (C1 _).mono ?_; rintro e w1 ⟨⟨v1, rfl, s1, k1, t1, rfl, hd1⟩, hg1⟩; obtain ⟨sa1, sc1, rfl⟩ := SLR.ex hd1.safe; obtain ⟨ka1, kc1, rfl⟩ := SLR.ex hd1.cache; obtain ⟨ta1, tc1, rfl⟩ := SLR.ex hd1.vols; have hc1 := cell_of_block hg1.box0; have hz := hg1.lt1)
    | (go_at_call 29; refine (C2 _).mono ?_; rintro e w2 ⟨⟨v2, rfl, s2, k2, t2, rfl, hd2⟩, hg2⟩; obtain ⟨sa2, sc2, rfl⟩ := SLR.ex hd2.safe; obtain ⟨ka2, kc2, rfl⟩ := SLR.ex hd2.cache; obtain ⟨ta2, tc2, rfl⟩ := SLR.ex hd2.vols; have hc2 := cell_of_block hg2.box0; have hz2 := hg2.lt1)
    | (go_at_call 30; refine (sameDevices_true _ _ _ _ nd _ ⟨_, _, _, rfl, hd1.grow (hg2.from1.alloc _)⟩ ⟨_, _, _, rfl, hd2.grow ((Grow.refl _).alloc _)⟩).mono ?_; rintro e w3 ⟨rfl, hg3⟩; obtain ⟨hc3, hf3⟩ := hg3.cells))
  go_ret
  exact ⟨by simp, hg1.from1.trans (hg2.from1.trans hg3.from1)⟩
end Go.Proofs.Ytmkcamfanimdoaa
