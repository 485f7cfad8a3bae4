/- ring.Commit. -/
import Derived.Test.YtkcfnhfbdcnhjaaFormat
import Derived.Test.YtkcfnhfbdcnhjaaFrame
import Derived.Test.YtkcfnhfbdcnhjaaJrn
import Derived.Test.YtkcfnhfbdcnhjaaTypes
namespace Go.Proofs.Ytkcfnhfbdcnhjaa
open Go.RowKit
set_option maxRecDepth 100000
end Go.Proofs.Ytkcfnhfbdcnhjaa
namespace Go.Proofs.Ytkcfnhfbdcnhjaa
open Go.RowKit
set_option maxHeartbeats 4000000
set_option maxRecDepth 20000
attribute [local irreducible] SW SWL SWLn SWD SEcall SEcallv SDv SE SO1 SOg ACalls ACallv Wk EndV
set_option linter.unusedSimpArgs false
set_option linter.unusedVariables false
def m52 (b : List UInt8) : Nat := (b.length + 51) / 52
def kN (b : List UInt8) : Nat := max 1 (m52 b)
theorem run_snoc (g : GeoD) (d : DevD) (ts : List TodD) (t : TodD) : runF g d (ts ++ [t]) = stepF g (runF g d ts) t := by
  unfold runF; rw [List.foldl_append]; rfl
theorem jrn_or (g : GeoD) (j : JrnD) : jrnF g j = 0 ∨ ((jrnF g j == 0) = false ∧ (jrnF g j != 0) = true) := by
  by_cases h : jrnF g j = 0
  · exact .inl h
  · exact .inr ⟨by simpa using h, by simpa using h⟩
theorem jok_of {g : GeoD} {j : JrnD} (hg : geoOk g = true) (h : jrnF g j = 0) : JOk g j := by
  unfold jrnF at h
  rw [if_pos hg] at h
  by_cases hj : JOk g j
  · exact hj
  · rw [if_neg hj] at h; exact absurd h (by decide)
theorem jrn_0 {g : GeoD} {j : JrnD} (hg : geoOk g = true) (h : JOk g j) : jrnF g j = 0 := (jrn_ok hg h).symm
structure JB (g : GeoD) (j : JrnD) : Prop where
  p1 : 0 ≤ j.place
  p2 : j.place < g.ring
theorem jB {g : GeoD} {j : JrnD} (hB : GeoB g) (h : JOk g j) : JB g j := by
  have h1 := h.s1
  have h2 := h.u1
  have h3 := hB.r1
  refine ⟨?_, ?_⟩ <;> rw [h.p]
  · exact Int.tmod_nonneg _ (by omega)
  · exact Int.tmod_lt_of_pos _ (by omega)
theorem geo_dev {g : GeoD} {d : DevD} (h : devF g d = 0) : geoOk g = true := by
  unfold devF at h
  cases hg : geoOk g with
  | true => rfl
  | false => rw [hg] at h; simp at h
theorem minW2 (k k' : IntKind) (x y : Int) : minV true [.d (.v (.int k x)), .d (.v (.int k' y))] = some (.d (.v (.int k (if decide (y < x) = true then y else x)))) := rfl
theorem aokB (n : Nat) (cs : List AV) : (AO.box cs).kill n = .box (cs.map (AV.kill n)) := rfl
theorem aokD (n : Nat) : AO.dead.kill n = .dead := rfl
theorem aokA (n k : Nat) (E : TypeId) (rows : List (List RV)) : (AO.arr k E rows).kill n = .arr k E rows := rfl
theorem maxW (k k' : IntKind) (x y : Int) : minV false [.d (.v (.int k x)), .d (.v (.int k' y))] = some (.d (.v (.int k (if decide (x < y) = true then y else x)))) := rfl
def enC (b : List UInt8) (k : Nat) : Int := if decide ((b.length : Int) < ((k : Int) + 1) * 52) = true then (b.length : Int) else ((k : Int) + 1) * 52
attribute [local irreducible] handO runF endR jEnd frB chS kN m52 enC
end Go.Proofs.Ytkcfnhfbdcnhjaa
