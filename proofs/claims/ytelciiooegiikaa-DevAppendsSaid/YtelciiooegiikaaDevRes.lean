/- What devices that may be hold; answers with devices. -/
import Derived.Test.YtelciiooegiikaaSameD
namespace Go.Proofs.Ytelciiooegiikaa
open Go.RowKit
set_option maxHeartbeats 4000000
set_option maxRecDepth 20000
attribute [local irreducible] SW OSW SWL SWLn SWD SEcall SEcallv SDv SE SO1 SOg ACalls ACallv Wk EndV
set_option linter.unusedSimpArgs false
set_option linter.unusedVariables false
structure Okd (g : GeoD) (d : DevD) : Prop where
  cache : d.cache.length ≤ 2000
  vols : d.vols.length ≤ 8
  f1 : -1 ≤ d.fuel
  f2 : d.fuel ≤ 1048576
  safe : ∀ i, i < d.safe.length → (d.safe[i]!).length = 64
  wr : ∀ i, i < d.cache.length → 0 ≤ (d.cache[i]!).pos ∧ (d.cache[i]!).pos < d.safe.length ∧ (d.cache[i]!).data.length = 64
  vol : ∀ i, i < d.vols.length → (d.vols[i]!).data.length ≤ 4000 ∧ 0 ≤ (d.vols[i]!).synced ∧ (d.vols[i]!).synced ≤ (d.vols[i]!).data.length
  secs : d.safe.length ≤ 1000
theorem okd {g : GeoD} {d : DevD} (h : devF g d = 0) : Okd g d := by
  unfold devF at h
  cases hg : geoOk g with
  | false => rw [hg] at h; simp at h
  | true =>
    rw [hg] at h
    cases hb : (badD g d || (d.safe.any badS || (d.cache.any (badW d.safe.length) || d.vols.any (badV g)))) with
    | true => rw [hb] at h; simp at h
    | false =>
      have hs := (sec_eq hg).1
      have hg' := hg
      simp only [geoOk, inR, Bool.and_eq_true, decide_eq_true_eq] at hg
      simp only [Bool.or_eq_false_iff] at hb
      obtain ⟨b1, b2, b3, b4⟩ := hb
      simp only [badD, Bool.or_eq_false_iff, decide_eq_false_iff_not, bne_eq_false_iff_eq] at b1
      obtain ⟨c1, c2, c3, c4, c5⟩ := b1
      rw [List.any_eq_false] at b2 b3 b4
      refine ⟨by omega, by omega, by omega, by omega, fun i hi => ?_, fun i hi => ?_, fun i hi => ?_, by rw [hs] at c1; omega⟩
      · have := b2 (d.safe[i]!) (by simp [hi])
        generalize d.safe[i]! = x at this ⊢
        simp [badS] at this; omega
      · have := b3 (d.cache[i]!) (by simp [hi])
        generalize d.cache[i]! = x at this ⊢
        simp [badW] at this; omega
      · have := b4 (d.vols[i]!) (by simp [hi])
        generalize d.vols[i]! = x at this ⊢
        simp [badV] at this; omega
theorem res_errS {D : DevD} {E e : Int} {f : DevD} (hD : D = bif E == 0 then f else nilD) (h : E = e) (he : E ≠ 0) : AV.tup [.agg [.d (.ro []), .d (.ro []), .d (.ro []), I 0], I e] = AV.tup [.agg [.d (.ro (D.safe.map secRow)), .d (.ro (D.cache.map WrD.row)), .d (.ro (D.vols.map VolD.row)), I D.fuel], I e] := by
  have : (E == 0) = false := by simpa using he
  rw [hD, this]; rfl
theorem res_okS {D : DevD} {E : Int} {f : DevD} (hD : D = bif E == 0 then f else nilD) {s c v : RV} {u : Int} (h : E = 0) (h1 : s = .ro (f.safe.map secRow)) (h2 : c = .ro (f.cache.map WrD.row)) (h3 : v = .ro (f.vols.map VolD.row)) (h4 : u = f.fuel) : AV.tup [.agg [.d s, .d c, .d v, I u], I 0] = AV.tup [.agg [.d (.ro (D.safe.map secRow)), .d (.ro (D.cache.map WrD.row)), .d (.ro (D.vols.map VolD.row)), I D.fuel], I 0] := by
  rw [hD, h, h1, h2, h3, h4]; rfl
end Go.Proofs.Ytelciiooegiikaa
