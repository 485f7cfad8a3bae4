/- The reference's OpenOf, walked. -/
import Derived.Test.YtalhjhmphdgaoaaRvG
import Derived.Test.YtalhjhmphdgaoaaFz
namespace Go.Proofs.Ytalhjhmphdgaoaa
open Go.RowKit
set_option maxHeartbeats 4000000
set_option maxRecDepth 20000
attribute [local irreducible] SW SWL SWLn SWD SEcall SEcallv SDv SE SO1 SOg ACalls ACallv Wk EndV
set_option linter.unusedSimpArgs false
set_option linter.unusedVariables false
theorem fOk_ref (b : List UInt8) : fOk b = !(decide ((b[9]!.toNat : Int) > 1) || decide (nA b 10 2 > 52) || (b[9]!.toNat : Int) == 0 && nA b 10 2 != 52) := by
  have h0 : (0 : Int) ≤ (b[9]!.toNat : Int) := by omega
  unfold fOk fL9
  generalize (b[9]!.toNat : Int) = x at *
  generalize nA b 10 2 = y
  rw [Bool.eq_iff_iff]
  simp only [Bool.not_eq_true', Bool.or_eq_false_iff, decide_eq_false_iff_not, Bool.and_eq_false_iff, beq_eq_false_iff_ne, bne_eq_false_iff_eq, Bool.not_eq_false', beq_iff_eq, ne_eq]
  omega
theorem fE_ok {b : List UInt8} (h : fOk b = true) : fE b = nA b 0 4 := by unfold fE; rw [h]; rfl
theorem fB_ok {b : List UInt8} (h : fOk b = true) : fB b = (b.drop 12).take (nA b 10 2).toNat := by unfold fB; rw [h]; rfl
theorem fL_ok {b : List UInt8} (h : fOk b = true) : fL b = ((b[9]!.toNat : Int) == 1) := by unfold fL fL9; rw [h]; rfl
theorem trOk_ok {g : GeoD} {d : DevD} {place n low : Int} {i : Nat} (h : trOk g d place n low i = true) : fOk (trS g d place i) = true := by
  unfold trOk at h
  cases hf : fOk (trS g d place i) with
  | true => rfl
  | false => rw [hf] at h; simp at h
theorem trOk_ref (g : GeoD) (d : DevD) (place n low : Int) (i : Nat) : trOk g d place n low i = !(decide (((trS g d place i)[9]!.toNat : Int) > 1) || decide (nA (trS g d place i) 10 2 > 52) || (((trS g d place i)[9]!.toNat : Int) == 0 && nA (trS g d place i) 10 2 != 52) || nA (trS g d place i) 4 4 != n || ((trS g d place i)[8]!.toNat : Int) != (i : Int) || ((i : Int) == 0 && decide (nA (trS g d place i) 0 4 < low)) || (decide ((i : Int) > 0) && nA (trS g d place i) 0 4 != trE g d place i)) := by
  unfold trOk
  have h1 := fOk_ref (trS g d place i)
  generalize hA : (decide (((trS g d place i)[9]!.toNat : Int) > 1) || decide (nA (trS g d place i) 10 2 > 52) || (((trS g d place i)[9]!.toNat : Int) == 0 && nA (trS g d place i) 10 2 != 52)) = A at *
  cases hf : fOk (trS g d place i) with
  | false =>
    rw [hf] at h1
    have : A = true := by simpa using h1.symm
    rw [this]; simp
  | true =>
    rw [hf] at h1
    have : A = false := by simpa using h1.symm
    rw [this]
    unfold fE fNo fI fI8
    rw [hf]
    simp
def opR (g : GeoD) (d : DevD) (p : OpS × Bool) : OpS × Bool := bif (opT g d p.1).isSome then (opN g d p.1, true) else (p.1, false)
def opRk (g : GeoD) (d : DevD) (s : OpS) : Nat → OpS × Bool
  | 0 => (s, true)
  | k + 1 => opR g d (opRk g d s k)
theorem opRk_0 (g : GeoD) (d : DevD) (s : OpS) : opRk g d s 0 = (s, true) := rfl
theorem opRk_yes {g : GeoD} {d : DevD} {s : OpS} {v k : Nat} (h : opT g d (opRk g d s v).1 = some k) : opRk g d s (v + 1) = (opN g d (opRk g d s v).1, true) := by
  show opR g d _ = _; unfold opR; rw [h]; rfl
theorem opRk_no {g : GeoD} {d : DevD} {s : OpS} {v : Nat} (h : opT g d (opRk g d s v).1 = none) : opRk g d s (v + 1) = ((opRk g d s v).1, false) := by
  show opR g d _ = _; unfold opR; rw [h]; rfl
structure RInv (g : GeoD) (d : DevD) (R : OpS) (p : OpS × Bool) (v : Nat) : Prop where
  p1 : 0 ≤ p.1.place
  p2 : p.1.place < g.ring
  u1 : 0 ≤ p.1.used
  u2 : p.1.used ≤ g.ring
  n1 : 1 ≤ p.1.next
  n2 : p.1.next ≤ 1048576
  l1 : p.1.all.length ≤ 61
  go : p.2 = true → opF g d (61 - v) p.1 = R ∧ OpInv g p.1 v
  no : p.2 = false → R = p.1
theorem rinv_0 {g : GeoD} {d : DevD} {R s : OpS} (h : OpInv g s 0) (hR : opF g d 61 s = R) : RInv g d R (s, true) 0 := by
  obtain ⟨p1, p2, u1, u2, n1, n2, al⟩ := h
  exact ⟨p1, p2, by show 0 ≤ s.used; omega, u2, n1, n2, by show s.all.length ≤ 61; omega, fun _ => ⟨hR, ⟨p1, p2, u1, u2, n1, n2, al⟩⟩, fun h => by cases h⟩
theorem rinv_yes {g : GeoD} {d : DevD} {R : OpS} {s : OpS} {v k : Nat} (hB : GeoB g) (h : RInv g d R (s, true) v) (hn : decide (s.next < 1048576) = true) (hT : opT g d s = some k) : RInv g d R (opN g d s, true) (v + 1) ∧ v < 61 := by
  have hgo : opGo g d s = true := by unfold opGo; rw [hn, hT]; rfl
  obtain ⟨h1, h2⟩ := h.go rfl
  have h3 : OpInv g (opN g d s) (v + 1) := op_next hB h2 hgo
  have h4 := h3.u1
  have h5 := h3.u2
  have h6 := hB.r2
  have hv : v < 61 := by omega
  refine ⟨⟨h3.p1, h3.p2, by show 0 ≤ (opN g d s).used; omega, h3.u2, h3.n1, h3.n2, by show (opN g d s).all.length ≤ 61; rw [h3.al]; omega, fun _ => ⟨?_, h3⟩, fun h => by cases h⟩, hv⟩
  obtain ⟨f, hf⟩ : ∃ f, 61 - v = f + 1 := ⟨61 - v - 1, by omega⟩
  rw [hf, opF, hgo] at h1
  rw [show 61 - (v + 1) = f by omega]; exact h1
theorem rinv_no {g : GeoD} {d : DevD} {R : OpS} {s : OpS} {v : Nat} (hB : GeoB g) (h : RInv g d R (s, true) v) (hT : opT g d s = none) : RInv g d R (s, false) (v + 1) ∧ v < 61 := by
  have hgo : opGo g d s = false := by unfold opGo; rw [hT, Option.isSome_none, Bool.and_false]
  obtain ⟨h1, h2⟩ := h.go rfl
  have h4 := h2.u1
  have h5 := h2.u2
  have h6 := hB.r2
  have hv : v < 61 := by simp only at h4 h5; omega
  refine ⟨⟨h.p1, h.p2, h.u1, h.u2, h.n1, h.n2, h.l1, (fun h => by cases h), (fun _ => ?_)⟩, hv⟩
  obtain ⟨f, hf⟩ : ∃ f, 61 - v = f + 1 := ⟨61 - v - 1, by omega⟩
  rw [hf, opF, hgo] at h1
  exact h1.symm
theorem rinv_end {g : GeoD} {d : DevD} {R : OpS} {p : OpS × Bool} {v : Nat} (h : RInv g d R p v) (hn : p.2 = false ∨ decide (p.1.next < 1048576) = false) : R = p.1 := by
  cases hp : p.2 with
  | false => exact h.no hp
  | true =>
    have hn : decide (p.1.next < 1048576) = false := hn.resolve_left (by rw [hp]; decide)
    obtain ⟨h1, _⟩ := h.go hp
    have hgo : opGo g d p.1 = false := by unfold opGo; rw [hn]; rfl
    cases hk : 61 - v with
    | zero => rw [hk] at h1; exact h1.symm
    | succ f => rw [hk, opF, hgo] at h1; exact h1.symm
theorem tK_some (i : Nat) : tK (some i) = (i : Int) + 1 := rfl
theorem tE_some (g : GeoD) (d : DevD) (place : Int) (i : Nat) : tE g d place (some i) = fE (trS g d place i) := rfl
theorem tB_some (g : GeoD) (d : DevD) (place : Int) (i : Nat) : tB g d place (some i) = trB g d place (i + 1) := rfl
theorem opT_def (g : GeoD) (d : DevD) (s : OpS) : trF g d s.place s.next s.low (g.ring - s.used).toNat 0 = opT g d s := rfl
theorem r_no {g : GeoD} {d : DevD} {R s0 : OpS} {v : Nat} (hB : GeoB g) (h : RInv g d R (opRk g d s0 v) v) (hm : (opRk g d s0 v).2 = true) (hT : opT g d (opRk g d s0 v).1 = none) : v < 62 ∧ RInv g d R (opRk g d s0 (v + 1)) (v + 1) ∧ opRk g d s0 (v + 1) = ((opRk g d s0 v).1, false) := by
  have hp : opRk g d s0 v = ((opRk g d s0 v).1, true) := Prod.ext rfl hm
  have e := opRk_no hT
  rw [hp] at h
  obtain ⟨h1, h2⟩ := rinv_no hB h hT
  rw [e]
  exact ⟨by omega, h1, rfl⟩
theorem r_yes {g : GeoD} {d : DevD} {R s0 : OpS} {v k : Nat} (hB : GeoB g) (h : RInv g d R (opRk g d s0 v) v) (hm : (opRk g d s0 v).2 = true) (hn : decide ((opRk g d s0 v).1.next < 1048576) = true) (hT : opT g d (opRk g d s0 v).1 = some k) : v < 62 ∧ RInv g d R (opRk g d s0 (v + 1)) (v + 1) ∧ opRk g d s0 (v + 1) = (opN g d (opRk g d s0 v).1, true) := by
  have hp : opRk g d s0 v = ((opRk g d s0 v).1, true) := Prod.ext rfl hm
  have e := opRk_yes hT
  rw [hp] at h
  obtain ⟨h1, h2⟩ := rinv_yes hB h hn hT
  rw [e]
  exact ⟨by omega, h1, rfl⟩
theorem newK2_eq {g : GeoD} {d : DevD} (hg : geoOk g = true) : newK g d 2 = bif decide ((supJ g d 1).gen > (supJ g d 0).gen) then supJ g d 1 else supJ g d 0 := by
  have h1 : newK g d 1 = supJ g d 0 := by
    show cond _ _ _ = _
    unfold supJ
    cases hs : supOk g 0 (getR g d 0) with
    | false => simp only [Int.natCast_zero]; simp only [hs, Bool.false_and, cond_false]; rfl
    | true =>
      have h2 := hs
      simp only [supOk, Bool.and_eq_true, beq_iff_eq] at h2
      have h3 := (jok_of hg h2.1).g1
      have h4 : decide ((unsJ (getR g d 0)).gen > (newK g d 0).gen) = true := by
        rw [newK_0]; simpa using (by omega : (unsJ (getR g d 0)).gen > 0)
      simp only [Int.natCast_zero] at *
      simp only [hs, h4, Bool.true_and, cond_true]
  have h0 : 0 ≤ (supJ g d 0).gen := by
    unfold supJ
    cases hs : supOk g 0 (getR g d 0) with
    | false => exact Int.le_refl 0
    | true =>
      simp only [supOk, Bool.and_eq_true, beq_iff_eq] at hs
      have h3 := (jok_of hg hs.1).g1
      simp only [cond_true]; omega
  show cond _ _ _ = _
  rw [h1, show (((1 : Nat) : Int)) = 1 from rfl]
  cases hs : supOk g 1 (getR g d 1) with
  | true =>
    have e : supJ g d 1 = unsJ (getR g d 1) := by unfold supJ; rw [hs]; rfl
    rw [e]; rfl
  | false =>
    have e : supJ g d 1 = nilJ := by unfold supJ; rw [hs]; rfl
    have : decide ((supJ g d 1).gen > (supJ g d 0).gen) = false := by
      rw [e]; simpa [nilJ] using h0
    rw [this]; rfl
end Go.Proofs.Ytalhjhmphdgaoaa
