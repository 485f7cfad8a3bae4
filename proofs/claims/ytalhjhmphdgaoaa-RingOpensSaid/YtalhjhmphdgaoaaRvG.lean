/- What is read when a journal is opened: the snapshot, the transactions; plain. -/
import Derived.Test.YtalhjhmphdgaoaaRvF
namespace Go.Proofs.Ytalhjhmphdgaoaa
open Go.RowKit
set_option maxHeartbeats 4000000
set_option maxRecDepth 20000
attribute [local irreducible] SW SWL SWLn SWD SEcall SEcallv SDv SE SO1 SOg ACalls ACallv Wk EndV
set_option linter.unusedSimpArgs false
set_option linter.unusedVariables false
theorem trF_lt {g : GeoD} {d : DevD} {place n low : Int} : ∀ {f i j : Nat}, trF g d place n low f i = some j → j < i + f
  | 0, i, j, h => by cases h
  | f + 1, i, j, h => by
    unfold trF at h
    cases h1 : trOk g d place n low i with
    | false => rw [h1] at h; cases h
    | true =>
      rw [h1] at h
      cases h2 : fL (trS g d place i) with
      | true => rw [h2] at h; simp only [cond_true, Option.some.injEq] at h; omega
      | false =>
        rw [h2] at h
        simp only [cond_true, cond_false] at h
        have := trF_lt h
        omega
theorem tK_b {g : GeoD} {d : DevD} {place n low : Int} {room : Nat} : 0 ≤ tK (trR g d place n low room) ∧ tK (trR g d place n low room) ≤ room := by
  cases h : trR g d place n low room with
  | none => simp [tK]
  | some i => have := trF_lt h; simp only [tK]; omega
theorem tK_1 {r : Option Nat} (h : r.isSome = true) : 1 ≤ tK r := by
  cases r with
  | none => cases h
  | some i => simp only [tK]; omega
structure OpS where
  place : Int
  used : Int
  next : Int
  low : Int
  all : List (List UInt8)
def opT (g : GeoD) (d : DevD) (s : OpS) : Option Nat := trR g d s.place s.next s.low (g.ring - s.used).toNat
def opN (g : GeoD) (d : DevD) (s : OpS) : OpS := ⟨(s.place + tK (opT g d s)).tmod g.ring, s.used + tK (opT g d s), s.next + 1, tE g d s.place (opT g d s), s.all ++ [tB g d s.place (opT g d s)]⟩
def opGo (g : GeoD) (d : DevD) (s : OpS) : Bool := decide (s.next < 1048576) && (opT g d s).isSome
def opF (g : GeoD) (d : DevD) : Nat → OpS → OpS
  | 0, s => s
  | f + 1, s => bif opGo g d s then opF g d f (opN g d s) else s
def opK (g : GeoD) (d : DevD) (s : OpS) : Nat → OpS
  | 0 => s
  | k + 1 => opN g d (opK g d s k)
theorem opK_0 (g : GeoD) (d : DevD) (s : OpS) : opK g d s 0 = s := rfl
structure OpInv (g : GeoD) (s : OpS) (k : Nat) : Prop where
  p1 : 0 ≤ s.place
  p2 : s.place < g.ring
  u1 : (k : Int) ≤ s.used
  u2 : s.used ≤ g.ring
  n1 : 1 ≤ s.next
  n2 : s.next ≤ 1048576
  al : s.all.length = k
theorem op_next {g : GeoD} {d : DevD} {s : OpS} {k : Nat} (hB : GeoB g) (h : OpInv g s k) (hg : opGo g d s = true) : OpInv g (opN g d s) (k + 1) := by
  simp only [opGo, Bool.and_eq_true, decide_eq_true_eq] at hg
  obtain ⟨h1, h2⟩ := hg
  have t1 := tK_1 h2
  have t2 := tK_b (g := g) (d := d) (place := s.place) (n := s.next) (low := s.low) (room := (g.ring - s.used).toNat)
  have t3 : tK (opT g d s) ≤ (g.ring - s.used).toNat := t2.2
  obtain ⟨p1, p2, u1, u2, n1, n2, al⟩ := h
  have t4 := tmod_b hB (x := s.place + tK (opT g d s)) (by omega)
  refine ⟨t4.1, t4.2, ?_, ?_, ?_, ?_, ?_⟩ <;> simp only [opN] <;> first | omega | (rw [List.length_append, al]; rfl)
theorem opF_go {g : GeoD} {d : DevD} {s0 R : OpS} {k : Nat} (h : opF g d (61 - k) (opK g d s0 k) = R) (hk : k < 61) (hg : opGo g d (opK g d s0 k) = true) : opF g d (61 - (k + 1)) (opK g d s0 (k + 1)) = R := by
  obtain ⟨f, hf⟩ : ∃ f, 61 - k = f + 1 := ⟨61 - k - 1, by omega⟩
  rw [hf, opF, hg] at h
  rw [show 61 - (k + 1) = f by omega]; exact h
theorem opF_end {g : GeoD} {d : DevD} {s0 R : OpS} {k : Nat} (h : opF g d (61 - k) (opK g d s0 k) = R) (hg : opGo g d (opK g d s0 k) = false) : R = opK g d s0 k := by
  cases hk : 61 - k with
  | zero => rw [hk] at h; exact h.symm
  | succ f => rw [hk, opF, hg] at h; exact h.symm
def posO (g : GeoD) (j : JrnD) (k : Nat) : Int := IntKind.i64.wrap (arV g j.area + k)
def snM (j : JrnD) (k : Nat) : Int := if decide (j.length - (k : Int) * 64 < 64) = true then j.length - (k : Int) * 64 else 64
def snB (g : GeoD) (d : DevD) (j : JrnD) : Nat → List UInt8
  | 0 => []
  | k + 1 => snB g d j k ++ (getR g d (posO g j k)).take (snM j k).toNat
def fuB (g : GeoD) (d : DevD) (j : JrnD) : Nat → List UInt8
  | 0 => []
  | k + 1 => fuB g d j k ++ getR g d (posO g j k)
def mO (j : JrnD) : Nat := ((j.length + 63) / 64).toNat
theorem snB_0 (g : GeoD) (d : DevD) (j : JrnD) : snB g d j 0 = [] := rfl
theorem fuB_0 (g : GeoD) (d : DevD) (j : JrnD) : fuB g d j 0 = [] := rfl
theorem snB_next (g : GeoD) (d : DevD) (j : JrnD) (k : Nat) : snB g d j k ++ (getR g d (posO g j k)).take (snM j k).toNat = snB g d j (k + 1) := rfl
theorem fuB_next (g : GeoD) (d : DevD) (j : JrnD) (k : Nat) : fuB g d j k ++ getR g d (posO g j k) = fuB g d j (k + 1) := rfl
theorem snM_b {j : JrnD} {k : Nat} (h : (k : Int) * 64 < j.length) : 0 ≤ snM j k ∧ snM j k ≤ 64 := by
  unfold snM
  by_cases hc : j.length - (k : Int) * 64 < 64
  · rw [if_pos (by simpa using hc)]; omega
  · rw [if_neg (by simpa using hc)]; omega
theorem snB_len {g : GeoD} {d : DevD} {j : JrnD} : ∀ k : Nat, (k : Int) * 64 < j.length + 64 → (snB g d j k).length ≤ 64 * k
  | 0, _ => by simp [snB]
  | k + 1, h => by
    have h1 := snB_len (g := g) (d := d) (j := j) k (by omega)
    have h2 := snM_b (j := j) (k := k) (by omega)
    rw [← snB_next, List.length_append, List.length_take]
    omega
theorem snM_le (j : JrnD) (k : Nat) : (snM j k).toNat ≤ 64 := by
  unfold snM
  by_cases hc : j.length - (k : Int) * 64 < 64
  · rw [if_pos (by simpa using hc)]; omega
  · rw [if_neg (by simpa using hc)]; omega
theorem posO_r {g : GeoD} {d : DevD} {j : JrnD} (h : devF g d = 0) (hj : JOk g j) {k : Nat} (hk : (k : Int) * 64 < j.length) : 0 ≤ posO g j k ∧ posO g j k < (d.safe.length : Int) := by
  have hO := okR h
  have hB := geoB hO.geo
  have hl := hO.len
  obtain ⟨gr1, gr2, ga1, ga2, gh1, gh2⟩ := hB
  obtain ⟨g1, g2, e1, e2, f1, n1, n2, a1, a2, l1, l2, s1, s2, u1, u2, pp⟩ := hj
  have hk2 : (k : Int) < g.area := by omega
  have ha : j.area = 0 ∨ j.area = 1 := by omega
  unfold posO arV
  rcases ha with ha | ha <;> rw [ha]
  · rw [Int.zero_mul, IntWalk.i64_in (2 + g.ring) (by omega), IntWalk.i64_in 0 (by omega), IntWalk.i64_in (2 + g.ring + 0) (by omega), IntWalk.i64_in (2 + g.ring + 0 + (k : Int)) (by omega)]
    omega
  · rw [Int.one_mul, IntWalk.i64_in (2 + g.ring) (by omega), IntWalk.i64_in g.area (by omega), IntWalk.i64_in (2 + g.ring + g.area) (by omega), IntWalk.i64_in (2 + g.ring + g.area + (k : Int)) (by omega)]
    omega
theorem sn_64 {g : GeoD} {d : DevD} {j : JrnD} (h : devF g d = 0) (hj : JOk g j) {k : Nat} (hk : (k : Int) * 64 < j.length) : (getR g d (posO g j k)).length = 64 := by
  have := posO_r h hj hk
  exact getR_64 h this.1 this.2
theorem fuB_len {g : GeoD} {d : DevD} {j : JrnD} (h : devF g d = 0) (hj : JOk g j) : ∀ k : Nat, (k : Int) * 64 < j.length + 64 → (fuB g d j k).length = 64 * k
  | 0, _ => by simp [fuB]
  | k + 1, hk => by
    have h1 := fuB_len h hj k (by omega)
    have h2 := sn_64 (k := k) h hj (by omega)
    rw [← fuB_next, List.length_append, h1, h2]; omega
theorem snB_fuB {g : GeoD} {d : DevD} {j : JrnD} (h : devF g d = 0) (hj : JOk g j) : ∀ k : Nat, (k : Int) * 64 < j.length + 64 → snB g d j k = (fuB g d j k).take j.length.toNat
  | 0, _ => by simp [snB, fuB]
  | k + 1, hk => by
    have h1 := snB_fuB h hj k (by omega)
    have h2 := fuB_len h hj k (by omega)
    have h3 := sn_64 (k := k) h hj (by omega)
    rw [← snB_next, ← fuB_next, h1, List.take_append, h2, List.take_of_length_le (l := fuB g d j k) (by omega)]
    congr 1
    unfold snM
    by_cases hc : j.length - (k : Int) * 64 < 64
    · rw [if_pos (by simpa using hc)]; congr 1; omega
    · rw [if_neg (by simpa using hc), List.take_of_length_le (by omega), List.take_of_length_le (by omega)]
theorem mO_facts {j : JrnD} (h : 0 ≤ j.length) : (mO j : Int) * 64 < j.length + 64 ∧ j.length ≤ (mO j : Int) * 64 := by unfold mO; omega
def jE (j : JrnD) (s : OpS) : JrnD := ⟨j.gen + 1, j.epoch + 1, j.area, j.length, j.start, j.first, s.place, s.next, s.used⟩
def oT (J : JrnD) : List TodD := [⟨false, J.gen.tmod 2, superB J⟩, ⟨true, 0, []⟩]
def oS1 (g : GeoD) (d : DevD) (J : JrnD) : DevD × Int := stepF g (d, 0) ⟨false, J.gen.tmod 2, superB J⟩
def oS2 (g : GeoD) (d : DevD) (J : JrnD) : DevD × Int := stepF g (oS1 g d J) ⟨true, 0, []⟩
theorem oS2_eq (g : GeoD) (d : DevD) (J : JrnD) : runF g d (oT J) = oS2 g d J := rfl
def op0 (j : JrnD) : OpS := ⟨j.place, j.used, j.next, 0, []⟩
structure JNew (g : GeoD) (j : JrnD) : Prop where
  ok : JOk g j
  used : j.used = 0
theorem newK_ok {g : GeoD} {d : DevD} (hg : geoOk g = true) : ∀ k, (newK g d k).gen > 0 → JNew g (newK g d k)
  | 0, h => by rw [newK_0] at h; exact absurd h (by decide)
  | k + 1, h => by
    cases hc : (supOk g k (getR g d k) && decide ((unsJ (getR g d k)).gen > (newK g d k).gen)) with
    | false =>
      have e : newK g d (k + 1) = newK g d k := by
        show cond _ _ _ = _; rw [hc]; rfl
      rw [e] at h ⊢; exact newK_ok hg k h
    | true =>
      have e : newK g d (k + 1) = unsJ (getR g d k) := by
        show cond _ _ _ = _; rw [hc]; rfl
      rw [e]
      simp only [supOk, Bool.and_eq_true, beq_iff_eq] at hc
      exact ⟨jok_of hg hc.1.1, rfl⟩
theorem op0_ok {g : GeoD} {j : JrnD} (hB : GeoB g) (h : JNew g j) : OpInv g (op0 j) 0 := by
  obtain ⟨jp1, jp2⟩ := jB hB h.ok
  obtain ⟨g1, g2, e1, e2, f1, n1, n2, a1, a2, l1, l2, s1, s2, u1, u2, pp⟩ := h.ok
  refine ⟨jp1, jp2, ?_, ?_, ?_, ?_, rfl⟩ <;> simp only [op0] <;> omega
def openV (g : GeoD) (d : DevD) (j : JrnD) (R : OpS) : AV :=
  .tup [(endR (oS2 g d (jE j R))).1.av, (jEnd (oS2 g d (jE j R)).2 (jE j R)).av, .d (bytes (bif (oS2 g d (jE j R)).2 != 0 then [] else snB g d j (mO j))), .d (.ro ((bif (oS2 g d (jE j R)).2 != 0 then [] else R.all).map secRow)), I (oS2 g d (jE j R)).2]
end Go.Proofs.Ytalhjhmphdgaoaa
