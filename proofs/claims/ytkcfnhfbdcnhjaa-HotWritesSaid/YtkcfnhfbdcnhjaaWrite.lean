/- hot.Write. (under way) -/
import Derived.Test.YtkcfnhfbdcnhjaaWr
import Derived.Test.YtkcfnhfbdcnhjaaRoom2
import Derived.Test.YtkcfnhfbdcnhjaaChunk
namespace Go.Proofs.Ytkcfnhfbdcnhjaa
open Go.RowKit
set_option maxHeartbeats 4000000
set_option maxRecDepth 20000
attribute [local irreducible] SW SWL SWLn SWD SEcall SEcallv SDv SE SO1 SOg ACalls ACallv Wk EndV
set_option linter.unusedSimpArgs false
set_option linter.unusedVariables false
def wrAt (g : GeoD) (x : Int) : Int := IntKind.i64.wrap (firstV g + x)
/-- the devices behind k puts, and the first fault -/
def wrS (g : GeoD) (d : DevD) (l : List Int) (b : List UInt8) : Nat → DevD × Int
  | 0 => (d, 0)
  | k + 1 => bif (wrS g d l b k).2 != 0 then wrS g d l b k else
      bif putE g (wrS g d l b k).1 (wrAt g l[k]!) (chB b k) == 0 then (putD g (wrS g d l b k).1 (wrAt g l[k]!) (chB b k), 0) else
      bif putE g (wrS g d l b k).1 (wrAt g l[k]!) (chB b k) == 10 then ((wrS g d l b k).1, 10) else (nilD, putE g (wrS g d l b k).1 (wrAt g l[k]!) (chB b k))
theorem wrS_fit {g : GeoD} {d : DevD} (hw : d.fit) (l : List Int) (b : List UInt8) : ∀ k, (wrS g d l b k).1.fit
  | 0 => hw
  | k + 1 => by
    have ih := wrS_fit (g := g) hw l b k
    simp only [wrS]
    cases (wrS g d l b k).2 != 0 with
    | true => exact ih
    | false =>
      simp only [cond_false]
      cases putE g (wrS g d l b k).1 (wrAt g l[k]!) (chB b k) == 0 with
      | true => exact putD_fit ih
      | false =>
        simp only [cond_false]
        cases putE g (wrS g d l b k).1 (wrAt g l[k]!) (chB b k) == 10 with
        | true => exact ih
        | false => exact nilD_fit
theorem wrS_stop (g : GeoD) (d : DevD) (l : List Int) (b : List UInt8) {k : Nat} (h : (wrS g d l b k).2 ≠ 0) : ∀ n, wrS g d l b (k + n) = wrS g d l b k
  | 0 => rfl
  | n + 1 => by
    have ih := wrS_stop g d l b h n
    show (bif (wrS g d l b (k + n)).2 != 0 then wrS g d l b (k + n) else _) = _
    have : ((wrS g d l b (k + n)).2 != 0) = true := by rw [ih]; simpa using h
    rw [this, cond_true, ih]
theorem wrS0 (g : GeoD) (d : DevD) (l : List Int) (b : List UInt8) : wrS g d l b 0 = (d, 0) := rfl
/-- what hot.Write answers -/
def wrR (g : GeoD) (d : DevD) (l : List Int) (b : List UInt8) : DevD × Int :=
  bif devF g d != 0 then (nilD, devF g d) else bif !roomV g l b.length then (nilD, 2) else
  bif (wrS g d l b l.length).2 != 0 then wrS g d l b l.length else
  bif spendE g (wrS g d l b l.length).1 == 10 then ((wrS g d l b l.length).1, 10) else (flushD g (wrS g d l b l.length).1, spendE g (wrS g d l b l.length).1)
theorem minW (k k' : IntKind) (x y : Int) : minV true [.d (.v (.int k x)), .d (.v (.int k' y))] = some (.d (.v (.int k (if decide (y < x) = true then y else x)))) := rfl
theorem secN_eq {n : Nat} (h : n ≤ 600) : secN n = (((n + 63) / 64 : Nat) : Int) := by
  unfold secN
  rw [IntWalk.i64_in ((n : Int) + 64) (by omega), IntWalk.i64_in ((n : Int) + 64 - 1) (by omega), Int.tdiv_eq_ediv_of_nonneg (by omega), IntWalk.i64_in _ (by omega)]
  omega
theorem room_len {g : GeoD} {l : List Int} {b : List UInt8} (h : roomV g l b.length = true) : b.length ≤ 600 ∧ l.length = (b.length + 63) / 64 := by
  unfold roomV sizeV at h
  simp only [Bool.and_eq_true, decide_eq_true_eq, beq_iff_eq] at h
  have h1 : b.length ≤ 600 := by have := h.2.2.1; omega
  have h2 := h.2.2.2
  rw [secN_eq h1] at h2
  exact ⟨h1, by omega⟩
/-- where piece k ends -/
def enK (b : List UInt8) (k : Nat) : Int := if decide ((b.length : Int) < ((k : Int) + 1) * 64) = true then (b.length : Int) else ((k : Int) + 1) * 64
theorem en_facts {b : List UInt8} {k : Nat} (hb : b.length ≤ 600) (hk : k < (b.length + 63) / 64) : (k : Int) * 64 ≤ enK b k ∧ enK b k ≤ b.length ∧ List.take ((enK b k).toNat - ((k : Int) * 64).toNat) (List.drop ((k : Int) * 64).toNat b) = chB b k := by
  have e1 : ((k : Int) * 64).toNat = k * 64 := by omega
  unfold enK chB
  rw [e1]
  by_cases hc : (b.length : Int) < ((k : Int) + 1) * 64
  · rw [if_pos (by simpa using hc)]
    refine ⟨by omega, by omega, ?_⟩
    rw [Int.toNat_natCast, List.take_of_length_le (by rw [List.length_drop]; omega), List.take_of_length_le (by rw [List.length_drop]; omega)]
  · rw [if_neg (by simpa using hc)]
    refine ⟨by omega, by omega, ?_⟩
    congr 1; omega
section
variable {g : GeoD} {d : DevD} {l : List Int} {b : List UInt8} {k : Nat}
theorem wr_ok (hF : (wrS g d l b k).2 = 0) (h : (putE g (wrS g d l b k).1 (wrAt g l[k]!) (chB b k) == 0) = true) : wrS g d l b (k + 1) = (putD g (wrS g d l b k).1 (wrAt g l[k]!) (chB b k), 0) := by
  simp only [wrS, hF, h, bne_self_eq_false, cond_false, cond_true]
theorem wr_10 (hF : (wrS g d l b k).2 = 0) (h0 : (putE g (wrS g d l b k).1 (wrAt g l[k]!) (chB b k) == 0) = false) (h : (putE g (wrS g d l b k).1 (wrAt g l[k]!) (chB b k) == 10) = true) : wrS g d l b (k + 1) = ((wrS g d l b k).1, putE g (wrS g d l b k).1 (wrAt g l[k]!) (chB b k)) := by
  have e : putE g (wrS g d l b k).1 (wrAt g l[k]!) (chB b k) = 10 := by simpa using h
  simp only [wrS, hF, h0, h, bne_self_eq_false, cond_false, cond_true]; rw [e]
theorem wr_x (hF : (wrS g d l b k).2 = 0) (h0 : (putE g (wrS g d l b k).1 (wrAt g l[k]!) (chB b k) == 0) = false) (h : (putE g (wrS g d l b k).1 (wrAt g l[k]!) (chB b k) == 10) = false) : wrS g d l b (k + 1) = (nilD, putE g (wrS g d l b k).1 (wrAt g l[k]!) (chB b k)) := by
  simp only [wrS, hF, h0, h, bne_self_eq_false, cond_false]
theorem wrR_stop {D : DevD} {e : Int} (h1 : devF g d = 0) (hr : roomV g l b.length = true) (hk : k < l.length) (h : wrS g d l b (k + 1) = (D, e)) (he : (e == 0) = false) : wrR g d l b = (D, e) := by
  have he' : e ≠ 0 := by simpa using he
  have hs := wrS_stop g d l b (k := k + 1) (by rw [h]; exact he') (l.length - (k + 1))
  rw [show k + 1 + (l.length - (k + 1)) = l.length by omega, h] at hs
  have hn : (e != 0) = true := by simpa using he'
  simp only [wrR, h1, hr, hs, hn, bne_self_eq_false, cond_false, cond_true, Bool.not_true]
theorem wrR_end (h1 : devF g d = 0) (hr : roomV g l b.length = true) (hk : k ≤ l.length) (hg : decide ((k : Int) < l.length) = false) (hF : (wrS g d l b k).2 = 0) : wrR g d l b = (bif spendE g (wrS g d l b k).1 == 10 then ((wrS g d l b k).1, 10) else (flushD g (wrS g d l b k).1, spendE g (wrS g d l b k).1)) := by
  have : k = l.length := by simp at hg; omega
  subst this
  simp only [wrR, h1, hr, hF, bne_self_eq_false, cond_false, Bool.not_true]
end
end Go.Proofs.Ytkcfnhfbdcnhjaa
