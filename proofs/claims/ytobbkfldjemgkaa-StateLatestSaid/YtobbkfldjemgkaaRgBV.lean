/- slices.Backward, over versions: what it hands to a loop's body. -/
import Derived.Test.YtobbkfldjemgkaaRgA
import Derived.RangeFuncNested
import Derived.RangeFuncBound
import Derived.RangeFuncCalls
import Derived.RangeFuncLeaves
import Derived.Shelf.Abstract
import Derived.Shelf.RegionOpen
import Derived.WalkKit
import Derived.OwnWalkIn
import Derived.TacticsInMore
import Derived.LoopNIn
import Derived.LoopIn
namespace Go.Proofs.Ytobbkfldjemgkaa
open Go.RowKit Go.Shelf
set_option linter.unusedSimpArgs false
set_option linter.unusedVariables false
attribute [local go_sem] Oper.semAt_some
def downto (n k : Nat) : List Nat := (List.range k).map fun j => n - 1 - j
theorem downto_succ (n k : Nat) : downto n (k + 1) = downto n k ++ [n - 1 - k] := by simp [downto, List.range_succ]
abbrev Below1 (n : Nat) := { i : Nat // i < n }
set_option maxRecDepth 100000 in
set_option maxHeartbeats 2000000 in
theorem back1_in (F : Fence) (n : Nat) (hf : F.fn 37) (hro : F.round = none) (hn : 1 ≤ n) (l Bs n₀ b off len cap : Nat) (c : Nat → Nat → Value) (hreach : len ≤ 2 ^ 47) (hb : b < n₀) (J Jx : List (Below1 len) → World → Prop)
    (hY : ∀ pre x W, J pre W → pre.length < len → YieldAt F (n - 1) Try.prog l #[.int .i64 (x.1 : Int), .agg #[c x.1 0, c x.1 1, c x.1 2, c x.1 3, c x.1 4, c x.1 5, c x.1 6, c x.1 7, c x.1 8, c x.1 9, c x.1 10, c x.1 11]] W fun e W' =>
      (e = .returned (.bool true) ∧ J (pre ++ [x]) W' ∧ Below n₀ W W') ∨ (e = .returned (.bool false) ∧ Jx (pre ++ [x]) W'))
    (W : World) (hBs : W.cell? ⟨Bs, 0, none⟩ = some (.slice (some ⟨b, off, none⟩) len cap)) (hBn : Bs < n₀) (hc : ∀ j, j < len → ∀ i, i < 12 → W.cell? ⟨b, off + j * 12 + i, none⟩ = some (c j i)) (h0 : J [] W) :
    CallsIn F n Try.prog 37 #[.func (.yield l) #[] #[], .pointer (some ⟨Bs, 0, none⟩)] W fun e W' => (∃ v, e = .returned v) ∧
      ((∃ ys : List (Below1 len), ys.map (·.1) = downto len len ∧ J ys W') ∨ (∃ pre : List (Below1 len), (∃ k, k ≤ len ∧ pre.map (·.1) = downto len k) ∧ Jx pre W')) := by
  refine callsIn_of_wp Try.func37 rfl hf ?_ hro
  simp only [Try.ntmps37, List.size_toArray, List.length_cons, List.length_nil, Nat.reduceAdd, Nat.reduceSub, Array.replicate_succ, Array.replicate_zero, List.push_toArray, List.append_toArray, List.nil_append, List.cons_append]
  have hw : IntKind.i64.wrap ((len : Int) - 1) = (len : Int) - 1 := IntWalk.i64_in _ (by omega)
  gi_wp2
  gi_loopw [3] (fun i wr => ∃ (k : Nat) (pre : List (Below1 len)), k ≤ len ∧ i = .int .i64 ((len : Int) - 1 - k) ∧ pre.map (·.1) = downto len k ∧ J pre wr ∧ Below n₀ W wr)
    (fun i _ => (intOf i + 1).toNat)
  case atStart => exact ⟨0, [], Nat.zero_le _, by simp, rfl, h0, Below.refl _ _⟩
  case round =>
    obtain ⟨k, pre, hk, rfl, hpre, hJs, hnx⟩ := hrel
    have hlen : pre.length = k := by simpa [downto] using congrArg List.length hpre
    by_cases hlt : k < len
    · have hi : ((len : Int) - 1 - k) = ((len - 1 - k : Nat) : Int) := by omega
      obtain ⟨i, hie⟩ : ∃ i, i = len - 1 - k := ⟨_, rfl⟩
      rw [← hie] at hi
      rw [hi]
      have hil : i < len := by omega
      have hBx : wr.cell? ⟨Bs, 0, none⟩ = some (.slice (some ⟨b, off, none⟩) len cap) := (hnx.cell (p := ⟨Bs, 0, none⟩) hBn).trans hBs
      have hc0 := (hnx.cell (p := ⟨b, off + i * 12, none⟩) hb).trans (hc i hil 0 (by decide))
      have hc1 := (hnx.cell (p := ⟨b, off + i * 12 + 1, none⟩) hb).trans (hc i hil 1 (by decide))
      have hc2 := (hnx.cell (p := ⟨b, off + i * 12 + 2, none⟩) hb).trans (hc i hil 2 (by decide))
      have hc3 := (hnx.cell (p := ⟨b, off + i * 12 + 3, none⟩) hb).trans (hc i hil 3 (by decide))
      have hc4 := (hnx.cell (p := ⟨b, off + i * 12 + 4, none⟩) hb).trans (hc i hil 4 (by decide))
      have hc5 := (hnx.cell (p := ⟨b, off + i * 12 + 5, none⟩) hb).trans (hc i hil 5 (by decide))
      have hc6 := (hnx.cell (p := ⟨b, off + i * 12 + 6, none⟩) hb).trans (hc i hil 6 (by decide))
      have hc7 := (hnx.cell (p := ⟨b, off + i * 12 + 7, none⟩) hb).trans (hc i hil 7 (by decide))
      have hc8 := (hnx.cell (p := ⟨b, off + i * 12 + 8, none⟩) hb).trans (hc i hil 8 (by decide))
      have hc9 := (hnx.cell (p := ⟨b, off + i * 12 + 9, none⟩) hb).trans (hc i hil 9 (by decide))
      have hc10 := (hnx.cell (p := ⟨b, off + i * 12 + 10, none⟩) hb).trans (hc i hil 10 (by decide))
      have hc11 := (hnx.cell (p := ⟨b, off + i * 12 + 11, none⟩) hb).trans (hc i hil 11 (by decide))
      obtain ⟨fn, tmps, assign, body, hy, hR⟩ := hY _ ⟨i, hil⟩ wr hJs (by omega)
      dsimp only at hy
      have hpre2 : (pre ++ [(⟨i, hil⟩ : Below1 len)]).map (·.1) = downto len (k + 1) := by
        rw [List.map_append, hpre, downto_succ, ← hie]; rfl
      have hnext : IntKind.i64.wrap ((i : Int) - 1) = (len : Int) - 1 - ((k + 1 : Nat) : Int) := by
        rw [IntWalk.i64_in _ (by omega)]; omega
      have hmea : ((len : Int) - 1 - ((k + 1 : Nat) : Int) + 1).toNat < ((i : Int) + 1).toNat := by omega
      clear hie hi hpre hlen
      gi_wp2
      refine hR.mono ?_
      rintro e W3 (⟨rfl, hJ3, hk3⟩ | ⟨rfl, hJx3⟩)
      · gi_wp2
        go_roundw
        case rel => exact ⟨k + 1, _, by omega, by simp, hpre2, hJ3, hnx.trans hk3⟩
        case measure => simp only [intOf, hnext]; exact hmea
      · gi_wp2
        refine bodyPost_ret (results_none rfl _ _ _) rfl ?_
        exact ⟨⟨_, rfl⟩, .inr ⟨_, ⟨k + 1, by omega, hpre2⟩, hJx3⟩⟩
    · obtain rfl : k = len := by omega
      have hneg : decide ((k : Int) - 1 - (k : Int) ≥ 0) = false := by simp; omega
      gi_wp2
      go_end0
      exact ⟨⟨_, rfl⟩, .inl ⟨_, hpre, hJs⟩⟩
set_option maxRecDepth 100000 in
set_option maxHeartbeats 1000000 in
theorem back1_nil_in (F : Fence) (n : Nat) (hf : F.fn 37) (hro : F.round = none) (l Bs : Nat) (a : Option Addr) (cap : Nat) (J : List (Below1 0) → World → Prop) (W : World) (hBs : W.cell? ⟨Bs, 0, none⟩ = some (.slice a 0 cap)) (h0 : J [] W) :
    CallsIn F n Try.prog 37 #[.func (.yield l) #[] #[], .pointer (some ⟨Bs, 0, none⟩)] W fun e W' => (∃ v, e = .returned v) ∧ J [] W' := by
  refine callsIn_of_wp Try.func37 rfl hf ?_ hro
  simp only [Try.ntmps37, List.size_toArray, List.length_cons, List.length_nil, Nat.reduceAdd, Nat.reduceSub, Array.replicate_succ, Array.replicate_zero, List.push_toArray, List.append_toArray, List.nil_append, List.cons_append]
  gi_wp2
  gi_loopw [3] (fun i wr => i = .int .i64 (-1) ∧ J [] wr) (fun _ _ => 0)
  case atStart => exact ⟨by simp [IntKind.wrap], h0⟩
  case round =>
    obtain ⟨rfl, hJs⟩ := hrel
    gi_wp2
    go_end0
    exact ⟨⟨_, rfl⟩, hJs⟩
set_option maxHeartbeats 1000000 in
theorem back_in (F : Fence) (n : Nat) (hf : F.fn 19) (hro : F.round = none) (a : Option Addr) (len cap : Nat) (w : World) :
    CallsIn F n Try.prog 19 #[.slice a len cap] w fun e w' => e = .returned (.func (.func 37) #[] #[.pointer (some ⟨w.heap.size, 0, none⟩)]) ∧ w' = w.alloc (.cells #[.slice a len cap] 25) := by
  refine callsIn_of_wp Try.func19 rfl hf ?_ hro
  simp only [Try.ntmps19, List.size_toArray, List.length_cons, List.length_nil, Nat.reduceAdd, Nat.reduceSub, Array.replicate_succ, Array.replicate_zero, List.push_toArray, List.append_toArray, List.nil_append, List.cons_append]
  gi_wp2
  go_ret
  exact ⟨rfl, rfl⟩
theorem back_stops (F : Fence) (n : Nat) (hf : F.fn 37) (hro : F.round = none) (hn : 1 ≤ n) (Bs n₀ : Nat) (sv : Value) (len : Nat) (c : Nat → Nat → Value) (w : World) (hBs : Bs < w.heap.size) (hBn : Bs < n₀) (hn₀ : n₀ ≤ w.heap.size) (hcB : w.cell? ⟨Bs, 0, none⟩ = some sv)
    (hI : (∃ a cap, sv = .slice a 0 cap ∧ len = 0) ∨ ∃ b off cap, sv = .slice (some ⟨b, off, none⟩) len cap ∧ b < n₀ ∧ len ≤ 2 ^ 47 ∧ ∀ j, j < len → ∀ i, i < 12 → w.cell? ⟨b, off + j * 12 + i, none⟩ = some (c j i)) :
    SeqStopsK F n Try.prog 37 #[.pointer (some ⟨Bs, 0, none⟩)] (fun x : Below1 len => #[Value.int .i64 (x.1 : Int), Value.agg #[c x.1 0, c x.1 1, c x.1 2, c x.1 3, c x.1 4, c x.1 5, c x.1 6, c x.1 7, c x.1 8, c x.1 9, c x.1 10, c x.1 11]]) (Below n₀) (fun ys => ys.map (·.1) = downto len len) (fun pre => ∃ k, k ≤ len ∧ pre.map (·.1) = downto len k) len w := fun l J Jx W hW _ _ hY h0 => by
  have hc' := (hW.cell (p := ⟨Bs, 0, none⟩) hBs).trans hcB
  rcases hI with ⟨a, cap, rfl, rfl⟩ | ⟨b, off, cap, rfl, hb, hl, hcs⟩
  · exact (back1_nil_in F n hf hro l Bs a cap J W hc' h0).mono fun e W' ⟨he, hj⟩ => ⟨he, .inl ⟨[], rfl, hj⟩⟩
  · exact back1_in F n hf hro hn l Bs n₀ b off len cap c hl hb J Jx hY W hc' hBn (fun j hj i hi => (hW.cell (p := ⟨b, off + j * 12 + i, none⟩) (Nat.lt_of_lt_of_le hb hn₀)).trans (hcs j hj i hi)) h0
end Go.Proofs.Ytobbkfldjemgkaa
