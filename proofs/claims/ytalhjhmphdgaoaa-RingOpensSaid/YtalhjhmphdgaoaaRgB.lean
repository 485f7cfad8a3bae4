/- slices.Backward, over what is put and not flushed: what it hands to a loop's body. -/
import Derived.Test.YtalhjhmphdgaoaaBase
import Derived.RangeFuncNested
import Derived.RangeFuncBound
import Derived.RangeFuncCalls
import Derived.RangeFuncLeaves
import Derived.Shelf.Abstract
import Derived.Shelf.RegionOpen
import Derived.WalkKit
import Derived.OwnWalkIn
import Derived.TacticsInMore
import Derived.LoopNIn
import Derived.LoopIn

/- Contracts of functions whose arguments and answers name nothing, said of worlds that grow; and back. No program in sight. -/
namespace Go.Proofs.Ytalhjhmphdgaoaa
open Go.RowKit
set_option linter.unusedSimpArgs false
set_option linter.unusedVariables false
def KI (I : Nat → Prop) : KS := ⟨fun _ => 0, fun _ => 0, fun _ => false, fun _ => none, I⟩
def noName (v : AV) : Prop := v.allN (fun _ => false) = true
def RepsI (I : Nat → Prop) (w : World) (args : List AV) (xs : List Value) : Prop := (∀ b, I b → b < w.heap.size) ∧ args.length = xs.length ∧ ∀ (i : Nat) (c : AV) (x : Value), args[i]? = some c → xs[i]? = some x → Rep (KI I) w c x
def UpI (I I' : Nat → Prop) (w w' : World) : Prop := (∀ b, I b → I' b) ∧ (∀ b, I' b → I b ∨ w.heap.size ≤ b) ∧ ∀ b, I' b → b < w'.heap.size
def PureG (P : Program) (f : FuncId) (args : List AV) (v : AV) : Prop := ∀ (xs : List Value) (w : World), (∃ I, RepsI I w args xs) → Calls P f xs.toArray w fun e w' => ∃ x, e = .returned x ∧ Grow w w' ∧ ∀ I, RepsI I w args xs → ∃ I', UpI I I' w w' ∧ Rep (KI I') w' v x
theorem Rep.noName {K K' : KS} {w : World} {v : AV} {x : Value} (hI : ∀ b, K.I b → K'.I b) (hv : noName v) (h : Rep K w v x) : Rep K' w v x :=
  h.upQ (q := fun _ => false) hI (Keep.refl _ _) (fun n hn => by cases hn) hv
theorem pre_dead {I : Nat → Prop} {w : World} {args : List AV} {xs : List Value} (h : RepsI I w args xs) : Pre args (fun _ => AO.dead) 0 xs w (KI I) :=
  ⟨⟨h.1, fun n => trivial, fun n m hn => hn.elim⟩, fun n => ⟨rfl, fun _ => rfl⟩, h.2.1, h.2.2⟩
theorem Pure.g {P : Program} {f : FuncId} {args : List AV} {v : AV} (h : Pure P f args v) (hv : noName v) (ha : ∀ c ∈ args, noName c) : PureG P f args v := fun xs w ⟨I0, h0⟩ => by
  unfold Pure at h
  have h1 := h 0 (fun _ => AO.dead)
  unfold ACalls at h1
  refine (h1 xs w ⟨KI I0, pre_dead h0⟩).mono fun e w' ⟨x, v', σ', he, ⟨hv', hσ'⟩, hall⟩ => ⟨x, he, ?_, fun I hI => ?_⟩
  · have hAll : RepsI (fun b => b < w.heap.size) w args xs := ⟨fun b hb => hb, h0.2.1, fun i c y hc hy => (h0.2.2 i c y hc hy).noName (fun b hb => h0.1 b hb) (ha c (List.mem_of_getElem? hc))⟩
    obtain ⟨K', hE, _, _⟩ := hall _ (pre_dead hAll)
    exact ⟨hE.keep.os, hE.keep.tape, hE.keep.output, hE.keep.size, fun b hb => hE.keep.block b hb⟩
  · obtain ⟨K', hE, hS, hR⟩ := hall _ (pre_dead hI)
    subst hv'
    refine ⟨K'.I, ⟨hE.sub, fun b hb => ?_, hS.inI⟩, Rep.noName (K := K') (K' := KI K'.I) (fun b hb => hb) hv hR⟩
    rcases hE.orig b (.inl hb) with h2 | h2 | ⟨n, h2, _⟩
    · exact .inl h2
    · exact .inr h2
    · exact h2.elim
theorem PureG.p {P : Program} {f : FuncId} {args : List AV} {v : AV} (h : PureG P f args v) (hv : noName v) (ha : ∀ c ∈ args, noName c) : Pure P f args v := by
  unfold Pure
  intro B σ
  unfold ACalls
  intro xs w ⟨K0, hP0⟩
  have reps : ∀ K, Pre args σ B xs w K → RepsI K.I w args xs := fun K hP => ⟨hP.1.inI, hP.2.2.1, fun i c x hc hx => Rep.noName (K := K) (K' := KI K.I) (fun b hb => hb) (ha c (List.mem_of_getElem? hc)) (hP.2.2.2 i c x hc hx)⟩
  refine (h xs w ⟨K0.I, reps K0 hP0⟩).mono fun e w' ⟨x, he, hg, hall⟩ => ⟨x, v, σ, he, ⟨rfl, rfl⟩, fun K hK => ?_⟩
  obtain ⟨I', ⟨u1, u2, u3⟩, hR⟩ := hall K.I (reps K hK)
  have hS := hK.1.more (J := fun b => I' b ∧ w.heap.size ≤ b) hg fun b hb => ⟨hb.2, u3 b hb.1⟩
  refine ⟨{ K with I := fun b => K.I b ∨ (I' b ∧ w.heap.size ≤ b) }, ⟨fun n _ _ => ⟨rfl, rfl, rfl, rfl⟩, fun b hb => .inl hb, Keep.of_grow hg hK.1.inI, fun b hb => ?_⟩, hS, hR.noName (fun b hb => (u2 b hb).elim .inl fun h2 => .inr ⟨hb, h2⟩) hv⟩
  rcases hb with (hb | hb) | ⟨n, hl, e2⟩
  · exact .inl hb
  · exact .inr (.inl hb.2)
  · exact .inr (.inr ⟨n, (live_same (K := K) (n := n) ⟨rfl, rfl, rfl, rfl⟩).1 hl, e2⟩)
theorem RepsI.grow {I : Nat → Prop} {w w' : World} {args : List AV} {xs : List Value} (h : RepsI I w args xs) (hg : Grow w w') : RepsI I w' args xs :=
  ⟨fun b hb => Nat.lt_of_lt_of_le (h.1 b hb) hg.size, h.2.1, fun i c x hc hx => (h.2.2 i c x hc hx).up (K' := KI I) (fun b hb => hb) (Keep.of_grow hg h.1) (fun n => ⟨rfl, rfl, rfl, rfl⟩)⟩
end Go.Proofs.Ytalhjhmphdgaoaa
namespace Go.Proofs.Ytalhjhmphdgaoaa
open Go.RowKit Go.Shelf
set_option linter.unusedSimpArgs false
set_option linter.unusedVariables false
attribute [local go_sem] Oper.semAt_some
def downto (n k : Nat) : List Nat := (List.range k).map fun j => n - 1 - j
theorem downto_succ (n k : Nat) : downto n (k + 1) = downto n k ++ [n - 1 - k] := by simp [downto, List.range_succ]
abbrev Below1 (n : Nat) := { i : Nat // i < n }
set_option maxRecDepth 100000 in
set_option maxHeartbeats 2000000 in
theorem back1_in (F : Fence) (n : Nat) (hf : F.fn 53) (hro : F.round = none) (hn : 1 ≤ n) (l Bs n₀ b off len cap : Nat) (f g : Nat → Value) (hreach : len ≤ 2 ^ 47) (hb : b < n₀) (J Jx : List (Below1 len) → World → Prop)
    (hY : ∀ pre x W, J pre W → pre.length < len → YieldAt F (n - 1) Try.prog l #[.int .i64 (x.1 : Int), .agg #[f x.1, g x.1]] W fun e W' =>
      (e = .returned (.bool true) ∧ J (pre ++ [x]) W' ∧ Below n₀ W W') ∨ (e = .returned (.bool false) ∧ Jx (pre ++ [x]) W'))
    (W : World) (hBs : W.cell? ⟨Bs, 0, none⟩ = some (.slice (some ⟨b, off, none⟩) len cap)) (hBn : Bs < n₀) (hc : ∀ j, j < len → W.cell? ⟨b, off + j * 2, none⟩ = some (f j) ∧ W.cell? ⟨b, off + j * 2 + 1, none⟩ = some (g j)) (h0 : J [] W) :
    CallsIn F n Try.prog 53 #[.func (.yield l) #[] #[], .pointer (some ⟨Bs, 0, none⟩)] W fun e W' => (∃ v, e = .returned v) ∧
      ((∃ ys : List (Below1 len), ys.map (·.1) = downto len len ∧ J ys W') ∨ (∃ pre : List (Below1 len), (∃ k, k ≤ len ∧ pre.map (·.1) = downto len k) ∧ Jx pre W')) := by
  refine callsIn_of_wp Try.func53 rfl hf ?_ hro
  simp only [Try.ntmps53, List.size_toArray, List.length_cons, List.length_nil, Nat.reduceAdd, Nat.reduceSub, Array.replicate_succ, Array.replicate_zero, List.push_toArray, List.append_toArray, List.nil_append, List.cons_append]
  have hw : IntKind.i64.wrap ((len : Int) - 1) = (len : Int) - 1 := IntWalk.i64_in _ (by omega)
  gi_wp2
  gi_loopw [3] (fun i wr => ∃ (k : Nat) (pre : List (Below1 len)), k ≤ len ∧ i = .int .i64 ((len : Int) - 1 - k) ∧ pre.map (·.1) = downto len k ∧ J pre wr ∧ Below n₀ W wr)
    (fun i _ => (intOf i + 1).toNat)
  case atStart => exact ⟨0, [], Nat.zero_le _, by simp, rfl, h0, Below.refl _ _⟩
  case round =>
    obtain ⟨k, pre, hk, rfl, hpre, hJs, hnx⟩ := hrel
    have hlen : pre.length = k := by simpa [downto] using congrArg List.length hpre
    by_cases hlt : k < len
    · have hi : ((len : Int) - 1 - k) = ((len - 1 - k : Nat) : Int) := by omega
      obtain ⟨i, hie⟩ : ∃ i, i = len - 1 - k := ⟨_, rfl⟩
      rw [← hie] at hi
      rw [hi]
      have hil : i < len := by omega
      have hBx : wr.cell? ⟨Bs, 0, none⟩ = some (.slice (some ⟨b, off, none⟩) len cap) := (hnx.cell (p := ⟨Bs, 0, none⟩) hBn).trans hBs
      have hc1 := (hnx.cell (p := ⟨b, off + i * 2, none⟩) hb).trans (hc i hil).1
      have hc2 := (hnx.cell (p := ⟨b, off + i * 2 + 1, none⟩) hb).trans (hc i hil).2
      obtain ⟨fn, tmps, assign, body, hy, hR⟩ := hY _ ⟨i, hil⟩ wr hJs (by omega)
      dsimp only at hy
      have hpre2 : (pre ++ [(⟨i, hil⟩ : Below1 len)]).map (·.1) = downto len (k + 1) := by
        rw [List.map_append, hpre, downto_succ, ← hie]; rfl
      have hnext : IntKind.i64.wrap ((i : Int) - 1) = (len : Int) - 1 - ((k + 1 : Nat) : Int) := by
        rw [IntWalk.i64_in _ (by omega)]; omega
      have hmea : ((len : Int) - 1 - ((k + 1 : Nat) : Int) + 1).toNat < ((i : Int) + 1).toNat := by omega
      clear hie hi hpre hlen
      gi_wp2
      refine hR.mono ?_
      rintro e W3 (⟨rfl, hJ3, hk3⟩ | ⟨rfl, hJx3⟩)
      · gi_wp2
        go_roundw
        case rel => exact ⟨k + 1, _, by omega, by simp, hpre2, hJ3, hnx.trans hk3⟩
        case measure => simp only [intOf, hnext]; exact hmea
      · gi_wp2
        refine bodyPost_ret (results_none rfl _ _ _) rfl ?_
        exact ⟨⟨_, rfl⟩, .inr ⟨_, ⟨k + 1, by omega, hpre2⟩, hJx3⟩⟩
    · obtain rfl : k = len := by omega
      have hneg : decide ((k : Int) - 1 - (k : Int) ≥ 0) = false := by simp; omega
      gi_wp2
      go_end0
      exact ⟨⟨_, rfl⟩, .inl ⟨_, hpre, hJs⟩⟩
set_option maxRecDepth 100000 in
set_option maxHeartbeats 1000000 in
theorem back1_nil_in (F : Fence) (n : Nat) (hf : F.fn 53) (hro : F.round = none) (l Bs : Nat) (a : Option Addr) (cap : Nat) (J : List (Below1 0) → World → Prop) (W : World) (hBs : W.cell? ⟨Bs, 0, none⟩ = some (.slice a 0 cap)) (h0 : J [] W) :
    CallsIn F n Try.prog 53 #[.func (.yield l) #[] #[], .pointer (some ⟨Bs, 0, none⟩)] W fun e W' => (∃ v, e = .returned v) ∧ J [] W' := by
  refine callsIn_of_wp Try.func53 rfl hf ?_ hro
  simp only [Try.ntmps53, List.size_toArray, List.length_cons, List.length_nil, Nat.reduceAdd, Nat.reduceSub, Array.replicate_succ, Array.replicate_zero, List.push_toArray, List.append_toArray, List.nil_append, List.cons_append]
  gi_wp2
  gi_loopw [3] (fun i wr => i = .int .i64 (-1) ∧ J [] wr) (fun _ _ => 0)
  case atStart => exact ⟨by simp [IntKind.wrap], h0⟩
  case round =>
    obtain ⟨rfl, hJs⟩ := hrel
    gi_wp2
    go_end0
    exact ⟨⟨_, rfl⟩, hJs⟩
set_option maxHeartbeats 1000000 in
theorem back_in (F : Fence) (n : Nat) (hf : F.fn 21) (hro : F.round = none) (a : Option Addr) (len cap : Nat) (w : World) :
    CallsIn F n Try.prog 21 #[.slice a len cap] w fun e w' => e = .returned (.func (.func 53) #[] #[.pointer (some ⟨w.heap.size, 0, none⟩)]) ∧ w' = w.alloc (.cells #[.slice a len cap] 25) := by
  refine callsIn_of_wp Try.func21 rfl hf ?_ hro
  simp only [Try.ntmps21, List.size_toArray, List.length_cons, List.length_nil, Nat.reduceAdd, Nat.reduceSub, Array.replicate_succ, Array.replicate_zero, List.push_toArray, List.append_toArray, List.nil_append, List.cons_append]
  gi_wp2
  go_ret
  exact ⟨rfl, rfl⟩
theorem back_stops (F : Fence) (n : Nat) (hf : F.fn 53) (hro : F.round = none) (hn : 1 ≤ n) (Bs n₀ : Nat) (sv : Value) (len : Nat) (f g : Nat → Value) (w : World) (hBs : Bs < w.heap.size) (hBn : Bs < n₀) (hn₀ : n₀ ≤ w.heap.size) (hc : w.cell? ⟨Bs, 0, none⟩ = some sv)
    (hI : (∃ a cap, sv = .slice a 0 cap ∧ len = 0) ∨ ∃ b off cap, sv = .slice (some ⟨b, off, none⟩) len cap ∧ b < n₀ ∧ len ≤ 2 ^ 47 ∧ ∀ j, j < len → w.cell? ⟨b, off + j * 2, none⟩ = some (f j) ∧ w.cell? ⟨b, off + j * 2 + 1, none⟩ = some (g j)) :
    SeqStopsK F n Try.prog 53 #[.pointer (some ⟨Bs, 0, none⟩)] (fun x : Below1 len => #[Value.int .i64 (x.1 : Int), Value.agg #[f x.1, g x.1]]) (Below n₀) (fun ys => ys.map (·.1) = downto len len) (fun pre => ∃ k, k ≤ len ∧ pre.map (·.1) = downto len k) len w := fun l J Jx W hW _ _ hY h0 => by
  have hc' := (hW.cell (p := ⟨Bs, 0, none⟩) hBs).trans hc
  rcases hI with ⟨a, cap, rfl, rfl⟩ | ⟨b, off, cap, rfl, hb, hl, hcs⟩
  · exact (back1_nil_in F n hf hro l Bs a cap J W hc' h0).mono fun e W' ⟨he, hj⟩ => ⟨he, .inl ⟨[], rfl, hj⟩⟩
  · exact back1_in F n hf hro hn l Bs n₀ b off len cap f g hl hb J Jx hY W hc' hBn (fun j hj => ⟨(hW.cell (p := ⟨b, off + j * 2, none⟩) (Nat.lt_of_lt_of_le hb hn₀)).trans (hcs j hj).1, (hW.cell (p := ⟨b, off + j * 2 + 1, none⟩) (Nat.lt_of_lt_of_le hb hn₀)).trans (hcs j hj).2⟩) h0
end Go.Proofs.Ytalhjhmphdgaoaa
