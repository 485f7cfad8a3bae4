/- What is read: plain. -/
import Derived.Test.YtijpmidnclbhpaaDoorKT
namespace Go.Proofs.YtijpmidnclbhpaaDoor
open Go.RowKit
set_option maxHeartbeats 4000000
set_option maxRecDepth 20000
attribute [local irreducible] SW SWL SWLn SWD SEcall SEcallv SDv SE SO1 SOg ACalls ACallv Wk EndV
set_option linter.unusedSimpArgs false
set_option linter.unusedVariables false
theorem aokB (n : Nat) (cs : List AV) : (AO.box cs).kill n = .box (cs.map (AV.kill n)) := rfl
theorem aokD (n : Nat) : AO.dead.kill n = .dead := rfl
theorem aokA (n k : Nat) (E : TypeId) (rows : List (List RV)) : (AO.arr k E rows).kill n = .arr k E rows := rfl
theorem rdO_allN (b : List UInt8) (e : Int) (q : Nat → Bool) : (rdO b e).allN q = true := rfl
theorem rdO_kill (b : List UInt8) (e : Int) (n : Nat) : (rdO b e).kill n = rdO b e := rfl
theorem takN_1 (s : RdS) : 0 ≤ takN s 1 ∧ takN s 1 < 256 := by
  unfold takN
  cases decide ((s.1.length : Int) < ((1 : Nat) : Int))
  · exact numK_le _ 1
  · exact ⟨Int.le_refl 0, (by decide : (0 : Int) < 256)⟩
theorem prEta (s : RdS) : (s.1, s.2) = s := rfl
theorem isB_byR (l : List UInt8) : isBytes (l.map by_) = True := by
  refine eq_true ?_
  intro r hr
  simp only [List.mem_map] at hr; obtain ⟨x, _, rfl⟩ := hr; rfl
def txt (l : List UInt8) : ByteArray := ⟨l.toArray⟩
theorem txtW (l : List UInt8) : convV.textOf' (bytesOf (l.map by_)) = txt l := by
  have : bytesOf (l.map by_) = l := by
    unfold bytesOf
    induction l with
    | nil => rfl
    | cons x l ih =>
      rw [List.map_cons, List.filterMap_cons]
      have hx : rowByte (by_ x) = some x := by simp [rowByte, by_]
      rw [hx, ih]
  rw [this]; rfl
theorem take_Rn (x : Int) (h : 0 ≤ x) : Reads Tryd.prog 21 [I x] (fun s => I (takN s x.toNat)) (fun s => takS s x.toNat) (fun s => x.toNat ≤ 4 ∨ s.1.length < x.toNat) := by
  have := take_R x.toNat
  rwa [show ((x.toNat : Nat) : Int) = x by omega] at this
def bitS (s : RdS) : RdS := bif decide (takN s 1 > 1) && (takS s 1).2 == 0 then ((takS s 1).1, 4) else takS s 1
def bitN (s : RdS) : Bool := takN s 1 == 1
def txBad (s : RdS) : Bool := decide (takN s 1 > ((takS s 1).1.length : Int))
def textS (s : RdS) : RdS := bif txBad s then takS (takS s 1) (takN s 1).toNat else ((takS s 1).1.drop (takN s 1).toNat, (takS s 1).2)
def textN (s : RdS) : ByteArray := bif txBad s then ⟨#[]⟩ else txt ((takS s 1).1.take (takN s 1).toNat)
def itS (s : RdS) : Nat → RdS
  | 0 => takS s 1
  | k + 1 => takS (itS s k) 1
def itC (s : RdS) : Nat → Nat → Nat
  | 0, k => k
  | f + 1, k => bif (itS s k).2 == 0 then itC s f (k + 1) else k
def itM (s : RdS) : Nat := itC s (takN s 1).toNat 0
def itL (s : RdS) (k : Nat) : List Int := (List.range k).map fun j => takN (itS s j) 1
theorem itL_len (s : RdS) (k : Nat) : (itL s k).length = k := by simp [itL]
theorem itL_0 (s : RdS) : itL s 0 = [] := rfl
theorem itL_next (s : RdS) (k : Nat) : itL s k ++ [takN (itS s k) 1] = itL s (k + 1) := by simp [itL, List.range_succ]
theorem itS_next (s : RdS) (k : Nat) : takS (itS s k) 1 = itS s (k + 1) := rfl
theorem itS_0 (s : RdS) : itS s 0 = takS s 1 := rfl
theorem itC_go {s : RdS} {n k M : Nat} (h : itC s (n - k) k = M) (hk : k < n) (h0 : ((itS s k).2 == 0) = true) : itC s (n - (k + 1)) (k + 1) = M := by
  obtain ⟨f, hf⟩ : ∃ f, n - k = f + 1 := ⟨n - k - 1, by omega⟩
  rw [hf, itC, h0] at h
  rw [show n - (k + 1) = f by omega]; exact h
theorem itC_no {s : RdS} {n k M : Nat} (h : itC s (n - k) k = M) (h0 : ((itS s k).2 == 0) = false) : k = M := by
  cases hf : n - k with
  | zero => rw [hf] at h; exact h
  | succ f => rw [hf, itC, h0] at h; exact h
theorem itC_end {s : RdS} {n k M : Nat} (h : itC s (n - k) k = M) (hk : n ≤ k) : k = M := by
  rw [show n - k = 0 by omega] at h; exact h
def intsS (s : RdS) : RdS := itS s (itM s)
def intsN (s : RdS) : List Int := itL s (itM s)
structure RulD where
  pre : ByteArray
  frz : Int
  drop : Int
def RulD.av (r : RulD) : AV := .agg [.d (.v (.string r.pre)), I r.frz, I r.drop]
def rul2 (s : RdS) : RdS := takS (textS s) 4
def ruleS (s : RdS) : RdS := takS (rul2 s) 4
def ruleN (s : RdS) : RulD := ⟨textN s, IntKind.i64.wrap (takN (textS s) 4 - 1), IntKind.i64.wrap (takN (rul2 s) 4 - 1)⟩
def ask2 (s : RdS) : RdS := takS (takS s 3) 2
def askS (s : RdS) : RdS := takS (ask2 s) 1
def askN (s : RdS) : AskD := ⟨takN s 3, takN (takS s 3) 2, takN (ask2 s) 1⟩
def askV (a : AskD) : AV := .agg (a.row.map .d)
def part2 (s : RdS) : RdS := takS (takS s 1) 2
def partS (s : RdS) : RdS := intsS (part2 s)
def partN (s : RdS) : PartD := ⟨takN s 1, takN (takS s 1) 2, intsN (part2 s)⟩
def partV (p : PartD) : AV := .agg (p.row.map .d)
def vr1 (s : RdS) : RdS := takS s 3
def vr2 (s : RdS) : RdS := textS (vr1 s)
def vr3 (s : RdS) : RdS := textS (vr2 s)
def vr4 (s : RdS) : RdS := bitS (vr3 s)
def vr5 (s : RdS) : RdS := bitS (vr4 s)
def vr6 (s : RdS) : RdS := takS (vr5 s) 2
def vr7 (s : RdS) : RdS := takS (vr6 s) 4
def vr8 (s : RdS) : RdS := takS (vr7 s) 1
def vr9 (s : RdS) : RdS := intsS (vr8 s)
def vr10 (s : RdS) : RdS := takS (vr9 s) 1
def vr11 (s : RdS) : RdS := takS (vr10 s) 2
def verS (s : RdS) : RdS := takS (vr11 s) 4
def verN (s : RdS) : VerD := ⟨takN s 3, textN (vr1 s), textN (vr2 s), bitN (vr3 s), bitN (vr4 s), takN (vr5 s) 2, takN (vr6 s) 4, takN (vr7 s) 1, intsN (vr8 s), takN (vr9 s) 1, takN (vr10 s) 2, takN (vr11 s) 4⟩
def verV (v : VerD) : AV := .agg (v.row.map .d)
end Go.Proofs.YtijpmidnclbhpaaDoor
