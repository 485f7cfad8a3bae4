/- What reading a record gives: plain. -/
import Derived.Test.YtijpmidnclbhpaaDoorKUD
import Derived.Test.YtijpmidnclbhpaaDoorKRec
namespace Go.Proofs.YtijpmidnclbhpaaDoor
open Go.RowKit
set_option maxHeartbeats 4000000
set_option maxRecDepth 20000
attribute [local irreducible] SW SWL SWLn SWD SEcall SEcallv SDv SE SO1 SOg ACalls ACallv Wk EndV
set_option linter.unusedSimpArgs false
set_option linter.unusedVariables false
def sl (b : Bool) (l : List Int) : RV := bif b then ints l else .v (.slice none 0 0)
def RecD.raw (r : RecD) : AV := .agg ([.v (.int .i64 r.kind), .v (.int .i64 r.id), .v (.int .i64 r.n), .v (.string r.name), .v (.string r.key), .v (.string r.pre), .v (.int .i64 r.frz), .v (.int .i64 r.drop),
  .v (.int .i64 r.ver.id), .v (.string r.ver.bkt), .v (.string r.ver.key), .v (.bool r.ver.null), .v (.bool r.ver.mark), .v (.int .i64 r.ver.size), .v (.int .i64 r.ver.time), .v (.int .i64 r.ver.tier), sl (r.kind == 4) r.ver.secs, .v (.int .i64 r.ver.vol), .v (.int .i64 r.ver.pos), .v (.int .i64 r.ver.till),
  .v (.int .i64 r.ask.ver), .v (.int .i64 r.ask.days), .v (.int .i64 r.ask.cls), .v (.int .i64 r.part.num), .v (.int .i64 r.part.size), sl (r.kind == 11) r.part.secs, sl (r.kind == 8) r.secs, .v (.int .i64 r.vol), .v (.int .i64 r.pos)].map .d)
def rz : RecD := ⟨0, 0, 0, ⟨#[]⟩, ⟨#[]⟩, ⟨#[]⟩, 0, 0, ⟨0, ⟨#[]⟩, ⟨#[]⟩, false, false, 0, 0, 0, [], 0, 0, 0⟩, ⟨0, 0, 0⟩, ⟨0, 0, []⟩, [], 0, 0⟩
def recK (k : Int) (s : RdS) : RecD := bif k == 1 then { rz with kind := 1, name := textN s } else bif k == 2 then { rz with kind := 2, name := textN s, n := takN (textS s) 4 } else bif k == 3 then { rz with kind := 3, name := textN s, pre := (ruleN (textS s)).pre, frz := (ruleN (textS s)).frz, drop := (ruleN (textS s)).drop } else bif k == 4 then { rz with kind := 4, ver := verN s } else bif k == 6 then { rz with kind := 6, id := takN s 3, vol := takN (takS s 3) 1, pos := takN (takS (takS s 3) 1) 2 } else bif k == 7 then { rz with kind := 7, ask := askN s } else bif k == 8 then { rz with kind := 8, id := takN s 3, n := takN (takS s 3) 4, secs := intsN (takS (takS s 3) 4) } else bif k == 10 then { rz with kind := 10, id := takN s 3, name := textN (takS s 3), key := textN (textS (takS s 3)) } else bif k == 11 then { rz with kind := 11, id := takN s 3, part := partN (takS s 3) } else bif k == 13 then { rz with kind := 13, n := takN s 4 } else bif k == 14 then { rz with kind := 14, vol := takN s 1 } else { rz with kind := k, id := takN s 3 }
def recKS (k : Int) (s : RdS) : RdS := bif k == 1 then textS s else bif k == 2 then takS (textS s) 4 else bif k == 3 then ruleS (textS s) else bif k == 4 then verS s else bif k == 6 then takS (takS (takS s 3) 1) 2 else bif k == 7 then askS s else bif k == 8 then intsS (takS (takS s 3) 4) else bif k == 10 then textS (textS (takS s 3)) else bif k == 11 then partS (takS s 3) else bif k == 13 then takS s 4 else bif k == 14 then takS s 1 else takS s 3
def rkBad (s : RdS) : Bool := (takS s 1).2 == 0 && (decide (takN s 1 < 1) || decide (takN s 1 > 14))
def rk1 (s : RdS) : RdS := bif rkBad s then ((takS s 1).1, 3) else takS s 1
def recN (s : RdS) : RecD := bif (rk1 s).2 == 0 then recK (takN s 1) (takS s 1) else rz
def recS (s : RdS) : RdS := bif (rk1 s).2 == 0 then recKS (takN s 1) (takS s 1) else rk1 s
theorem rec_ok {s : RdS} (h0 : ((takS s 1).2 == 0) = true) {k : Int} (hk : takN s 1 = k) (h1 : (decide (k < 1) || decide (k > 14)) = false) : recN s = recK k (takS s 1) ∧ recS s = recKS k (takS s 1) := by
  have hb : rkBad s = false := by unfold rkBad; rw [hk, h1, Bool.and_false]
  have h2 : rk1 s = takS s 1 := by unfold rk1; rw [hb]; rfl
  unfold recN recS
  rw [h2, h0, hk]; exact ⟨rfl, rfl⟩
theorem rec_no {s : RdS} (h0 : ((takS s 1).2 == 0) = false) : recN s = rz ∧ recS s = takS s 1 := by
  have hb : rkBad s = false := by unfold rkBad; rw [h0, Bool.false_and]
  have h2 : rk1 s = takS s 1 := by unfold rk1; rw [hb]; rfl
  unfold recN recS
  rw [h2, h0]; exact ⟨rfl, rfl⟩
theorem rec_bad {s : RdS} (h0 : ((takS s 1).2 == 0) = true) (h1 : (decide (takN s 1 < 1) || decide (takN s 1 > 14)) = true) : recN s = rz ∧ recS s = ((takS s 1).1, 3) := by
  have hb : rkBad s = true := by unfold rkBad; rw [h0, h1]; rfl
  have h2 : rk1 s = ((takS s 1).1, 3) := by unfold rk1; rw [hb]; rfl
  unfold recN recS
  rw [h2]; exact ⟨rfl, rfl⟩
end Go.Proofs.YtijpmidnclbhpaaDoor
