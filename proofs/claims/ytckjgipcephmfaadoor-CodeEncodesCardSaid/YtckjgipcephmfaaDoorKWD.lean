/- What a record is, as bytes. -/
import Derived.Test.YtckjgipcephmfaaDoorKY
import Derived.Test.YtckjgipcephmfaaDoorKRec
namespace Go.Proofs.YtckjgipcephmfaaDoor
open Go.RowKit
set_option maxHeartbeats 4000000
set_option maxRecDepth 20000
attribute [local irreducible] SW SWL SWLn SWD SEcall SEcallv SDv SE SO1 SOg ACalls ACallv Wk EndV
set_option linter.unusedSimpArgs false
set_option linter.unusedVariables false
structure RecD.sh (r : RecD) : Prop where
  name : r.name.size ≤ 2 ^ 40
  key : r.key.size ≤ 2 ^ 40
  pre : r.pre.size ≤ 2 ^ 40
  bkt : r.ver.bkt.size ≤ 2 ^ 40
  vkey : r.ver.key.size ≤ 2 ^ 40
def recTB (r : RecD) : List UInt8 := bif r.kind == 1 then textB r.name else bif r.kind == 2 then textB r.name ++ bigB r.n 4 else bif r.kind == 3 then textB r.name ++ ruleB r.pre r.frz r.drop else bif r.kind == 4 then verB r.ver else bif r.kind == 6 then bigB r.id 3 ++ [b8 r.vol] ++ bigB r.pos 2 else bif r.kind == 7 then askB r.ask else bif r.kind == 8 then bigB r.id 3 ++ bigB r.n 4 ++ intsB r.secs else bif r.kind == 10 then bigB r.id 3 ++ textB r.name ++ textB r.key else bif r.kind == 11 then bigB r.id 3 ++ partB r.part else bif r.kind == 13 then bigB r.n 4 else bif r.kind == 14 then [b8 r.vol] else bigB r.id 3
def recB (r : RecD) : List UInt8 := [b8 r.kind] ++ recTB r
theorem recB_1 {r : RecD} (hk : r.kind = 1) : recB r = [b8 1] ++ (textB r.name) := by unfold recB recTB; rw [hk]; rfl
theorem recB_2 {r : RecD} (hk : r.kind = 2) : recB r = [b8 2] ++ (textB r.name ++ bigB r.n 4) := by unfold recB recTB; rw [hk]; rfl
theorem recB_3 {r : RecD} (hk : r.kind = 3) : recB r = [b8 3] ++ (textB r.name ++ ruleB r.pre r.frz r.drop) := by unfold recB recTB; rw [hk]; rfl
theorem recB_4 {r : RecD} (hk : r.kind = 4) : recB r = [b8 4] ++ (verB r.ver) := by unfold recB recTB; rw [hk]; rfl
theorem recB_5 {r : RecD} (hk : r.kind = 5) : recB r = [b8 5] ++ (bigB r.id 3) := by unfold recB recTB; rw [hk]; rfl
theorem recB_6 {r : RecD} (hk : r.kind = 6) : recB r = [b8 6] ++ (bigB r.id 3 ++ [b8 r.vol] ++ bigB r.pos 2) := by unfold recB recTB; rw [hk]; rfl
theorem recB_7 {r : RecD} (hk : r.kind = 7) : recB r = [b8 7] ++ (askB r.ask) := by unfold recB recTB; rw [hk]; rfl
theorem recB_8 {r : RecD} (hk : r.kind = 8) : recB r = [b8 8] ++ (bigB r.id 3 ++ bigB r.n 4 ++ intsB r.secs) := by unfold recB recTB; rw [hk]; rfl
theorem recB_9 {r : RecD} (hk : r.kind = 9) : recB r = [b8 9] ++ (bigB r.id 3) := by unfold recB recTB; rw [hk]; rfl
theorem recB_10 {r : RecD} (hk : r.kind = 10) : recB r = [b8 10] ++ (bigB r.id 3 ++ textB r.name ++ textB r.key) := by unfold recB recTB; rw [hk]; rfl
theorem recB_11 {r : RecD} (hk : r.kind = 11) : recB r = [b8 11] ++ (bigB r.id 3 ++ partB r.part) := by unfold recB recTB; rw [hk]; rfl
theorem recB_12 {r : RecD} (hk : r.kind = 12) : recB r = [b8 12] ++ (bigB r.id 3) := by unfold recB recTB; rw [hk]; rfl
theorem recB_13 {r : RecD} (hk : r.kind = 13) : recB r = [b8 13] ++ (bigB r.n 4) := by unfold recB recTB; rw [hk]; rfl
theorem recB_14 {r : RecD} (hk : r.kind = 14) : recB r = [b8 14] ++ ([b8 r.vol]) := by unfold recB recTB; rw [hk]; rfl
end Go.Proofs.YtckjgipcephmfaaDoor
