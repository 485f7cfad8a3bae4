/- Records, as trees; what a record must be like. -/
import Derived.Test.YtijpmidnclbhpaaDoorKFit
import Derived.Test.YtijpmidnclbhpaaDoorTypes
namespace Go.Proofs.YtijpmidnclbhpaaDoor
open Go.RowKit
set_option maxRecDepth 100000
end Go.Proofs.YtijpmidnclbhpaaDoor
namespace Go.Proofs.YtijpmidnclbhpaaDoor
open Go.RowKit
set_option maxHeartbeats 4000000
set_option maxRecDepth 20000
attribute [local irreducible] SW SWL SWLn SWD SEcall SEcallv SDv SE SO1 SOg ACalls ACallv Wk EndV
set_option linter.unusedSimpArgs false
set_option linter.unusedVariables false
structure RecD where
  kind : Int
  id : Int
  n : Int
  name : ByteArray
  key : ByteArray
  pre : ByteArray
  frz : Int
  drop : Int
  ver : VerD
  ask : AskD
  part : PartD
  secs : List Int
  vol : Int
  pos : Int
instance : Inhabited RecD := ⟨⟨0, 0, 0, ⟨#[]⟩, ⟨#[]⟩, ⟨#[]⟩, 0, 0, default, default, default, [], 0, 0⟩⟩
def RecD.row (r : RecD) : List RV := [.v (.int .i64 r.kind), .v (.int .i64 r.id), .v (.int .i64 r.n), .v (.string r.name), .v (.string r.key), .v (.string r.pre), .v (.int .i64 r.frz), .v (.int .i64 r.drop),
  .v (.int .i64 r.ver.id), .v (.string r.ver.bkt), .v (.string r.ver.key), .v (.bool r.ver.null), .v (.bool r.ver.mark), .v (.int .i64 r.ver.size), .v (.int .i64 r.ver.time), .v (.int .i64 r.ver.tier), ints r.ver.secs, .v (.int .i64 r.ver.vol), .v (.int .i64 r.ver.pos), .v (.int .i64 r.ver.till),
  .v (.int .i64 r.ask.ver), .v (.int .i64 r.ask.days), .v (.int .i64 r.ask.cls), .v (.int .i64 r.part.num), .v (.int .i64 r.part.size), ints r.part.secs, ints r.secs, .v (.int .i64 r.vol), .v (.int .i64 r.pos)]
def RecD.av (r : RecD) : AV := .agg (r.row.map .d)
def VerD.av (v : VerD) : AV := .agg (v.row.map .d)
def PartD.av (p : PartD) : AV := .agg (p.row.map .d)
structure RecD.wf (r : RecD) : Prop where
  f1 : -9223372036854775808 ≤ r.frz ∧ r.frz ≤ 9223372036854775807
  d1 : -9223372036854775808 ≤ r.drop ∧ r.drop ≤ 9223372036854775807
end Go.Proofs.YtijpmidnclbhpaaDoor
