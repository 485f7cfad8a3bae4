/- A call that is handed an array of one's own,only read from then on. -/
import Derived.Test.YtikgiadbkjmabaaBase
namespace Go.Proofs.Ytikgiadbkjmabaa
open Go.RowKit
set_option maxHeartbeats 4000000
set_option maxRecDepth 20000
attribute [local irreducible] SW OSW SWL SWLn SWD SEcall SEcallv SDv SE SO1 SOg ACalls ACallv Wk EndV
set_option linter.unusedSimpArgs false
set_option linter.unusedVariables false
theorem Wk.freeze {B:Nat} {T0:List Nat} {r:Sto} {a:Fr} {l:Loc} {m k:Nat} {E:TypeId} {rows:List (List RV)} (hB:ClosedS B r) (hm:B ≤ m) (ho:sto l r m = .arr k E rows):Wk B T0 r a l (Fr.map (AV.fz1 m rows) a) (Loc.kill m l):=by
  unfold Wk
  intro t w K h1 h2
  obtain ⟨K',g1,g2⟩:=freeze_ok (N:=t.size) (T0:=T0) (act:={ tmps:=t,defers:=[] }) hB ⟨h1,h2,rfl,rfl⟩ hm ho
  exact ⟨K',g1,g2.rs,g2.rf⟩
theorem call_fz {P:Program} {B:Nat} {T0:List Nat} {r:Sto} {a:Fr} {l:Loc} {d:Option Nat} {K:Fr → Loc → Prop} {f:FuncId} {args:List Operand} {vs:List AV} {v:AV} {m k:Nat} {E:TypeId} {rows:List (List RV)} (hB:ClosedS B r) (hm:B ≤ m) (ho:sto l r m = .arr k E rows) (he:enters P f = true) (hC:Pure P f vs v) (hv:(args.map fun x=>(opd (Fr.map (AV.fz1 m rows) a) x).2) = vs) (hp:allP (args.map fun x=>(opd (Fr.map (AV.fz1 m rows) a) x).1)) (hF:Fr.below (B + 100000) (Fr.map (AV.fz1 m rows) a)) (hL:Loc.below (B + 100000) (Loc.kill m l)) (hk:K (putO d v (Fr.map (AV.fz1 m rows) a)) (Loc.kill m l)):SEcall P B T0 r d K a l f args:=by
  unfold SEcall
  unfold Pure at hC
  exact ⟨[],fun v' σ'=>v' = v ∧ σ' = sto (Loc.kill m l) r,_,_,Wk.freeze hB hm ho,he,by simp,by rw [hv];exact hC _ _,hp,hF,hL,fun v' σ' ⟨h1,h2⟩=>⟨_,h2,by rw [h1];exact hk⟩⟩
end Go.Proofs.Ytikgiadbkjmabaa
