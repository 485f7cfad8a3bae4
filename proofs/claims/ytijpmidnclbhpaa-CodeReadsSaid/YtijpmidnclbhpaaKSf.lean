/- What reading leaves is a suffix: the small ones. -/
import Derived.Test.YtijpmidnclbhpaaKE
namespace Go.Proofs.Ytijpmidnclbhpaa
open Go.RowKit
set_option maxHeartbeats 4000000
set_option maxRecDepth 20000
attribute [local irreducible] SW OSW SWL SWLn SWD SEcall SEcallv SDv SE SO1 SOg ACalls ACallv Wk EndV
set_option linter.unusedSimpArgs false
set_option linter.unusedVariables false
theorem ruleS_suf (s:RdS):(ruleS s).1 <:+ s.1:=by
  unfold ruleS rul2;exact (takS_suf _ _).trans ((takS_suf _ _).trans (textS_suf s))
theorem askS_suf (s:RdS):(askS s).1 <:+ s.1:=by
  unfold askS ask2;exact (takS_suf _ _).trans ((takS_suf _ _).trans (takS_suf _ _))
theorem partS_suf (s:RdS):(partS s).1 <:+ s.1:=by
  unfold partS part2;exact (intsS_suf _).trans ((takS_suf _ _).trans (takS_suf _ _))
theorem verS_suf (s:RdS):(verS s).1 <:+ s.1:=by
  unfold verS vr11 vr10 vr9 vr8 vr7 vr6 vr5 vr4 vr3 vr2 vr1
  exact (takS_suf _ _).trans ((takS_suf _ _).trans ((takS_suf _ _).trans ((intsS_suf _).trans ((takS_suf _ _).trans ((takS_suf _ _).trans ((takS_suf _ _).trans ((bitS_suf _).trans ((bitS_suf _).trans ((textS_suf _).trans ((textS_suf _).trans (takS_suf _ _)))))))))))
end Go.Proofs.Ytijpmidnclbhpaa
