/- What reading leaves is a suffix. -/
import Derived.Test.YtijpmidnclbhpaaDoorKE
import Derived.Test.YtijpmidnclbhpaaDoorKD0
namespace Go.Proofs.YtijpmidnclbhpaaDoor
open Go.RowKit
set_option maxHeartbeats 4000000
set_option maxRecDepth 20000
attribute [local irreducible] SW SWL SWLn SWD SEcall SEcallv SDv SE SO1 SOg ACalls ACallv Wk EndV
set_option linter.unusedSimpArgs false
set_option linter.unusedVariables false
theorem ruleS_suf (s : RdS) : (ruleS s).1 <:+ s.1 := by
  unfold ruleS rul2; exact (takS_suf _ _).trans ((takS_suf _ _).trans (textS_suf s))
theorem askS_suf (s : RdS) : (askS s).1 <:+ s.1 := by
  unfold askS ask2; exact (takS_suf _ _).trans ((takS_suf _ _).trans (takS_suf _ _))
theorem partS_suf (s : RdS) : (partS s).1 <:+ s.1 := by
  unfold partS part2; exact (intsS_suf _).trans ((takS_suf _ _).trans (takS_suf _ _))
theorem verS_suf (s : RdS) : (verS s).1 <:+ s.1 := by
  unfold verS vr11 vr10 vr9 vr8 vr7 vr6 vr5 vr4 vr3 vr2 vr1
  exact (takS_suf _ _).trans ((takS_suf _ _).trans ((takS_suf _ _).trans ((intsS_suf _).trans ((takS_suf _ _).trans ((takS_suf _ _).trans ((takS_suf _ _).trans ((bitS_suf _).trans ((bitS_suf _).trans ((textS_suf _).trans ((textS_suf _).trans (takS_suf _ _)))))))))))
theorem cond_suf {s : RdS} (c : Bool) (x y : RdS) (hx : x.1 <:+ s.1) (hy : y.1 <:+ s.1) : (bif c then x else y).1 <:+ s.1 := by
  cases c
  · exact hy
  · exact hx
theorem recKS_suf (k : Int) (s : RdS) : (recKS k s).1 <:+ s.1 := by
  unfold recKS
  repeat' (with_reducible refine cond_suf _ _ _ ?_ ?_)
  all_goals (repeat' (with_reducible first | exact List.suffix_refl _ | refine (takS_suf _ _).trans ?_ | refine (textS_suf _).trans ?_ | refine (intsS_suf _).trans ?_ | refine (ruleS_suf _).trans ?_ | refine (askS_suf _).trans ?_ | refine (partS_suf _).trans ?_ | refine (verS_suf _).trans ?_))
theorem recS_suf (s : RdS) : (recS s).1 <:+ s.1 := by
  unfold recS
  refine cond_suf _ _ _ ((recKS_suf _ _).trans (takS_suf _ _)) ?_
  unfold rk1
  exact cond_suf _ _ _ (takS_suf s 1) (takS_suf s 1)
theorem rcS_suf (s : RdS) : ∀ k, (rcS s k).1 <:+ s.1
  | 0 => takS_suf s 1
  | k + 1 => (recS_suf _).trans (rcS_suf s k)
end Go.Proofs.YtijpmidnclbhpaaDoor
