/- The eye's record. CODED ELSEWHERE: (*icehouse/icehouseref.eye).rec -/
import Derived.Test.YtijpmidnclbhpaaDoorKFV
import Derived.Test.YtijpmidnclbhpaaDoorKR
import Derived.Test.YtijpmidnclbhpaaDoorKREa
import Derived.Test.YtijpmidnclbhpaaDoorKREf
import Derived.Test.YtijpmidnclbhpaaDoorKREb
import Derived.Test.YtijpmidnclbhpaaDoorKREc
import Derived.Test.YtijpmidnclbhpaaDoorKREd
import Derived.Test.YtijpmidnclbhpaaDoorKREe
namespace Go.Proofs.YtijpmidnclbhpaaDoor
open Go.RowKit
set_option maxHeartbeats 4000000
set_option maxRecDepth 20000
attribute [local irreducible] SW SWL SWLn SWD SEcall SEcallv SDv SE SO1 SOg ACalls ACallv Wk EndV
set_option linter.unusedSimpArgs false
set_option linter.unusedVariables false
attribute [local irreducible] takS textS bitS intsS takN textN bitN intsN ruleS askS partS verS inR
theorem rec_L : Looks Tryd.prog 25 [] (fun s => (recN s).raw) (fun s => recS s) (fun s => True) := by
  intro B σ n bb b e hn hσ hx hbb hp
  cases h0 : ((takS (b, e) 1).2 == 0)
  · exact rec_LA B σ n bb b e hn hσ hx hbb h0
  · rcases (by omega : takN (b, e) 1 < 1 ∨ takN (b, e) 1 > 14 ∨ takN (b, e) 1 = 1 ∨ takN (b, e) 1 = 2 ∨ takN (b, e) 1 = 3 ∨ takN (b, e) 1 = 4 ∨ takN (b, e) 1 = 5 ∨ takN (b, e) 1 = 6 ∨ takN (b, e) 1 = 7 ∨ takN (b, e) 1 = 8 ∨ takN (b, e) 1 = 9 ∨ takN (b, e) 1 = 10 ∨ takN (b, e) 1 = 11 ∨ takN (b, e) 1 = 12 ∨ takN (b, e) 1 = 13 ∨ takN (b, e) 1 = 14) with hk | hk | hk | hk | hk | hk | hk | hk | hk | hk | hk | hk | hk | hk | hk | hk
    · exact rec_LB B σ n bb b e hn hσ hx hbb ⟨h0, hk⟩
    · exact rec_LC B σ n bb b e hn hσ hx hbb ⟨h0, hk⟩
    · exact rec_L1 B σ n bb b e hn hσ hx hbb ⟨h0, hk⟩
    · exact rec_L2 B σ n bb b e hn hσ hx hbb ⟨h0, hk⟩
    · exact rec_L3 B σ n bb b e hn hσ hx hbb ⟨h0, hk⟩
    · exact rec_L4 B σ n bb b e hn hσ hx hbb ⟨h0, hk⟩
    · exact rec_L5 B σ n bb b e hn hσ hx hbb ⟨h0, hk⟩
    · exact rec_L6 B σ n bb b e hn hσ hx hbb ⟨h0, hk⟩
    · exact rec_L7 B σ n bb b e hn hσ hx hbb ⟨h0, hk⟩
    · exact rec_L8 B σ n bb b e hn hσ hx hbb ⟨h0, hk⟩
    · exact rec_L9 B σ n bb b e hn hσ hx hbb ⟨h0, hk⟩
    · exact rec_L10 B σ n bb b e hn hσ hx hbb ⟨h0, hk⟩
    · exact rec_L11 B σ n bb b e hn hσ hx hbb ⟨h0, hk⟩
    · exact rec_L12 B σ n bb b e hn hσ hx hbb ⟨h0, hk⟩
    · exact rec_L13 B σ n bb b e hn hσ hx hbb ⟨h0, hk⟩
    · exact rec_L14 B σ n bb b e hn hσ hx hbb ⟨h0, hk⟩
end Go.Proofs.YtijpmidnclbhpaaDoor
