/- Devices that come out of a put or a flush fit into memory; the first sector of the hot ones. -/
import Derived.Test.YtalhjhmphdgaoaaDevPut
import Derived.Test.YtalhjhmphdgaoaaTypes
namespace Go.Proofs.Ytalhjhmphdgaoaa
open Go.RowKit
set_option maxRecDepth 100000
end Go.Proofs.Ytalhjhmphdgaoaa
namespace Go.Proofs.Ytalhjhmphdgaoaa
open Go.RowKit
set_option maxHeartbeats 4000000
set_option maxRecDepth 20000
attribute [local irreducible] SW SWL SWLn SWD SEcall SEcallv SDv SE SO1 SOg ACalls ACallv Wk EndV
set_option linter.unusedSimpArgs false
set_option linter.unusedVariables false
theorem nilD_fit : nilD.fit := by unfold DevD.fit nilD; simp
theorem putD_fit {g : GeoD} {d : DevD} {a : Int} {b : List UInt8} (hw : d.fit) : (putD g d a b).fit := by
  unfold putD
  cases hE : putE g d a b == 0 with
  | false => exact nilD_fit
  | true =>
    have h0 : devF g d = 0 := by
      cases hd : devF g d != 0 with
      | true => simp only [putE, hd, cond_true] at hE; simp at hE hd; exact hE
      | false => simpa using hd
    have ho := (okd h0).cache
    obtain ⟨w1, w2, w3⟩ := hw
    refine ⟨w1, ?_, w3⟩
    simp only [cond_true, List.length_append, List.length_cons, List.length_nil]; omega
theorem flushD_fit {g : GeoD} {d : DevD} (hw : d.fit) : (flushD g d).fit := by
  unfold flushD
  cases hE : spendE g d == 0 with
  | false => exact nilD_fit
  | true =>
    obtain ⟨w1, w2, w3⟩ := hw
    exact ⟨by simp only [cond_true, putAll_len]; exact w1, by simp, w3⟩
end Go.Proofs.Ytalhjhmphdgaoaa
