/-
  No cell of these rows narrows 'for every input' (looked for: loops, veiled, ifaces, maps, wideKeys, modest, calm, conditions, laid).
  DERIVED. THE GIVEN ROWS OF THIS SEAT. 5 by the template 'for every input the law returns true; each argument reads behind the call as it read before'; 0 by the template 'total and deterministic' (their statements: YteaojhieghakfaaTotals.lean).
  GIVEN WITH THE SEED: the statements are not yours to turn. If you find one false, say at which input.
  Laid BY PROGRAM, IN A SANDBOX (cutbox-rows.mjs): the forced cells as the released guide's own fill.sh prints them over the translation 60c58fadd5b45243… (all of the seat's roots in one cut). By AI agents, Wed Nov 11 2026. No macro, syntax, notation, axiom, sorry.
-/
import Derived.Test.YteaojhieghakfaaChecked
import GoSem.Claim
import GoSem.ClaimJoined
import GoSem.ClaimMapViews
import Derived.JoinedTies
import Derived.KernelRfl
namespace Go.Proofs.Yteaojhieghakfaa
/- THE CELL 'sum', in the pinned program and in every row, IS THE sha256 OF THE DUMP (.gsa) THAT YteaojhieghakfaaProg.lean LOADS. Nothing in Lean hashes anything: it is a label: what it is worth is what the hold of that sum in a sandbox is worth. -/
noncomputable def Try.pinned : Pinned := { name := "yteaojhieghakfaa", sum := "60c58fadd5b45243346eb69948d88effdedd2580cbe1e314187fdb85dcc83f79", checked := Try.checked }
namespace Rows
def none {H : Type} : Left H := { results := [], args := [] }

/-- 'icehouselaw.TierPlaces': WHATEVER THE INPUT: true; the input reads as it did. -/
def tierPlacesSpec : ChangeSpec := { name := "tierPlaces", fn := fun _ => fun
  | [d1, d2, d3, d4, d5] => { results := [.lit (.bool true)], args := [d1, d2, d3, d4, d5] }
  | _ => none }
def tierPlacesRow : OpenClaim := { program := "yteaojhieghakfaa", sum := "60c58fadd5b45243346eb69948d88effdedd2580cbe1e314187fdb85dcc83f79", func := "icehouse/icehouselaw.TierPlaces", spec := "tierPlaces", inPlace := ["internal/bytealg.abigen_runtime_cmpstring"], unfollowed := true, recurses := true, plainKeys := false, apart := false }
def TierPlacesSaid : Prop := tierPlacesRow.holds Try.pinned (OpenSpec.ofChange tierPlacesSpec)

/-- ITS FALSE NEIGHBOUR: 'it returns false'. Refute it at one input. -/
def tierPlacesWrong : ChangeSpec := { name := "tierPlaces", fn := fun _ => fun
  | [d1, d2, d3, d4, d5] => { results := [.lit (.bool false)], args := [d1, d2, d3, d4, d5] }
  | _ => none }
def TierPlacesWrongFalsely : Prop := tierPlacesRow.holds Try.pinned (OpenSpec.ofChange tierPlacesWrong)

/-- 'icehouselaw.TierLive': WHATEVER THE INPUT: true; the input reads as it did. -/
def tierLiveSpec : ChangeSpec := { name := "tierLive", fn := fun _ => fun
  | [d] => { results := [.lit (.bool true)], args := [d] }
  | _ => none }
def tierLiveRow : OpenClaim := { program := "yteaojhieghakfaa", sum := "60c58fadd5b45243346eb69948d88effdedd2580cbe1e314187fdb85dcc83f79", func := "icehouse/icehouselaw.TierLive", spec := "tierLive", inPlace := ["internal/bytealg.abigen_runtime_cmpstring"], unfollowed := true, recurses := true, plainKeys := false, apart := false }
def TierLiveSaid : Prop := tierLiveRow.holds Try.pinned (OpenSpec.ofChange tierLiveSpec)

/-- ITS FALSE NEIGHBOUR: 'it returns false'. Refute it at one input. -/
def tierLiveWrong : ChangeSpec := { name := "tierLive", fn := fun _ => fun
  | [d] => { results := [.lit (.bool false)], args := [d] }
  | _ => none }
def TierLiveWrongFalsely : Prop := tierLiveRow.holds Try.pinned (OpenSpec.ofChange tierLiveWrong)

/-- 'icehouselaw.TierNext': WHATEVER THE INPUT: true; the input reads as it did. -/
def tierNextSpec : ChangeSpec := { name := "tierNext", fn := fun _ => fun
  | [d] => { results := [.lit (.bool true)], args := [d] }
  | _ => none }
def tierNextRow : OpenClaim := { program := "yteaojhieghakfaa", sum := "60c58fadd5b45243346eb69948d88effdedd2580cbe1e314187fdb85dcc83f79", func := "icehouse/icehouselaw.TierNext", spec := "tierNext", inPlace := ["internal/bytealg.abigen_runtime_cmpstring"], unfollowed := true, recurses := true, plainKeys := false, apart := false }
def TierNextSaid : Prop := tierNextRow.holds Try.pinned (OpenSpec.ofChange tierNextSpec)

/-- ITS FALSE NEIGHBOUR: 'it returns false'. Refute it at one input. -/
def tierNextWrong : ChangeSpec := { name := "tierNext", fn := fun _ => fun
  | [d] => { results := [.lit (.bool false)], args := [d] }
  | _ => none }
def TierNextWrongFalsely : Prop := tierNextRow.holds Try.pinned (OpenSpec.ofChange tierNextWrong)

/-- 'icehouselaw.StateFree': WHATEVER THE INPUT: true; the input reads as it did. -/
def stateFreeSpec : ChangeSpec := { name := "stateFree", fn := fun _ => fun
  | [d1, d2] => { results := [.lit (.bool true)], args := [d1, d2] }
  | _ => none }
def stateFreeRow : OpenClaim := { program := "yteaojhieghakfaa", sum := "60c58fadd5b45243346eb69948d88effdedd2580cbe1e314187fdb85dcc83f79", func := "icehouse/icehouselaw.StateFree", spec := "stateFree", inPlace := ["internal/bytealg.abigen_runtime_cmpstring"], unfollowed := true, recurses := true, plainKeys := false, apart := false }
def StateFreeSaid : Prop := stateFreeRow.holds Try.pinned (OpenSpec.ofChange stateFreeSpec)

/-- ITS FALSE NEIGHBOUR: 'it returns false'. Refute it at one input. -/
def stateFreeWrong : ChangeSpec := { name := "stateFree", fn := fun _ => fun
  | [d1, d2] => { results := [.lit (.bool false)], args := [d1, d2] }
  | _ => none }
def StateFreeWrongFalsely : Prop := stateFreeRow.holds Try.pinned (OpenSpec.ofChange stateFreeWrong)

/-- 'icehouselaw.TierHalf': WHATEVER THE INPUT: true; the input reads as it did. -/
def tierHalfSpec : ChangeSpec := { name := "tierHalf", fn := fun _ => fun
  | [d1, d2] => { results := [.lit (.bool true)], args := [d1, d2] }
  | _ => none }
def tierHalfRow : OpenClaim := { program := "yteaojhieghakfaa", sum := "60c58fadd5b45243346eb69948d88effdedd2580cbe1e314187fdb85dcc83f79", func := "icehouse/icehouselaw.TierHalf", spec := "tierHalf", inPlace := ["internal/bytealg.abigen_runtime_cmpstring"], unfollowed := true, recurses := true, plainKeys := false, apart := false }
def TierHalfSaid : Prop := tierHalfRow.holds Try.pinned (OpenSpec.ofChange tierHalfSpec)

/-- ITS FALSE NEIGHBOUR: 'it returns false'. Refute it at one input. -/
def tierHalfWrong : ChangeSpec := { name := "tierHalf", fn := fun _ => fun
  | [d1, d2] => { results := [.lit (.bool false)], args := [d1, d2] }
  | _ => none }
def TierHalfWrongFalsely : Prop := tierHalfRow.holds Try.pinned (OpenSpec.ofChange tierHalfWrong)

/- THE SECOND FORM. 'bulk': how many values and letters a reading holds, each counted each time it is reached (what is shared counts as often as it is met; a slice's spare places count too). A statement '..UptoSaid' is the law's where the arguments, and the package variables that the reading takes, are together of bulk at most 1048576: NARROWER than '..Said'. Prove '..Said' where nothing that the law and all that it calls make is longer than what came in: it says more and counts as full. Else prove '..UptoSaid'. A law counts once. -/
mutual
def uptoBulk {H : Type} : DataW H → Nat
  | .lit (.string bytes) => bytes.length + 1
  | .lit _ => 1
  | .nil => 1
  | .ptr d => uptoBulk d + 1
  | .slice elems spare => uptoBulkAll elems + uptoBulkAll spare + 1
  | .agg parts => uptoBulkAll parts + 1
  | .iface _ d => uptoBulk d + 1
  | .map entries => uptoBulkEntries entries + 1
  | .held _ => 1
def uptoBulkAll {H : Type} : List (DataW H) → Nat
  | [] => 0
  | d :: r => uptoBulk d + uptoBulkAll r
def uptoBulkEntries {H : Type} : List (Lit × DataW H) → Nat
  | [] => 0
  | x :: r => uptoBulkEntry x + uptoBulkEntries r
def uptoBulkEntry {H : Type} : Lit × DataW H → Nat
  | (.string bytes, d) => bytes.length + uptoBulk d + 1
  | (_, d) => uptoBulk d + 1
 end
def uptoSmall : (H : Type) → List (DataW H) → Bool := fun _ ds => decide (uptoBulkAll ds ≤ 1048576)
def OpenSpec.upto (s : _root_.Go.ChangeSpec) : _root_.Go.OpenSpec := { _root_.Go.OpenSpec.ofChange s with cond := some uptoSmall }

/-- 'icehouselaw.TierPlaces', WHERE WHAT IT READS IS OF BULK AT MOST 1048576: true; the input reads as it did. -/
def tierPlacesUptoRow : OpenClaim := { program := "yteaojhieghakfaa", sum := "60c58fadd5b45243346eb69948d88effdedd2580cbe1e314187fdb85dcc83f79", func := "icehouse/icehouselaw.TierPlaces", spec := "tierPlaces", inPlace := ["internal/bytealg.abigen_runtime_cmpstring"], unfollowed := true, recurses := true, plainKeys := false, apart := false, narrowed := true }
def TierPlacesUptoSaid : Prop := tierPlacesUptoRow.holds Try.pinned (OpenSpec.upto tierPlacesSpec)

/-- 'icehouselaw.TierLive', WHERE WHAT IT READS IS OF BULK AT MOST 1048576: true; the input reads as it did. -/
def tierLiveUptoRow : OpenClaim := { program := "yteaojhieghakfaa", sum := "60c58fadd5b45243346eb69948d88effdedd2580cbe1e314187fdb85dcc83f79", func := "icehouse/icehouselaw.TierLive", spec := "tierLive", inPlace := ["internal/bytealg.abigen_runtime_cmpstring"], unfollowed := true, recurses := true, plainKeys := false, apart := false, narrowed := true }
def TierLiveUptoSaid : Prop := tierLiveUptoRow.holds Try.pinned (OpenSpec.upto tierLiveSpec)

/-- 'icehouselaw.TierNext', WHERE WHAT IT READS IS OF BULK AT MOST 1048576: true; the input reads as it did. -/
def tierNextUptoRow : OpenClaim := { program := "yteaojhieghakfaa", sum := "60c58fadd5b45243346eb69948d88effdedd2580cbe1e314187fdb85dcc83f79", func := "icehouse/icehouselaw.TierNext", spec := "tierNext", inPlace := ["internal/bytealg.abigen_runtime_cmpstring"], unfollowed := true, recurses := true, plainKeys := false, apart := false, narrowed := true }
def TierNextUptoSaid : Prop := tierNextUptoRow.holds Try.pinned (OpenSpec.upto tierNextSpec)

/-- 'icehouselaw.StateFree', WHERE WHAT IT READS IS OF BULK AT MOST 1048576: true; the input reads as it did. -/
def stateFreeUptoRow : OpenClaim := { program := "yteaojhieghakfaa", sum := "60c58fadd5b45243346eb69948d88effdedd2580cbe1e314187fdb85dcc83f79", func := "icehouse/icehouselaw.StateFree", spec := "stateFree", inPlace := ["internal/bytealg.abigen_runtime_cmpstring"], unfollowed := true, recurses := true, plainKeys := false, apart := false, narrowed := true }
def StateFreeUptoSaid : Prop := stateFreeUptoRow.holds Try.pinned (OpenSpec.upto stateFreeSpec)

/-- 'icehouselaw.TierHalf', WHERE WHAT IT READS IS OF BULK AT MOST 1048576: true; the input reads as it did. -/
def tierHalfUptoRow : OpenClaim := { program := "yteaojhieghakfaa", sum := "60c58fadd5b45243346eb69948d88effdedd2580cbe1e314187fdb85dcc83f79", func := "icehouse/icehouselaw.TierHalf", spec := "tierHalf", inPlace := ["internal/bytealg.abigen_runtime_cmpstring"], unfollowed := true, recurses := true, plainKeys := false, apart := false, narrowed := true }
def TierHalfUptoSaid : Prop := tierHalfUptoRow.holds Try.pinned (OpenSpec.upto tierHalfSpec)

end Rows
end Go.Proofs.Yteaojhieghakfaa
