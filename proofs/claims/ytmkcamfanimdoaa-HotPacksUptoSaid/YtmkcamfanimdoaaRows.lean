/-
  No cell of these rows narrows 'for every input' (looked for: loops, veiled, ifaces, maps, wideKeys, modest, calm, conditions, laid).
  DERIVED. THE GIVEN ROWS OF THIS SEAT. 21 by the template 'for every input the law returns true; each argument reads behind the call as it read before'; 0 by the template 'total and deterministic' (their statements: YtmkcamfanimdoaaTotals.lean).
  GIVEN WITH THE SEED: the statements are not yours to turn. If you find one false, say at which input.
  Laid BY PROGRAM, IN A SANDBOX (cutbox-rows.mjs): the forced cells as the released guide's own fill.sh prints them over the translation 663e90672cb8437f… (all of the seat's roots in one cut). By AI agents, Wed Nov 11 2026. No macro, syntax, notation, axiom, sorry.
-/
import Derived.Test.YtmkcamfanimdoaaChecked
import GoSem.Claim
import GoSem.ClaimJoined
import GoSem.ClaimMapViews
import Derived.JoinedTies
import Derived.KernelRfl
namespace Go.Proofs.Ytmkcamfanimdoaa
/- THE CELL 'sum', in the pinned program and in every row, IS THE sha256 OF THE DUMP (.gsa) THAT YtmkcamfanimdoaaProg.lean LOADS. Nothing in Lean hashes anything: it is a label: what it is worth is what the hold of that sum in a sandbox is worth. -/
noncomputable def Try.pinned : Pinned := { name := "ytmkcamfanimdoaa", sum := "663e90672cb8437ffb08afe13f5eae2cb1d31f340eab9b92dcf16d933b88b6e4", checked := Try.checked }
namespace Rows
def none {H : Type} : Left H := { results := [], args := [] }

/-- 'icehouselaw.DevGeometry': WHATEVER THE INPUT: true; the input reads as it did. -/
def devGeometrySpec : ChangeSpec := { name := "devGeometry", fn := fun _ => fun
  | [d] => { results := [.lit (.bool true)], args := [d] }
  | _ => none }
def devGeometryRow : OpenClaim := { program := "ytmkcamfanimdoaa", sum := "663e90672cb8437ffb08afe13f5eae2cb1d31f340eab9b92dcf16d933b88b6e4", func := "icehouse/icehouselaw.DevGeometry", spec := "devGeometry", apart := false }
def DevGeometrySaid : Prop := devGeometryRow.holds Try.pinned (OpenSpec.ofChange devGeometrySpec)

/-- ITS FALSE NEIGHBOUR: 'it returns false'. Refute it at one input. -/
def devGeometryWrong : ChangeSpec := { name := "devGeometry", fn := fun _ => fun
  | [d] => { results := [.lit (.bool false)], args := [d] }
  | _ => none }
def DevGeometryWrongFalsely : Prop := devGeometryRow.holds Try.pinned (OpenSpec.ofChange devGeometryWrong)

/-- 'icehouselaw.RingChecks': WHATEVER THE INPUT: true; the input reads as it did. -/
def ringChecksSpec : ChangeSpec := { name := "ringChecks", fn := fun _ => fun
  | [d1, d2] => { results := [.lit (.bool true)], args := [d1, d2] }
  | _ => none }
def ringChecksRow : OpenClaim := { program := "ytmkcamfanimdoaa", sum := "663e90672cb8437ffb08afe13f5eae2cb1d31f340eab9b92dcf16d933b88b6e4", func := "icehouse/icehouselaw.RingChecks", spec := "ringChecks", apart := false }
def RingChecksSaid : Prop := ringChecksRow.holds Try.pinned (OpenSpec.ofChange ringChecksSpec)

/-- ITS FALSE NEIGHBOUR: 'it returns false'. Refute it at one input. -/
def ringChecksWrong : ChangeSpec := { name := "ringChecks", fn := fun _ => fun
  | [d1, d2] => { results := [.lit (.bool false)], args := [d1, d2] }
  | _ => none }
def RingChecksWrongFalsely : Prop := ringChecksRow.holds Try.pinned (OpenSpec.ofChange ringChecksWrong)

/-- 'icehouselaw.DevNew': WHATEVER THE INPUT: true; the input reads as it did. -/
def devNewSpec : ChangeSpec := { name := "devNew", fn := fun _ => fun
  | [d] => { results := [.lit (.bool true)], args := [d] }
  | _ => none }
def devNewRow : OpenClaim := { program := "ytmkcamfanimdoaa", sum := "663e90672cb8437ffb08afe13f5eae2cb1d31f340eab9b92dcf16d933b88b6e4", func := "icehouse/icehouselaw.DevNew", spec := "devNew", apart := false }
def DevNewSaid : Prop := devNewRow.holds Try.pinned (OpenSpec.ofChange devNewSpec)

/-- ITS FALSE NEIGHBOUR: 'it returns false'. Refute it at one input. -/
def devNewWrong : ChangeSpec := { name := "devNew", fn := fun _ => fun
  | [d] => { results := [.lit (.bool false)], args := [d] }
  | _ => none }
def DevNewWrongFalsely : Prop := devNewRow.holds Try.pinned (OpenSpec.ofChange devNewWrong)

/-- 'icehouselaw.DevChecks': WHATEVER THE INPUT: true; the input reads as it did. -/
def devChecksSpec : ChangeSpec := { name := "devChecks", fn := fun _ => fun
  | [d1, d2] => { results := [.lit (.bool true)], args := [d1, d2] }
  | _ => none }
def devChecksRow : OpenClaim := { program := "ytmkcamfanimdoaa", sum := "663e90672cb8437ffb08afe13f5eae2cb1d31f340eab9b92dcf16d933b88b6e4", func := "icehouse/icehouselaw.DevChecks", spec := "devChecks", unfollowed := true, recurses := true, apart := false }
def DevChecksSaid : Prop := devChecksRow.holds Try.pinned (OpenSpec.ofChange devChecksSpec)

/-- ITS FALSE NEIGHBOUR: 'it returns false'. Refute it at one input. -/
def devChecksWrong : ChangeSpec := { name := "devChecks", fn := fun _ => fun
  | [d1, d2] => { results := [.lit (.bool false)], args := [d1, d2] }
  | _ => none }
def DevChecksWrongFalsely : Prop := devChecksRow.holds Try.pinned (OpenSpec.ofChange devChecksWrong)

/-- 'icehouselaw.HotPacks': WHATEVER THE INPUT: true; the input reads as it did. -/
def hotPacksSpec : ChangeSpec := { name := "hotPacks", fn := fun _ => fun
  | [d1, d2, d3] => { results := [.lit (.bool true)], args := [d1, d2, d3] }
  | _ => none }
def hotPacksRow : OpenClaim := { program := "ytmkcamfanimdoaa", sum := "663e90672cb8437ffb08afe13f5eae2cb1d31f340eab9b92dcf16d933b88b6e4", func := "icehouse/icehouselaw.HotPacks", spec := "hotPacks", apart := false }
def HotPacksSaid : Prop := hotPacksRow.holds Try.pinned (OpenSpec.ofChange hotPacksSpec)

/-- ITS FALSE NEIGHBOUR: 'it returns false'. Refute it at one input. -/
def hotPacksWrong : ChangeSpec := { name := "hotPacks", fn := fun _ => fun
  | [d1, d2, d3] => { results := [.lit (.bool false)], args := [d1, d2, d3] }
  | _ => none }
def HotPacksWrongFalsely : Prop := hotPacksRow.holds Try.pinned (OpenSpec.ofChange hotPacksWrong)

/-- 'icehouselaw.DevFetches': WHATEVER THE INPUT: true; the input reads as it did. -/
def devFetchesSpec : ChangeSpec := { name := "devFetches", fn := fun _ => fun
  | [d1, d2, d3, d4, d5] => { results := [.lit (.bool true)], args := [d1, d2, d3, d4, d5] }
  | _ => none }
def devFetchesRow : OpenClaim := { program := "ytmkcamfanimdoaa", sum := "663e90672cb8437ffb08afe13f5eae2cb1d31f340eab9b92dcf16d933b88b6e4", func := "icehouse/icehouselaw.DevFetches", spec := "devFetches", unfollowed := true, recurses := true, apart := false }
def DevFetchesSaid : Prop := devFetchesRow.holds Try.pinned (OpenSpec.ofChange devFetchesSpec)

/-- ITS FALSE NEIGHBOUR: 'it returns false'. Refute it at one input. -/
def devFetchesWrong : ChangeSpec := { name := "devFetches", fn := fun _ => fun
  | [d1, d2, d3, d4, d5] => { results := [.lit (.bool false)], args := [d1, d2, d3, d4, d5] }
  | _ => none }
def DevFetchesWrongFalsely : Prop := devFetchesRow.holds Try.pinned (OpenSpec.ofChange devFetchesWrong)

/-- 'icehouselaw.DevGets': WHATEVER THE INPUT: true; the input reads as it did. -/
def devGetsSpec : ChangeSpec := { name := "devGets", fn := fun _ => fun
  | [d1, d2, d3] => { results := [.lit (.bool true)], args := [d1, d2, d3] }
  | _ => none }
def devGetsRow : OpenClaim := { program := "ytmkcamfanimdoaa", sum := "663e90672cb8437ffb08afe13f5eae2cb1d31f340eab9b92dcf16d933b88b6e4", func := "icehouse/icehouselaw.DevGets", spec := "devGets", unfollowed := true, recurses := true, apart := false }
def DevGetsSaid : Prop := devGetsRow.holds Try.pinned (OpenSpec.ofChange devGetsSpec)

/-- ITS FALSE NEIGHBOUR: 'it returns false'. Refute it at one input. -/
def devGetsWrong : ChangeSpec := { name := "devGets", fn := fun _ => fun
  | [d1, d2, d3] => { results := [.lit (.bool false)], args := [d1, d2, d3] }
  | _ => none }
def DevGetsWrongFalsely : Prop := devGetsRow.holds Try.pinned (OpenSpec.ofChange devGetsWrong)

/-- 'icehouselaw.DevArms': WHATEVER THE INPUT: true; the input reads as it did. -/
def devArmsSpec : ChangeSpec := { name := "devArms", fn := fun _ => fun
  | [d1, d2, d3] => { results := [.lit (.bool true)], args := [d1, d2, d3] }
  | _ => none }
def devArmsRow : OpenClaim := { program := "ytmkcamfanimdoaa", sum := "663e90672cb8437ffb08afe13f5eae2cb1d31f340eab9b92dcf16d933b88b6e4", func := "icehouse/icehouselaw.DevArms", spec := "devArms", unfollowed := true, recurses := true, apart := false }
def DevArmsSaid : Prop := devArmsRow.holds Try.pinned (OpenSpec.ofChange devArmsSpec)

/-- ITS FALSE NEIGHBOUR: 'it returns false'. Refute it at one input. -/
def devArmsWrong : ChangeSpec := { name := "devArms", fn := fun _ => fun
  | [d1, d2, d3] => { results := [.lit (.bool false)], args := [d1, d2, d3] }
  | _ => none }
def DevArmsWrongFalsely : Prop := devArmsRow.holds Try.pinned (OpenSpec.ofChange devArmsWrong)

/-- 'icehouselaw.DevCrashes': WHATEVER THE INPUT: true; the input reads as it did. -/
def devCrashesSpec : ChangeSpec := { name := "devCrashes", fn := fun _ => fun
  | [d1, d2, d3, d4] => { results := [.lit (.bool true)], args := [d1, d2, d3, d4] }
  | _ => none }
def devCrashesRow : OpenClaim := { program := "ytmkcamfanimdoaa", sum := "663e90672cb8437ffb08afe13f5eae2cb1d31f340eab9b92dcf16d933b88b6e4", func := "icehouse/icehouselaw.DevCrashes", spec := "devCrashes", unfollowed := true, recurses := true, apart := false }
def DevCrashesSaid : Prop := devCrashesRow.holds Try.pinned (OpenSpec.ofChange devCrashesSpec)

/-- ITS FALSE NEIGHBOUR: 'it returns false'. Refute it at one input. -/
def devCrashesWrong : ChangeSpec := { name := "devCrashes", fn := fun _ => fun
  | [d1, d2, d3, d4] => { results := [.lit (.bool false)], args := [d1, d2, d3, d4] }
  | _ => none }
def DevCrashesWrongFalsely : Prop := devCrashesRow.holds Try.pinned (OpenSpec.ofChange devCrashesWrong)

/-- 'icehouselaw.DevMarks': WHATEVER THE INPUT: true; the input reads as it did. -/
def devMarksSpec : ChangeSpec := { name := "devMarks", fn := fun _ => fun
  | [d1, d2] => { results := [.lit (.bool true)], args := [d1, d2] }
  | _ => none }
def devMarksRow : OpenClaim := { program := "ytmkcamfanimdoaa", sum := "663e90672cb8437ffb08afe13f5eae2cb1d31f340eab9b92dcf16d933b88b6e4", func := "icehouse/icehouselaw.DevMarks", spec := "devMarks", unfollowed := true, recurses := true, apart := false }
def DevMarksSaid : Prop := devMarksRow.holds Try.pinned (OpenSpec.ofChange devMarksSpec)

/-- ITS FALSE NEIGHBOUR: 'it returns false'. Refute it at one input. -/
def devMarksWrong : ChangeSpec := { name := "devMarks", fn := fun _ => fun
  | [d1, d2] => { results := [.lit (.bool false)], args := [d1, d2] }
  | _ => none }
def DevMarksWrongFalsely : Prop := devMarksRow.holds Try.pinned (OpenSpec.ofChange devMarksWrong)

/-- 'icehouselaw.DevFlushes': WHATEVER THE INPUT: true; the input reads as it did. -/
def devFlushesSpec : ChangeSpec := { name := "devFlushes", fn := fun _ => fun
  | [d1, d2] => { results := [.lit (.bool true)], args := [d1, d2] }
  | _ => none }
def devFlushesRow : OpenClaim := { program := "ytmkcamfanimdoaa", sum := "663e90672cb8437ffb08afe13f5eae2cb1d31f340eab9b92dcf16d933b88b6e4", func := "icehouse/icehouselaw.DevFlushes", spec := "devFlushes", unfollowed := true, recurses := true, apart := false }
def DevFlushesSaid : Prop := devFlushesRow.holds Try.pinned (OpenSpec.ofChange devFlushesSpec)

/-- ITS FALSE NEIGHBOUR: 'it returns false'. Refute it at one input. -/
def devFlushesWrong : ChangeSpec := { name := "devFlushes", fn := fun _ => fun
  | [d1, d2] => { results := [.lit (.bool false)], args := [d1, d2] }
  | _ => none }
def DevFlushesWrongFalsely : Prop := devFlushesRow.holds Try.pinned (OpenSpec.ofChange devFlushesWrong)

/-- 'icehouselaw.HotFetches': WHATEVER THE INPUT: true; the input reads as it did. -/
def hotFetchesSpec : ChangeSpec := { name := "hotFetches", fn := fun _ => fun
  | [d1, d2, d3, d4] => { results := [.lit (.bool true)], args := [d1, d2, d3, d4] }
  | _ => none }
def hotFetchesRow : OpenClaim := { program := "ytmkcamfanimdoaa", sum := "663e90672cb8437ffb08afe13f5eae2cb1d31f340eab9b92dcf16d933b88b6e4", func := "icehouse/icehouselaw.HotFetches", spec := "hotFetches", unfollowed := true, recurses := true, apart := false }
def HotFetchesSaid : Prop := hotFetchesRow.holds Try.pinned (OpenSpec.ofChange hotFetchesSpec)

/-- ITS FALSE NEIGHBOUR: 'it returns false'. Refute it at one input. -/
def hotFetchesWrong : ChangeSpec := { name := "hotFetches", fn := fun _ => fun
  | [d1, d2, d3, d4] => { results := [.lit (.bool false)], args := [d1, d2, d3, d4] }
  | _ => none }
def HotFetchesWrongFalsely : Prop := hotFetchesRow.holds Try.pinned (OpenSpec.ofChange hotFetchesWrong)

/-- 'icehouselaw.DevTakes': WHATEVER THE INPUT: true; the input reads as it did. -/
def devTakesSpec : ChangeSpec := { name := "devTakes", fn := fun _ => fun
  | [d1, d2, d3] => { results := [.lit (.bool true)], args := [d1, d2, d3] }
  | _ => none }
def devTakesRow : OpenClaim := { program := "ytmkcamfanimdoaa", sum := "663e90672cb8437ffb08afe13f5eae2cb1d31f340eab9b92dcf16d933b88b6e4", func := "icehouse/icehouselaw.DevTakes", spec := "devTakes", unfollowed := true, recurses := true, apart := false }
def DevTakesSaid : Prop := devTakesRow.holds Try.pinned (OpenSpec.ofChange devTakesSpec)

/-- ITS FALSE NEIGHBOUR: 'it returns false'. Refute it at one input. -/
def devTakesWrong : ChangeSpec := { name := "devTakes", fn := fun _ => fun
  | [d1, d2, d3] => { results := [.lit (.bool false)], args := [d1, d2, d3] }
  | _ => none }
def DevTakesWrongFalsely : Prop := devTakesRow.holds Try.pinned (OpenSpec.ofChange devTakesWrong)

/-- 'icehouselaw.DevPuts': WHATEVER THE INPUT: true; the input reads as it did. -/
def devPutsSpec : ChangeSpec := { name := "devPuts", fn := fun _ => fun
  | [d1, d2, d3, d4] => { results := [.lit (.bool true)], args := [d1, d2, d3, d4] }
  | _ => none }
def devPutsRow : OpenClaim := { program := "ytmkcamfanimdoaa", sum := "663e90672cb8437ffb08afe13f5eae2cb1d31f340eab9b92dcf16d933b88b6e4", func := "icehouse/icehouselaw.DevPuts", spec := "devPuts", unfollowed := true, recurses := true, apart := false }
def DevPutsSaid : Prop := devPutsRow.holds Try.pinned (OpenSpec.ofChange devPutsSpec)

/-- ITS FALSE NEIGHBOUR: 'it returns false'. Refute it at one input. -/
def devPutsWrong : ChangeSpec := { name := "devPuts", fn := fun _ => fun
  | [d1, d2, d3, d4] => { results := [.lit (.bool false)], args := [d1, d2, d3, d4] }
  | _ => none }
def DevPutsWrongFalsely : Prop := devPutsRow.holds Try.pinned (OpenSpec.ofChange devPutsWrong)

/-- 'icehouselaw.DevAppends': WHATEVER THE INPUT: true; the input reads as it did. -/
def devAppendsSpec : ChangeSpec := { name := "devAppends", fn := fun _ => fun
  | [d1, d2, d3, d4] => { results := [.lit (.bool true)], args := [d1, d2, d3, d4] }
  | _ => none }
def devAppendsRow : OpenClaim := { program := "ytmkcamfanimdoaa", sum := "663e90672cb8437ffb08afe13f5eae2cb1d31f340eab9b92dcf16d933b88b6e4", func := "icehouse/icehouselaw.DevAppends", spec := "devAppends", unfollowed := true, recurses := true, apart := false }
def DevAppendsSaid : Prop := devAppendsRow.holds Try.pinned (OpenSpec.ofChange devAppendsSpec)

/-- ITS FALSE NEIGHBOUR: 'it returns false'. Refute it at one input. -/
def devAppendsWrong : ChangeSpec := { name := "devAppends", fn := fun _ => fun
  | [d1, d2, d3, d4] => { results := [.lit (.bool false)], args := [d1, d2, d3, d4] }
  | _ => none }
def DevAppendsWrongFalsely : Prop := devAppendsRow.holds Try.pinned (OpenSpec.ofChange devAppendsWrong)

/-- 'icehouselaw.HotReads': WHATEVER THE INPUT: true; the input reads as it did. -/
def hotReadsSpec : ChangeSpec := { name := "hotReads", fn := fun _ => fun
  | [d1, d2, d3, d4] => { results := [.lit (.bool true)], args := [d1, d2, d3, d4] }
  | _ => none }
def hotReadsRow : OpenClaim := { program := "ytmkcamfanimdoaa", sum := "663e90672cb8437ffb08afe13f5eae2cb1d31f340eab9b92dcf16d933b88b6e4", func := "icehouse/icehouselaw.HotReads", spec := "hotReads", unfollowed := true, recurses := true, apart := false }
def HotReadsSaid : Prop := hotReadsRow.holds Try.pinned (OpenSpec.ofChange hotReadsSpec)

/-- ITS FALSE NEIGHBOUR: 'it returns false'. Refute it at one input. -/
def hotReadsWrong : ChangeSpec := { name := "hotReads", fn := fun _ => fun
  | [d1, d2, d3, d4] => { results := [.lit (.bool false)], args := [d1, d2, d3, d4] }
  | _ => none }
def HotReadsWrongFalsely : Prop := hotReadsRow.holds Try.pinned (OpenSpec.ofChange hotReadsWrong)

/-- 'icehouselaw.HotWrites': WHATEVER THE INPUT: true; the input reads as it did. -/
def hotWritesSpec : ChangeSpec := { name := "hotWrites", fn := fun _ => fun
  | [d1, d2, d3, d4] => { results := [.lit (.bool true)], args := [d1, d2, d3, d4] }
  | _ => none }
def hotWritesRow : OpenClaim := { program := "ytmkcamfanimdoaa", sum := "663e90672cb8437ffb08afe13f5eae2cb1d31f340eab9b92dcf16d933b88b6e4", func := "icehouse/icehouselaw.HotWrites", spec := "hotWrites", unfollowed := true, recurses := true, apart := false }
def HotWritesSaid : Prop := hotWritesRow.holds Try.pinned (OpenSpec.ofChange hotWritesSpec)

/-- ITS FALSE NEIGHBOUR: 'it returns false'. Refute it at one input. -/
def hotWritesWrong : ChangeSpec := { name := "hotWrites", fn := fun _ => fun
  | [d1, d2, d3, d4] => { results := [.lit (.bool false)], args := [d1, d2, d3, d4] }
  | _ => none }
def HotWritesWrongFalsely : Prop := hotWritesRow.holds Try.pinned (OpenSpec.ofChange hotWritesWrong)

/-- 'icehouselaw.RingFormats': WHATEVER THE INPUT: true; the input reads as it did. -/
def ringFormatsSpec : ChangeSpec := { name := "ringFormats", fn := fun _ => fun
  | [d1, d2] => { results := [.lit (.bool true)], args := [d1, d2] }
  | _ => none }
def ringFormatsRow : OpenClaim := { program := "ytmkcamfanimdoaa", sum := "663e90672cb8437ffb08afe13f5eae2cb1d31f340eab9b92dcf16d933b88b6e4", func := "icehouse/icehouselaw.RingFormats", spec := "ringFormats", unfollowed := true, recurses := true, apart := false }
def RingFormatsSaid : Prop := ringFormatsRow.holds Try.pinned (OpenSpec.ofChange ringFormatsSpec)

/-- ITS FALSE NEIGHBOUR: 'it returns false'. Refute it at one input. -/
def ringFormatsWrong : ChangeSpec := { name := "ringFormats", fn := fun _ => fun
  | [d1, d2] => { results := [.lit (.bool false)], args := [d1, d2] }
  | _ => none }
def RingFormatsWrongFalsely : Prop := ringFormatsRow.holds Try.pinned (OpenSpec.ofChange ringFormatsWrong)

/-- 'icehouselaw.RingSaves': WHATEVER THE INPUT: true; the input reads as it did. -/
def ringSavesSpec : ChangeSpec := { name := "ringSaves", fn := fun _ => fun
  | [d1, d2, d3, d4] => { results := [.lit (.bool true)], args := [d1, d2, d3, d4] }
  | _ => none }
def ringSavesRow : OpenClaim := { program := "ytmkcamfanimdoaa", sum := "663e90672cb8437ffb08afe13f5eae2cb1d31f340eab9b92dcf16d933b88b6e4", func := "icehouse/icehouselaw.RingSaves", spec := "ringSaves", unfollowed := true, recurses := true, apart := false }
def RingSavesSaid : Prop := ringSavesRow.holds Try.pinned (OpenSpec.ofChange ringSavesSpec)

/-- ITS FALSE NEIGHBOUR: 'it returns false'. Refute it at one input. -/
def ringSavesWrong : ChangeSpec := { name := "ringSaves", fn := fun _ => fun
  | [d1, d2, d3, d4] => { results := [.lit (.bool false)], args := [d1, d2, d3, d4] }
  | _ => none }
def RingSavesWrongFalsely : Prop := ringSavesRow.holds Try.pinned (OpenSpec.ofChange ringSavesWrong)

/-- 'icehouselaw.RingCommits': WHATEVER THE INPUT: true; the input reads as it did. -/
def ringCommitsSpec : ChangeSpec := { name := "ringCommits", fn := fun _ => fun
  | [d1, d2, d3, d4] => { results := [.lit (.bool true)], args := [d1, d2, d3, d4] }
  | _ => none }
def ringCommitsRow : OpenClaim := { program := "ytmkcamfanimdoaa", sum := "663e90672cb8437ffb08afe13f5eae2cb1d31f340eab9b92dcf16d933b88b6e4", func := "icehouse/icehouselaw.RingCommits", spec := "ringCommits", unfollowed := true, recurses := true, apart := false }
def RingCommitsSaid : Prop := ringCommitsRow.holds Try.pinned (OpenSpec.ofChange ringCommitsSpec)

/-- ITS FALSE NEIGHBOUR: 'it returns false'. Refute it at one input. -/
def ringCommitsWrong : ChangeSpec := { name := "ringCommits", fn := fun _ => fun
  | [d1, d2, d3, d4] => { results := [.lit (.bool false)], args := [d1, d2, d3, d4] }
  | _ => none }
def RingCommitsWrongFalsely : Prop := ringCommitsRow.holds Try.pinned (OpenSpec.ofChange ringCommitsWrong)

/-- 'icehouselaw.RingOpens': WHATEVER THE INPUT: true; the input reads as it did. -/
def ringOpensSpec : ChangeSpec := { name := "ringOpens", fn := fun _ => fun
  | [d1, d2] => { results := [.lit (.bool true)], args := [d1, d2] }
  | _ => none }
def ringOpensRow : OpenClaim := { program := "ytmkcamfanimdoaa", sum := "663e90672cb8437ffb08afe13f5eae2cb1d31f340eab9b92dcf16d933b88b6e4", func := "icehouse/icehouselaw.RingOpens", spec := "ringOpens", unfollowed := true, recurses := true, apart := false }
def RingOpensSaid : Prop := ringOpensRow.holds Try.pinned (OpenSpec.ofChange ringOpensSpec)

/-- ITS FALSE NEIGHBOUR: 'it returns false'. Refute it at one input. -/
def ringOpensWrong : ChangeSpec := { name := "ringOpens", fn := fun _ => fun
  | [d1, d2] => { results := [.lit (.bool false)], args := [d1, d2] }
  | _ => none }
def RingOpensWrongFalsely : Prop := ringOpensRow.holds Try.pinned (OpenSpec.ofChange ringOpensWrong)

/- THE SECOND FORM. 'bulk': how many values and letters a reading holds, each counted each time it is reached (what is shared counts as often as it is met; a slice's spare places count too). A statement '..UptoSaid' is the law's where the arguments, and the package variables that the reading takes, are together of bulk at most 1048576: NARROWER than '..Said'. Prove '..Said' where nothing that the law and all that it calls make is longer than what came in: it says more and counts as full. Else prove '..UptoSaid'. A law counts once. -/
mutual
def uptoBulk {H : Type} : DataW H → Nat
  | .lit (.string bytes) => bytes.length + 1
  | .lit _ => 1
  | .nil => 1
  | .ptr d => uptoBulk d + 1
  | .slice elems spare => uptoBulkAll elems + uptoBulkAll spare + 1
  | .agg parts => uptoBulkAll parts + 1
  | .iface _ d => uptoBulk d + 1
  | .map entries => uptoBulkEntries entries + 1
  | .held _ => 1
def uptoBulkAll {H : Type} : List (DataW H) → Nat
  | [] => 0
  | d :: r => uptoBulk d + uptoBulkAll r
def uptoBulkEntries {H : Type} : List (Lit × DataW H) → Nat
  | [] => 0
  | x :: r => uptoBulkEntry x + uptoBulkEntries r
def uptoBulkEntry {H : Type} : Lit × DataW H → Nat
  | (.string bytes, d) => bytes.length + uptoBulk d + 1
  | (_, d) => uptoBulk d + 1
 end
def uptoSmall : (H : Type) → List (DataW H) → Bool := fun _ ds => decide (uptoBulkAll ds ≤ 1048576)
def OpenSpec.upto (s : _root_.Go.ChangeSpec) : _root_.Go.OpenSpec := { _root_.Go.OpenSpec.ofChange s with cond := some uptoSmall }

/-- 'icehouselaw.DevGeometry', WHERE WHAT IT READS IS OF BULK AT MOST 1048576: true; the input reads as it did. -/
def devGeometryUptoRow : OpenClaim := { program := "ytmkcamfanimdoaa", sum := "663e90672cb8437ffb08afe13f5eae2cb1d31f340eab9b92dcf16d933b88b6e4", func := "icehouse/icehouselaw.DevGeometry", spec := "devGeometry", apart := false, narrowed := true }
def DevGeometryUptoSaid : Prop := devGeometryUptoRow.holds Try.pinned (OpenSpec.upto devGeometrySpec)

/-- 'icehouselaw.RingChecks', WHERE WHAT IT READS IS OF BULK AT MOST 1048576: true; the input reads as it did. -/
def ringChecksUptoRow : OpenClaim := { program := "ytmkcamfanimdoaa", sum := "663e90672cb8437ffb08afe13f5eae2cb1d31f340eab9b92dcf16d933b88b6e4", func := "icehouse/icehouselaw.RingChecks", spec := "ringChecks", apart := false, narrowed := true }
def RingChecksUptoSaid : Prop := ringChecksUptoRow.holds Try.pinned (OpenSpec.upto ringChecksSpec)

/-- 'icehouselaw.DevNew', WHERE WHAT IT READS IS OF BULK AT MOST 1048576: true; the input reads as it did. -/
def devNewUptoRow : OpenClaim := { program := "ytmkcamfanimdoaa", sum := "663e90672cb8437ffb08afe13f5eae2cb1d31f340eab9b92dcf16d933b88b6e4", func := "icehouse/icehouselaw.DevNew", spec := "devNew", apart := false, narrowed := true }
def DevNewUptoSaid : Prop := devNewUptoRow.holds Try.pinned (OpenSpec.upto devNewSpec)

/-- 'icehouselaw.DevChecks', WHERE WHAT IT READS IS OF BULK AT MOST 1048576: true; the input reads as it did. -/
def devChecksUptoRow : OpenClaim := { program := "ytmkcamfanimdoaa", sum := "663e90672cb8437ffb08afe13f5eae2cb1d31f340eab9b92dcf16d933b88b6e4", func := "icehouse/icehouselaw.DevChecks", spec := "devChecks", unfollowed := true, recurses := true, apart := false, narrowed := true }
def DevChecksUptoSaid : Prop := devChecksUptoRow.holds Try.pinned (OpenSpec.upto devChecksSpec)

/-- 'icehouselaw.HotPacks', WHERE WHAT IT READS IS OF BULK AT MOST 1048576: true; the input reads as it did. -/
def hotPacksUptoRow : OpenClaim := { program := "ytmkcamfanimdoaa", sum := "663e90672cb8437ffb08afe13f5eae2cb1d31f340eab9b92dcf16d933b88b6e4", func := "icehouse/icehouselaw.HotPacks", spec := "hotPacks", apart := false, narrowed := true }
def HotPacksUptoSaid : Prop := hotPacksUptoRow.holds Try.pinned (OpenSpec.upto hotPacksSpec)

/-- 'icehouselaw.DevFetches', WHERE WHAT IT READS IS OF BULK AT MOST 1048576: true; the input reads as it did. -/
def devFetchesUptoRow : OpenClaim := { program := "ytmkcamfanimdoaa", sum := "663e90672cb8437ffb08afe13f5eae2cb1d31f340eab9b92dcf16d933b88b6e4", func := "icehouse/icehouselaw.DevFetches", spec := "devFetches", unfollowed := true, recurses := true, apart := false, narrowed := true }
def DevFetchesUptoSaid : Prop := devFetchesUptoRow.holds Try.pinned (OpenSpec.upto devFetchesSpec)

/-- 'icehouselaw.DevGets', WHERE WHAT IT READS IS OF BULK AT MOST 1048576: true; the input reads as it did. -/
def devGetsUptoRow : OpenClaim := { program := "ytmkcamfanimdoaa", sum := "663e90672cb8437ffb08afe13f5eae2cb1d31f340eab9b92dcf16d933b88b6e4", func := "icehouse/icehouselaw.DevGets", spec := "devGets", unfollowed := true, recurses := true, apart := false, narrowed := true }
def DevGetsUptoSaid : Prop := devGetsUptoRow.holds Try.pinned (OpenSpec.upto devGetsSpec)

/-- 'icehouselaw.DevArms', WHERE WHAT IT READS IS OF BULK AT MOST 1048576: true; the input reads as it did. -/
def devArmsUptoRow : OpenClaim := { program := "ytmkcamfanimdoaa", sum := "663e90672cb8437ffb08afe13f5eae2cb1d31f340eab9b92dcf16d933b88b6e4", func := "icehouse/icehouselaw.DevArms", spec := "devArms", unfollowed := true, recurses := true, apart := false, narrowed := true }
def DevArmsUptoSaid : Prop := devArmsUptoRow.holds Try.pinned (OpenSpec.upto devArmsSpec)

/-- 'icehouselaw.DevCrashes', WHERE WHAT IT READS IS OF BULK AT MOST 1048576: true; the input reads as it did. -/
def devCrashesUptoRow : OpenClaim := { program := "ytmkcamfanimdoaa", sum := "663e90672cb8437ffb08afe13f5eae2cb1d31f340eab9b92dcf16d933b88b6e4", func := "icehouse/icehouselaw.DevCrashes", spec := "devCrashes", unfollowed := true, recurses := true, apart := false, narrowed := true }
def DevCrashesUptoSaid : Prop := devCrashesUptoRow.holds Try.pinned (OpenSpec.upto devCrashesSpec)

/-- 'icehouselaw.DevMarks', WHERE WHAT IT READS IS OF BULK AT MOST 1048576: true; the input reads as it did. -/
def devMarksUptoRow : OpenClaim := { program := "ytmkcamfanimdoaa", sum := "663e90672cb8437ffb08afe13f5eae2cb1d31f340eab9b92dcf16d933b88b6e4", func := "icehouse/icehouselaw.DevMarks", spec := "devMarks", unfollowed := true, recurses := true, apart := false, narrowed := true }
def DevMarksUptoSaid : Prop := devMarksUptoRow.holds Try.pinned (OpenSpec.upto devMarksSpec)

/-- 'icehouselaw.DevFlushes', WHERE WHAT IT READS IS OF BULK AT MOST 1048576: true; the input reads as it did. -/
def devFlushesUptoRow : OpenClaim := { program := "ytmkcamfanimdoaa", sum := "663e90672cb8437ffb08afe13f5eae2cb1d31f340eab9b92dcf16d933b88b6e4", func := "icehouse/icehouselaw.DevFlushes", spec := "devFlushes", unfollowed := true, recurses := true, apart := false, narrowed := true }
def DevFlushesUptoSaid : Prop := devFlushesUptoRow.holds Try.pinned (OpenSpec.upto devFlushesSpec)

/-- 'icehouselaw.HotFetches', WHERE WHAT IT READS IS OF BULK AT MOST 1048576: true; the input reads as it did. -/
def hotFetchesUptoRow : OpenClaim := { program := "ytmkcamfanimdoaa", sum := "663e90672cb8437ffb08afe13f5eae2cb1d31f340eab9b92dcf16d933b88b6e4", func := "icehouse/icehouselaw.HotFetches", spec := "hotFetches", unfollowed := true, recurses := true, apart := false, narrowed := true }
def HotFetchesUptoSaid : Prop := hotFetchesUptoRow.holds Try.pinned (OpenSpec.upto hotFetchesSpec)

/-- 'icehouselaw.DevTakes', WHERE WHAT IT READS IS OF BULK AT MOST 1048576: true; the input reads as it did. -/
def devTakesUptoRow : OpenClaim := { program := "ytmkcamfanimdoaa", sum := "663e90672cb8437ffb08afe13f5eae2cb1d31f340eab9b92dcf16d933b88b6e4", func := "icehouse/icehouselaw.DevTakes", spec := "devTakes", unfollowed := true, recurses := true, apart := false, narrowed := true }
def DevTakesUptoSaid : Prop := devTakesUptoRow.holds Try.pinned (OpenSpec.upto devTakesSpec)

/-- 'icehouselaw.DevPuts', WHERE WHAT IT READS IS OF BULK AT MOST 1048576: true; the input reads as it did. -/
def devPutsUptoRow : OpenClaim := { program := "ytmkcamfanimdoaa", sum := "663e90672cb8437ffb08afe13f5eae2cb1d31f340eab9b92dcf16d933b88b6e4", func := "icehouse/icehouselaw.DevPuts", spec := "devPuts", unfollowed := true, recurses := true, apart := false, narrowed := true }
def DevPutsUptoSaid : Prop := devPutsUptoRow.holds Try.pinned (OpenSpec.upto devPutsSpec)

/-- 'icehouselaw.DevAppends', WHERE WHAT IT READS IS OF BULK AT MOST 1048576: true; the input reads as it did. -/
def devAppendsUptoRow : OpenClaim := { program := "ytmkcamfanimdoaa", sum := "663e90672cb8437ffb08afe13f5eae2cb1d31f340eab9b92dcf16d933b88b6e4", func := "icehouse/icehouselaw.DevAppends", spec := "devAppends", unfollowed := true, recurses := true, apart := false, narrowed := true }
def DevAppendsUptoSaid : Prop := devAppendsUptoRow.holds Try.pinned (OpenSpec.upto devAppendsSpec)

/-- 'icehouselaw.HotReads', WHERE WHAT IT READS IS OF BULK AT MOST 1048576: true; the input reads as it did. -/
def hotReadsUptoRow : OpenClaim := { program := "ytmkcamfanimdoaa", sum := "663e90672cb8437ffb08afe13f5eae2cb1d31f340eab9b92dcf16d933b88b6e4", func := "icehouse/icehouselaw.HotReads", spec := "hotReads", unfollowed := true, recurses := true, apart := false, narrowed := true }
def HotReadsUptoSaid : Prop := hotReadsUptoRow.holds Try.pinned (OpenSpec.upto hotReadsSpec)

/-- 'icehouselaw.HotWrites', WHERE WHAT IT READS IS OF BULK AT MOST 1048576: true; the input reads as it did. -/
def hotWritesUptoRow : OpenClaim := { program := "ytmkcamfanimdoaa", sum := "663e90672cb8437ffb08afe13f5eae2cb1d31f340eab9b92dcf16d933b88b6e4", func := "icehouse/icehouselaw.HotWrites", spec := "hotWrites", unfollowed := true, recurses := true, apart := false, narrowed := true }
def HotWritesUptoSaid : Prop := hotWritesUptoRow.holds Try.pinned (OpenSpec.upto hotWritesSpec)

/-- 'icehouselaw.RingFormats', WHERE WHAT IT READS IS OF BULK AT MOST 1048576: true; the input reads as it did. -/
def ringFormatsUptoRow : OpenClaim := { program := "ytmkcamfanimdoaa", sum := "663e90672cb8437ffb08afe13f5eae2cb1d31f340eab9b92dcf16d933b88b6e4", func := "icehouse/icehouselaw.RingFormats", spec := "ringFormats", unfollowed := true, recurses := true, apart := false, narrowed := true }
def RingFormatsUptoSaid : Prop := ringFormatsUptoRow.holds Try.pinned (OpenSpec.upto ringFormatsSpec)

/-- 'icehouselaw.RingSaves', WHERE WHAT IT READS IS OF BULK AT MOST 1048576: true; the input reads as it did. -/
def ringSavesUptoRow : OpenClaim := { program := "ytmkcamfanimdoaa", sum := "663e90672cb8437ffb08afe13f5eae2cb1d31f340eab9b92dcf16d933b88b6e4", func := "icehouse/icehouselaw.RingSaves", spec := "ringSaves", unfollowed := true, recurses := true, apart := false, narrowed := true }
def RingSavesUptoSaid : Prop := ringSavesUptoRow.holds Try.pinned (OpenSpec.upto ringSavesSpec)

/-- 'icehouselaw.RingCommits', WHERE WHAT IT READS IS OF BULK AT MOST 1048576: true; the input reads as it did. -/
def ringCommitsUptoRow : OpenClaim := { program := "ytmkcamfanimdoaa", sum := "663e90672cb8437ffb08afe13f5eae2cb1d31f340eab9b92dcf16d933b88b6e4", func := "icehouse/icehouselaw.RingCommits", spec := "ringCommits", unfollowed := true, recurses := true, apart := false, narrowed := true }
def RingCommitsUptoSaid : Prop := ringCommitsUptoRow.holds Try.pinned (OpenSpec.upto ringCommitsSpec)

/-- 'icehouselaw.RingOpens', WHERE WHAT IT READS IS OF BULK AT MOST 1048576: true; the input reads as it did. -/
def ringOpensUptoRow : OpenClaim := { program := "ytmkcamfanimdoaa", sum := "663e90672cb8437ffb08afe13f5eae2cb1d31f340eab9b92dcf16d933b88b6e4", func := "icehouse/icehouselaw.RingOpens", spec := "ringOpens", unfollowed := true, recurses := true, apart := false, narrowed := true }
def RingOpensUptoSaid : Prop := ringOpensUptoRow.holds Try.pinned (OpenSpec.upto ringOpensSpec)

end Rows
end Go.Proofs.Ytmkcamfanimdoaa
