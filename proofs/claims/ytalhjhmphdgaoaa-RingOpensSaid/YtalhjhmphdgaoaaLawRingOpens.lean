/- RingOpens: the call answers as the reference does, at every argument; no condition. -/
import Derived.Test.YtalhjhmphdgaoaaBridge
import Derived.Test.YtalhjhmphdgaoaaBase
import Derived.Test.YtalhjhmphdgaoaaRows
import Derived.JoinedOf
import Derived.OpenShut
import Derived.Test.YtalhjhmphdgaoaaDevOwn
import Derived.Test.YtalhjhmphdgaoaaRvK

/- Data of the program: shapes, what is known of them, and how cells of such a shape are opened. Printed by genopen.py. -/

/- Numbers, bytes and lists as cells. -/
namespace Go.Proofs.Ytalhjhmphdgaoaa
open Go.RowKit
set_option linter.unusedSimpArgs false
set_option linter.unusedVariables false
def shBytes : Sh := .sl (.int .u8)
theorem int_of {rs : List RV} (h : Shaped (.int .i64) rs) : ∃ n, inI n ∧ rs = [.v (.int .i64 n)] := by
  obtain ⟨n, hw, rfl⟩ := shaped_int h
  simp only [Lit.wf, Bool.and_eq_true, decide_eq_true_eq] at hw
  refine ⟨n, ?_, rfl⟩
  have h1 : IntKind.i64.min = -2 ^ 63 := rfl
  have h2 : IntKind.i64.max = 2 ^ 63 - 1 := rfl
  unfold inI; omega
theorem byte_of {rs : List RV} (h : Shaped (.int .u8) rs) : ∃ c : UInt8, True ∧ rs = by_ c := by
  obtain ⟨n, hw, rfl⟩ := shaped_int h
  simp only [Lit.wf, Bool.and_eq_true, decide_eq_true_eq] at hw
  have h1 : IntKind.u8.min = 0 := rfl
  have h2 : IntKind.u8.max = 255 := rfl
  have h3 : n.toNat < 256 := by omega
  refine ⟨UInt8.ofNat n.toNat, trivial, ?_⟩
  have : (((UInt8.ofNat n.toNat).toNat : Nat) : Int) = n := by
    rw [UInt8.toNat_ofNat_of_lt' (by simpa using h3)]; omega
  simp only [by_, this]
theorem sl_of {α : Type} {f : α → List RV} {p : α → Prop} {s : Sh} {rs : List RV} (hf : ∀ r, Shaped s r → ∃ x, p x ∧ r = f x) (h : Shaped (.sl s) rs) : ∃ l : List α, ((l.length ≤ 2 ^ 47 ∧ l.length * s.by ≤ 2 ^ 47) ∧ ∀ x ∈ l, p x) ∧ rs = [.ro (l.map f)] := by
  obtain ⟨rows, h1, h2, rfl⟩ := shaped_sl h
  obtain ⟨l, h3, rfl⟩ := rows_of fun r hr => hf r (h2 r hr)
  exact ⟨l, ⟨by simpa using h1, h3⟩, rfl⟩
theorem bytes_of {rs : List RV} (h : Shaped shBytes rs) : ∃ l : List UInt8, l.length ≤ 2 ^ 47 ∧ rs = [bytes l] := by
  obtain ⟨l, h1, h2⟩ := sl_of (fun r h => byte_of h) h
  exact ⟨l, h1.1.1, h2⟩
theorem secs_of {rs : List RV} (h : Shaped (.sl (.sl (.int .u8))) rs) : ∃ l : List (List UInt8), ((l.length ≤ 2 ^ 47 ∧ l.length * 24 ≤ 2 ^ 47) ∧ ∀ s ∈ l, s.length ≤ 2 ^ 47) ∧ rs = [.ro (l.map secRow)] := sl_of (f := secRow) (fun r h => bytes_of h) h
end Go.Proofs.Ytalhjhmphdgaoaa
namespace Go.Proofs.Ytalhjhmphdgaoaa
open Go.RowKit
set_option linter.unusedSimpArgs false
set_option linter.unusedVariables false

def shGeo : Sh := .st [.int .i64, .int .i64, .int .i64, .int .i64, .int .i64]
def GeoD.row (x : GeoD) : List RV := [.v (.int .i64 x.ring)] ++ ([.v (.int .i64 x.area)] ++ ([.v (.int .i64 x.hot)] ++ ([.v (.int .i64 x.volume)] ++ ([.v (.int .i64 x.volumes)]))))
def GeoD.wf (x : GeoD) : Prop := inI x.ring ∧ inI x.area ∧ inI x.hot ∧ inI x.volume ∧ inI x.volumes
theorem geo_of {rs : List RV} (h : Shaped shGeo rs) : ∃ x : GeoD, x.wf ∧ rs = x.row := by
  have h0 := shaped_st h
  obtain ⟨a0, r0, g0, h1, rfl⟩ := shapedL_cons h0
  obtain ⟨a1, r1, g1, h2, rfl⟩ := shapedL_cons h1
  obtain ⟨a2, r2, g2, h3, rfl⟩ := shapedL_cons h2
  obtain ⟨a3, r3, g3, h4, rfl⟩ := shapedL_cons h3
  obtain ⟨a4, r4, g4, h5, rfl⟩ := shapedL_cons h4
  obtain rfl := shapedL_nil h5
  obtain ⟨x0, w0, rfl⟩ := int_of g0
  obtain ⟨x1, w1, rfl⟩ := int_of g1
  obtain ⟨x2, w2, rfl⟩ := int_of g2
  obtain ⟨x3, w3, rfl⟩ := int_of g3
  obtain ⟨x4, w4, rfl⟩ := int_of g4
  exact ⟨⟨x0, x1, x2, x3, x4⟩, ⟨w0, w1, w2, w3, w4⟩, rfl⟩

def shWr : Sh := .st [.int .i64, shBytes]
def WrD.wf (x : WrD) : Prop := inI x.pos ∧ x.data.length ≤ 2 ^ 47
theorem wr_of {rs : List RV} (h : Shaped shWr rs) : ∃ x : WrD, x.wf ∧ rs = x.row := by
  have h0 := shaped_st h
  obtain ⟨a0, r0, g0, h1, rfl⟩ := shapedL_cons h0
  obtain ⟨a1, r1, g1, h2, rfl⟩ := shapedL_cons h1
  obtain rfl := shapedL_nil h2
  obtain ⟨x0, w0, rfl⟩ := int_of g0
  obtain ⟨x1, w1, rfl⟩ := bytes_of g1
  exact ⟨⟨x0, x1⟩, ⟨w0, w1⟩, rfl⟩

def shVol : Sh := .st [shBytes, .int .i64, .bool]
def VolD.wf (x : VolD) : Prop := x.data.length ≤ 2 ^ 47 ∧ inI x.synced
theorem vol_of {rs : List RV} (h : Shaped shVol rs) : ∃ x : VolD, x.wf ∧ rs = x.row := by
  have h0 := shaped_st h
  obtain ⟨a0, r0, g0, h1, rfl⟩ := shapedL_cons h0
  obtain ⟨a1, r1, g1, h2, rfl⟩ := shapedL_cons h1
  obtain ⟨a2, r2, g2, h3, rfl⟩ := shapedL_cons h2
  obtain rfl := shapedL_nil h3
  obtain ⟨x0, w0, rfl⟩ := bytes_of g0
  obtain ⟨x1, w1, rfl⟩ := int_of g1
  obtain ⟨x2, rfl⟩ := shaped_bool g2
  exact ⟨⟨x0, x1, x2⟩, ⟨w0, w1⟩, rfl⟩

def shDev : Sh := .st [.sl (.sl (.int .u8)), .sl shWr, .sl shVol, .int .i64]
def DevD.row (x : DevD) : List RV := [.ro (x.safe.map secRow)] ++ ([.ro (x.cache.map WrD.row)] ++ ([.ro (x.vols.map VolD.row)] ++ ([.v (.int .i64 x.fuel)])))
def DevD.wf (x : DevD) : Prop := ((x.safe.length ≤ 2 ^ 47 ∧ x.safe.length * 24 ≤ 2 ^ 47) ∧ ∀ s ∈ x.safe, s.length ≤ 2 ^ 47) ∧ ((x.cache.length ≤ 2 ^ 47 ∧ x.cache.length * shWr.by ≤ 2 ^ 47) ∧ ∀ y ∈ x.cache, y.wf) ∧ ((x.vols.length ≤ 2 ^ 47 ∧ x.vols.length * shVol.by ≤ 2 ^ 47) ∧ ∀ y ∈ x.vols, y.wf) ∧ inI x.fuel
theorem dev_of {rs : List RV} (h : Shaped shDev rs) : ∃ x : DevD, x.wf ∧ rs = x.row := by
  have h0 := shaped_st h
  obtain ⟨a0, r0, g0, h1, rfl⟩ := shapedL_cons h0
  obtain ⟨a1, r1, g1, h2, rfl⟩ := shapedL_cons h1
  obtain ⟨a2, r2, g2, h3, rfl⟩ := shapedL_cons h2
  obtain ⟨a3, r3, g3, h4, rfl⟩ := shapedL_cons h3
  obtain rfl := shapedL_nil h4
  obtain ⟨x0, w0, rfl⟩ := secs_of g0
  obtain ⟨x1, w1, rfl⟩ := sl_of (fun r h => wr_of h) g1
  obtain ⟨x2, w2, rfl⟩ := sl_of (fun r h => vol_of h) g2
  obtain ⟨x3, w3, rfl⟩ := int_of g3
  exact ⟨⟨x0, x1, x2, x3⟩, ⟨w0, w1, w2, w3⟩, rfl⟩

def JrnD.row (x : JrnD) : List RV := [.v (.int .i64 x.gen)] ++ ([.v (.int .i64 x.epoch)] ++ ([.v (.int .i64 x.area)] ++ ([.v (.int .i64 x.length)] ++ ([.v (.int .i64 x.start)] ++ ([.v (.int .i64 x.first)] ++ ([.v (.int .i64 x.place)] ++ ([.v (.int .i64 x.next)] ++ ([.v (.int .i64 x.used)]))))))))
def JrnD.wf (x : JrnD) : Prop := inI x.gen ∧ inI x.epoch ∧ inI x.area ∧ inI x.length ∧ inI x.start ∧ inI x.first ∧ inI x.place ∧ inI x.next ∧ inI x.used
def PieceD.row (x : PieceD) : List RV := [.v (.int .i64 x.id)] ++ ([.v (.int .i64 x.pos)] ++ ([.v (.int .i64 x.size)]))
def PieceD.wf (x : PieceD) : Prop := inI x.id ∧ inI x.pos ∧ inI x.size
end Go.Proofs.Ytalhjhmphdgaoaa

/- What is true of the program as a whole, each fact by itself. -/
namespace Go.Proofs.Ytalhjhmphdgaoaa
open Go.ChangeShapes Go.WideShapes
set_option linter.unusedSimpArgs false
set_option linter.unusedVariables false
theorem and_i {a b : Bool} (h : a = true) (k : b = true) : (a && b) = true := by rw [h, k]; rfl
theorem fLaid : laidOutB Try.pinned.checked.prog = true := by kernel_rfl
theorem fMaps : mapsRowed Try.pinned.checked.prog = true := by kernel_rfl
theorem fHeard : Try.pinned.checked.prog.stopsHeard = true := by kernel_rfl
theorem fEnter : Try.pinned.checked.prog.mayEnter = true := by kernel_rfl
theorem fLifts : Try.pinned.checked.prog.liftsFinal = false := by kernel_rfl
end Go.Proofs.Ytalhjhmphdgaoaa

/- Devices that a law is given fit into memory. -/
namespace Go.Proofs.Ytalhjhmphdgaoaa
open Go.RowKit
set_option linter.unusedSimpArgs false
set_option linter.unusedVariables false
theorem wf_fit {d : DevD} (h : d.wf) : d.fit := by
  obtain ⟨⟨⟨_, h1⟩, _⟩, ⟨⟨_, h2⟩, _⟩, ⟨⟨_, h3⟩, _⟩, _⟩ := h
  have e1 : shWr.by = 32 := rfl
  have e2 : shVol.by = 40 := rfl
  rw [e1] at h2
  rw [e2] at h3
  exact ⟨h1, h2, h3⟩
end Go.Proofs.Ytalhjhmphdgaoaa
namespace Go.Proofs.Ytalhjhmphdgaoaa.lawRingOpens
open Go.ChangeShapes Go.WideShapes Go.ChangeAt Go.RowKit
set_option linter.unusedSimpArgs false
set_option linter.unusedVariables false

theorem own : ownKnob Try.prog.godebug = none := by kernel_rfl
theorem laidOut : laidOutB Try.prog = true := by kernel_rfl
theorem readable : ∀ t ∈ Try.f6.params.toList, Try.prog.readableRec t = true ∧ t < Try.prog.types.size := by
  rw [Try.params6]
  intro t ht
  simp at ht
  (try rcases ht with rfl | rfl)
  all_goals exact ⟨by kernel_rfl, of_decide_eq_true (by kernel_rfl)⟩

set_option maxRecDepth 100000 in
theorem contract (H : Type) (enc : TypeId × Value → H) (W : World) (base : Nat) (args : Array Value) (ds gs : List (DataW H)) (before : List MemPlace)
    (hW : DataW.Whole enc Try.prog Try.f6.params.toList Rows.ringOpensSpec.vars false W args.toList ds gs before)
    (hval : ∀ (j : Nat) t v, Try.f6.params[j]? = some t → args[j]? = some v → Value.okWide Try.prog W .any base t v)
    (hz : (DataW.weightsEach Try.prog (Try.f6.params.toList ++ Rows.ringOpensSpec.plain.varTypes Try.prog) (ds ++ gs)).all (· ≤ reachBytes) = true) :
    Calls Try.prog 6 args W fun e W' => ∃ v, e = .returned v ∧ Rows.ringOpensSpec.post enc Try.prog Try.f6 false true false false W args v W' := by
  have hW' := hW
  obtain ⟨p, q, hA0, hV, rfl, hfz, hnd⟩ := hW
  have hA : DataW.TrodAll enc Try.prog W 0 (fun _ => true) true Try.f6.params.toList args.toList ds p := hA0
  rw [Try.params6] at hA
  obtain ⟨v0, vs0, d0, ds0, p0, q0, hargs, rfl, rfl, h0, r0⟩ := trodAll_cons hA
  obtain ⟨v1, vs1, d1, ds1, p1, q1, rfl, rfl, rfl, h1, r1⟩ := trodAll_cons r0
  obtain ⟨rfl, rfl, rfl⟩ := trodAll_nil r1
  obtain rfl : args = #[v0, v1] := by cases args; simp_all
  obtain rfl := trodVars_nil rfl hV
  rw [Try.params6] at hz hval
  obtain ⟨s0, t0, e0⟩ := open_any (n := 7) (shGeo) (by kernel_rfl) (hval 0 _ _ (by simp) (by simp)) h0 (fits_arg hz (j := 0) (by simp) (by simp))
  obtain ⟨x0, w0, rfl⟩ := geo_of t0
  obtain ⟨s1, t1, e1⟩ := open_any (n := 7) (shDev) (by kernel_rfl) (hval 1 _ _ (by simp) (by simp)) h1 (fits_arg hz (j := 1) (by simp) (by simp))
  obtain ⟨x1, w1, rfl⟩ := dev_of t1
  refine (law_calls rfl (ringOpens_p x0 x1 (wf_fit w1)) rfl (reps_cons e0 (reps_cons e1 reps_nil))).mono fun e W' ⟨he, hg⟩ => ⟨_, he, ?_⟩
  exact law_post laidOut rfl readable (by kernel_rfl) Try.underlying4 rfl hW' hg

set_option maxRecDepth 100000 in
theorem lifted (os : Os) (started : os.Started) (H : Type) (enc : TypeId × Value → H) :
    ReturnsInHanded {} Try.checked os 6 .any (Rows.ringOpensSpec.pre6 enc Try.prog Try.f6 [] false) (Rows.ringOpensSpec.post enc Try.prog Try.f6 false true false false) := by
  refine returnsInHanded_of_change_sized (C := Try.checked) own started (by kernel_rfl) Try.func6
    (ChangeSpec.witness6 (enc := enc) (C := Try.checked) false ⟨#[], #[.agg #[.int .i64 0, .int .i64 0, .int .i64 0, .int .i64 0, .int .i64 0], .agg #[.slice none 0 0, .slice none 0 0, .slice none 0 0, .int .i64 0]], []⟩ 8 (by kernel_rfl) (by kernel_rfl) (by kernel_rfl) (by kernel_rfl)) ?_
  intro W base args ds gs before hval hW _ hz _
  exact contract H enc W base args ds gs before hW hval hz

set_option maxRecDepth 100000 in
theorem named : Try.pinned.checked.prog.funcNamed Rows.ringOpensRow.func = some 6 := by kernel_rfl
set_option maxHeartbeats 4000000 in
set_option maxRecDepth 100000 in
theorem closed : joinedFacts Try.pinned.checked.prog 6 Try.f6 Rows.ringOpensSpec Rows.ringOpensRow = true := by
  unfold joinedFacts
  repeat' (with_reducible refine and_i ?_ ?_)
  all_goals (first | with_reducible exact fLaid | with_reducible exact fMaps | with_reducible exact fHeard | with_reducible exact fEnter | (rw [fLifts]; as_aux_lemma => kernel_rfl) | as_aux_lemma => kernel_rfl)
theorem instance' : Try.f6.isInstance Try.pinned.checked.prog Rows.ringOpensRow.origin Rows.ringOpensRow.targs := of_decide_eq_true (by kernel_rfl)
theorem wrapper : Try.f6.isWrapper Try.pinned.checked.prog Rows.ringOpensRow.wrapper Rows.ringOpensRow.mainSum := by
  unfold Func.isWrapper
  rw [if_neg (of_decide_eq_false (by kernel_rfl))]
  exact ⟨rfl, rfl⟩
theorem proved : Rows.RingOpensSaid :=
  OpenClaim.holds_of_wide 6 Try.f6 rfl rfl rfl rfl rfl rfl rfl ⟨rfl, rfl, rfl, rfl, rfl⟩ rfl rfl rfl rfl rfl named Try.func6 closed instance' wrapper
    (fun os started H enc _ => lifted os started H enc)
end Go.Proofs.Ytalhjhmphdgaoaa.lawRingOpens
