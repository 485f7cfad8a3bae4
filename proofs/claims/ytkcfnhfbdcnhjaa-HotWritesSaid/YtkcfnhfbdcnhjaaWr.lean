/- Devices that come out of a put or a flush fit into memory; the first sector of the hot ones. -/
import Derived.Test.YtkcfnhfbdcnhjaaDevPut
import Derived.Test.YtkcfnhfbdcnhjaaTypes
namespace Go.Proofs.Ytkcfnhfbdcnhjaa
open Go.RowKit
set_option maxRecDepth 100000
/-- icehouse_hot.first -/
def o43_1 : List SO := ((SO.mk (some 7) (.load 3 (.tmp 6)) none) :: (SO.mk (some 8) (.bin .mul 3 (.const (Value.int .i64 2)) (.tmp 7)) none) :: (SO.mk (some 9) (.bin .add 3 (.tmp 5) (.tmp 8)) none) :: (SO.mk (some 2) (.move (.tmp 9)) none) :: [])
theorem v43_1 (P : Program) (B : Nat) (T0 : List Nat) (r : Sto) (K : Fr → Loc → Prop) (a : Fr) (l : Loc) : SWL P B T0 r o43_1 K a l = SWL P B T0 r ((SO.mk (some 7) (.load 3 (.tmp 6)) none) :: (SO.mk (some 8) (.bin .mul 3 (.const (Value.int .i64 2)) (.tmp 7)) none) :: (SO.mk (some 9) (.bin .add 3 (.tmp 5) (.tmp 8)) none) :: (SO.mk (some 2) (.move (.tmp 9)) none) :: []) K a l := (rfl)
def c43_2 : SC := (.seq (.reg ((SO.mk (some 3) (.faddr 23 (.tmp 1) 0) none) :: (SO.mk (some 4) (.load 3 (.tmp 3)) none) :: (SO.mk (some 5) (.bin .add 3 (.const (Value.int .i64 2)) (.tmp 4)) none) :: (SO.mk (some 6) (.faddr 23 (.tmp 1) 1) none) :: o43_1)) (.keep [2] .ret))
theorem u43_2 (P : Program) (B : Nat) (T0 : List Nat) (r : Sto) (Q : Ex → Fr → Loc → Prop) (a : Fr) (l : Loc) : SW P B T0 r c43_2 Q a l = SW P B T0 r (.seq (.reg ((SO.mk (some 3) (.faddr 23 (.tmp 1) 0) none) :: (SO.mk (some 4) (.load 3 (.tmp 3)) none) :: (SO.mk (some 5) (.bin .add 3 (.const (Value.int .i64 2)) (.tmp 4)) none) :: (SO.mk (some 6) (.faddr 23 (.tmp 1) 1) none) :: o43_1)) (.keep [2] .ret)) Q a l := (rfl)
def c43 : SC := (.seq (.reg [SO.mk (some 1) (.box 23 (.tmp 0)) none, SO.mk (some 2) (.move (.const (Value.int .i64 0))) none]) (.keep [1] c43_2))
theorem c43_eq : annC Try.f43 = some c43 := by kernel_rfl
theorem r43 : Try.f43.results.toList = [.tmp 2] := by kernel_rfl
theorem e43 : enters Try.prog 43 = true := by kernel_rfl
end Go.Proofs.Ytkcfnhfbdcnhjaa
namespace Go.Proofs.Ytkcfnhfbdcnhjaa
open Go.RowKit
set_option maxHeartbeats 4000000
set_option maxRecDepth 20000
attribute [local irreducible] SW SWL SWLn SWD SEcall SEcallv SDv SE SO1 SOg ACalls ACallv Wk EndV
set_option linter.unusedSimpArgs false
set_option linter.unusedVariables false
theorem nilD_fit : nilD.fit := by unfold DevD.fit nilD; simp
theorem putD_fit {g : GeoD} {d : DevD} {a : Int} {b : List UInt8} (hw : d.fit) : (putD g d a b).fit := by
  unfold putD
  cases hE : putE g d a b == 0 with
  | false => exact nilD_fit
  | true =>
    have h0 : devF g d = 0 := by
      cases hd : devF g d != 0 with
      | true => simp only [putE, hd, cond_true] at hE; simp at hE hd; exact hE
      | false => simpa using hd
    have ho := (okd h0).cache
    obtain ⟨w1, w2, w3⟩ := hw
    refine ⟨w1, ?_, w3⟩
    simp only [cond_true, List.length_append, List.length_cons, List.length_nil]; omega
theorem flushD_fit {g : GeoD} {d : DevD} (hw : d.fit) : (flushD g d).fit := by
  unfold flushD
  cases hE : spendE g d == 0 with
  | false => exact nilD_fit
  | true =>
    obtain ⟨w1, w2, w3⟩ := hw
    exact ⟨by simp only [cond_true, putAll_len]; exact w1, by simp, w3⟩
/-- what is written: the devices behind k puts, and the first fault -/
def firstV (g : GeoD) : Int := IntKind.i64.wrap (IntKind.i64.wrap (2 + g.ring) + IntKind.i64.wrap (2 * g.area))
theorem first_p (g : GeoD) : Pure Try.prog 43 [g.av] (I (firstV g)) := by
  refine pure_of follows Try.func43 c43_eq r43 (Nat.le_of_ble_eq_true rfl) fun B σ hcl _ => ?_
  repeat' (first | (simp -implicitDefEqProofs only [*, contN, contC, Nat.reduceBEq, Bool.or_false, Bool.or_true, Bool.false_or, Bool.true_or, Bool.not_true, Bool.not_false, w_skip, w_ret, w_exit, w_reg, w_dreg, w_seq, SK_n, SK_r, SK_x, w_keep, w_block, w_cond, w_nil, w_cons, w_consg, w_nnil, w_ncons, w_dnil, w_dcons, w_dconsg, HK_app, HD_app, HQ_n, HQ_r, HQ_x, HQ_bn, HQ_br, HQ_bx, HQ_en, HQ_er, HQ_ex, CondB_true, CondB_false, SO1, w_sdv, SDe_alloc, SDe_box, SDe_bslice, SDe_app, true_imp_iff, false_imp_iff, and_false, false_and, not_false_eq_true, not_true_eq_false, addN, mkNames, killT, killD, killO, List.foldl_nil, List.foldl_cons, List.append_nil, List.nil_append, List.cons_append, GuardS_true, GuardS_false, GuardD_true, GuardD_false, DK_true, DK_false, lt_self_add, le_self_add, decide_true, decide_false, Bool.false_eq_true, Bool.true_eq_false, Nat.add_left_cancel_iff, SE, SEalloc, SEbox, SEstore, w_bs, SEbl, SEfz, SEbs0, fzName, osOf, AV.fz1, w_app, w_mk, aev, opd, Fr.get, putO, Fr.norm, List.map_cons, List.map_nil, with1, with2, onInt, AV.lit, entry, ↓reduceIte, Nat.reduceEqDiff, Nat.reduceAdd, reduceCtorEq, true_and, and_true, Option.map_some, Option.map_none, Option.bind_some, Option.bind_none, cond_true, cond_false, binV, unV, fieldV, loadV, sto, cellsAV, newF, newL, Fr.map, Loc.kill, Loc.set, AO.kill, AV.kill, AV.mapN, AV.mapNL, List.filter_nil, List.filter_cons, allP, EndV, retV, resV, resL, frz, dropL, AV.pick, nilV, tupV, imp_self, ne_eq, Int.cast_ofNat_Int, Int.reduceLT, Int.reduceToNat, List.getD_cons_zero, List.getD_cons_succ, bsliceV, buildV, afill, repl, chunk, rvs, AV.rv, RV.nrm, List.getElem?_nil, List.append_assoc, Nat.reduceMul, Nat.reducePow, Nat.zero_lt_succ, Nat.zero_add, Nat.add_zero, List.length_cons, List.length_nil, Nat.reduceLeDiff, Nat.le_refl, List.take_succ_cons, List.take_zero, List.drop_succ_cons, List.drop_zero, indexV, lenV, rowOf_mapD, rowOf_mapI, rowOf_mapA, List.length_map, Int.toNat_natCast, List.getElem?_cons_zero, List.getElem?_cons_succ, and_self, implies_true, if_true, if_false, HQ_zn, HQ_zr, HQ_wn, HQ_wr, AV.nz, AV.nzL, RV.nrm, SEbin, SEnil, nilK, srcV, dstV, appName, List.length_append, Nat.mul_one, take_map_len, take_map_app, List.getElem?_cons_zero, List.map_append, c43, r43, v43_1, u43_2, ty23, ty3, GeoD.av]) | (with_reducible refine And.intro ?_ ?_) | (refine EndX.plain ?_) | (refine nil_split (fun hn => ?_) (fun hn => ?_)) | (refine gcall_no not_false ?_) | (refine gdcall_no not_false ?_) | (refine GuardS_of _ _ _ _ _ _ (fun hg => ?_) (fun hg => ?_)) | (refine GuardD_of _ _ _ _ (fun hg => ?_) (fun hg => ?_)) | (refine CondB_of _ _ _ _ _ _ _ ?_ (fun hg => ?_) (fun hg => ?_)))
  all_goals (try (first | ((first | unfold noN | unfold Fr.below | unfold Loc.below); simp [Fr.allN, AV.allN, AV.allNL, AO.allN]; done) | rfl | trivial | assumption | (intro row hrow; simp only [List.mem_map] at hrow; obtain ⟨x, _, rfl⟩ := hrow; rfl) | (refine Wk.keep hcl ?_ ?_ ?_; (focus (simp [Fr.get, GeoD.av] <;> fail)); (focus (simp [sto, GeoD.av] <;> fail)); (focus (simp <;> fail))) | (simp [allP, opd, Fr.get, Fr.below, Fr.allN, AV.allN, AV.allNL, Loc.below, AO.allN, noN, killO, killT, killD, mkNames, AO.kill, AV.kill, AV.mapN, AV.mapNL]; done) | (with_reducible exact ltD (by assumption)) | omega | (simp only [decide_eq_true_eq, decide_eq_false_iff_not] at *; omega)))
  all_goals rfl
end Go.Proofs.Ytkcfnhfbdcnhjaa
