/- Tiers: what is to be frozen, dropped, made cold again. -/
import Derived.Test.YtaacjghgniljpaaTierB
import Derived.Test.YtaacjghgniljpaaChkP
import Derived.Test.YtaacjghgniljpaaTypes
namespace Go.Proofs.Ytaacjghgniljpaa
open Go.RowKit
set_option maxRecDepth 100000
def c29_1 : SC := (.seq (.reg [SO.mk (some 9) (.move (.tmp 4)) none, SO.mk (some 2) (.move (.const (Value.slice none 0 0))) none, SO.mk (some 3) (.move (.tmp 9)) none]) (.keep [2, 3] .ret))
theorem u29_1 : type_of% (@swc _ _ c29_1.eq_1) := @swc _ _ c29_1.eq_1
def c29_2 : SC := (.cond (.tmp 8) c29_1 .skip)
theorem u29_2 : type_of% (@swc _ _ c29_2.eq_1) := @swc _ _ c29_2.eq_1
def c29_3 : SC := (.seq (.reg [SO.mk (some 7) (.move (.tmp 4)) none, SO.mk (some 8) (.bin .neq 29 (.tmp 7) (.const (Value.int .i64 0))) none]) (.keep [8, 4, 1] c29_2))
theorem u29_3 : type_of% (@swc _ _ c29_3.eq_1) := @swc _ _ c29_3.eq_1
def c29_4 : SC := (.seq (.reg [SO.mk (some 10) (.load 28 (.tmp 1)) none, SO.mk (some 11) (.mkfn (.func 65) [] [(.tmp 1)]) none, SO.mk (some 12) (.call 49 [(.tmp 10), (.tmp 11)]) none, SO.mk (some 2) (.move (.tmp 12)) none, SO.mk (some 3) (.move (.const (Value.int .i64 0))) none]) (.keep [2, 3] .ret))
theorem u29_4 : type_of% (@swc _ _ c29_4.eq_1) := @swc _ _ c29_4.eq_1
def c29_5 : SC := (.seq (.seq (.reg [SO.mk (some 5) (.load 28 (.tmp 1)) none, SO.mk (some 6) (.call 13 [(.tmp 5)]) none, SO.mk (some 4) (.move (.tmp 6)) none]) (.keep [4, 1] c29_3)) (.keep [1] c29_4))
theorem u29_5 : type_of% (@swc _ _ c29_5.eq_1) := @swc _ _ c29_5.eq_1
def c29 : SC := (.seq (.reg [SO.mk (some 1) (.box 28 (.tmp 0)) none, SO.mk (some 2) (.move (.const (Value.slice none 0 0))) none, SO.mk (some 3) (.move (.const (Value.int .i64 0))) none]) (.keep [1] c29_5))
theorem c29_eq : annC Try.f29 = some c29 := by kernel_rfl
theorem r29 : Try.f29.results.toList = [.tmp 2, .tmp 3] := by kernel_rfl
theorem e29 : enters Try.prog 29 = true := by kernel_rfl
end Go.Proofs.Ytaacjghgniljpaa
namespace Go.Proofs.Ytaacjghgniljpaa
open Go.RowKit
set_option maxHeartbeats 4000000
set_option maxRecDepth 20000
attribute [local irreducible] SW SWL SWLn SWD SEcall SEcallv SDv SE SO1 SOg ACalls ACallv Wk EndV
set_option linter.unusedSimpArgs false
set_option linter.unusedVariables false
def idsV (s : SttD) (p : VerD → Bool) : AV := bif mayF s then .tup [.d (ints (idsF s.vers p)), I 0] else .tup [.d (.ro []), I 9]
def frzP (s : SttD) (v : VerD) : Bool := v.tier == 1 && oldF s v (bktOf s v).frz
theorem may_bkts {s : SttD} (h : mayF s = true) : ∀ i, i < s.vers.length → idxD s.bkts.length (pB s.bkts s.vers[i]!.bkt) ≥ 0 := fun i hi => by
  unfold mayF at h
  simp only [Bool.and_eq_true, none_iff] at h
  have hv := h.2.2.2.1 i hi
  unfold mVer at hv
  simp only [Bool.or_eq_false_iff, Bool.not_eq_false'] at hv
  have h1 := hv.1.1
  unfold vmF at h1
  cases hb : vmBad s s.vers[i]!
  · unfold vmBad at hb
    simp only [Bool.or_eq_false_iff, decide_eq_false_iff_not] at hb
    omega
  · simp only [hb, cond_true] at h1; cases h1
theorem freeze_p (s : SttD) (hw : s.wf) : Pure Try.prog 29 [s.av] (idsV s (frzP s)) := by
  refine pureZ_of follows Try.func29 c29_eq r29 (Nat.le_of_ble_eq_true rfl) fun B σ hcl hsz => ?_
  clear hsz
  have hc := check9_p s hw
  have hbk := may_bkts (s := s)
  unfold idsV
  generalize mayF s = b at hc hbk ⊢
  cases b
  · simp only [cond_false] at hc ⊢
    clear hbk
    repeat' (first | (simp -implicitDefEqProofs only [*, contN, contC, Nat.reduceBEq, Bool.or_false, Bool.or_true, Bool.false_or, Bool.true_or, Bool.not_true, Bool.not_false, w_skip, w_ret, w_exit, w_reg, w_dreg, w_seq, SK_n, SK_r, SK_x, w_keep, w_block, w_cond, w_nil, w_cons, w_consg, w_nnil, w_ncons, w_dnil, w_dcons, w_dconsg, HK_app, HD_app, HQ_n, HQ_r, HQ_x, HQ_bn, HQ_br, HQ_bx, HQ_en, HQ_er, HQ_ex, CondB_true, CondB_false, SO1, w_sdv, SDe_alloc, SDe_box, SDe_bslice, SDe_app, true_imp_iff, false_imp_iff, and_false, false_and, not_false_eq_true, not_true_eq_false, addN, mkNames, killT, killD, killO, List.foldl_nil, List.foldl_cons, List.append_nil, List.nil_append, List.cons_append, GuardS_true, GuardS_false, GuardD_true, GuardD_false, DK_true, DK_false, lt_self_add, le_self_add, decide_true, decide_false, Bool.false_eq_true, Bool.true_eq_false, Nat.add_left_cancel_iff, SE, SEalloc, SEbox, SEstore, w_bs, SEbl, SEfz, SEbs0, fzName, osOf, AV.fz1, w_app, w_mk, aev, opd, Fr.get, putO, Fr.norm, List.map_cons, List.map_nil, with1, with2, onInt, AV.lit, entry, ↓reduceIte, Nat.reduceEqDiff, Nat.reduceAdd, reduceCtorEq, true_and, and_true, Option.map_some, Option.map_none, Option.bind_some, Option.bind_none, cond_true, cond_false, binV, unV, fieldV, loadV, sto, cellsAV, newF, newL, Fr.map, Loc.kill, Loc.set, AO.kill, AV.kill, AV.mapN, AV.mapNL, List.filter_nil, List.filter_cons, allP, EndV, retV, resV, resL, frz, dropL, AV.pick, nilV, tupV, imp_self, ne_eq, Int.cast_ofNat_Int, Int.reduceLT, Int.reduceToNat, List.getD_cons_zero, List.getD_cons_succ, bsliceV, buildV, afill, repl, chunk, rvs, AV.rv, RV.nrm, List.getElem?_nil, List.append_assoc, Nat.reduceMul, Nat.reducePow, Nat.zero_lt_succ, Nat.zero_add, Nat.add_zero, List.length_cons, List.length_nil, Nat.reduceLeDiff, Nat.le_refl, List.take_succ_cons, List.take_zero, List.drop_succ_cons, List.drop_zero, indexV, lenV, rowOf_mapD, rowOf_mapI, rowOf_mapA, List.length_map, Int.toNat_natCast, List.getElem?_cons_zero, List.getElem?_cons_succ, and_self, implies_true, if_true, if_false, HQ_zn, HQ_zr, HQ_wn, HQ_wr, AV.nz, AV.nzL, RV.nrm, SEbin, SEnil, nilK, srcV, dstV, appName, List.length_append, Nat.mul_one, take_map_len, take_map_app, List.getElem?_cons_zero, List.map_append, SEmkmap, SEmset, mgetV, kvOf, getM, setM, c29, r29, u29_1, u29_2, u29_3, u29_4, u29_5, ty28, ty29, SttD.av, SttD.cells, ints]) | (with_reducible refine And.intro ?_ ?_) | (refine call_ro e13 ( hc) rfl ?_ ?_ ?_ ?_) | (refine gcall_ro e13 ( hc) rfl ?_ ?_ ?_ ?_) | (refine dcall_ro e13 ( hc) rfl ?_ ?_ ?_ ?_) | (refine gdcall_ro rfl e13 ( hc) rfl ?_ ?_ ?_ ?_) | (refine EndX.plain ?_) | (refine nil_split (fun hn => ?_) (fun hn => ?_)) | (refine gcall_no not_false ?_) | (refine gdcall_no not_false ?_) | (refine GuardS_of _ _ _ _ _ _ (fun hg => ?_) (fun hg => ?_)) | (refine GuardD_of _ _ _ _ (fun hg => ?_) (fun hg => ?_)) | (refine CondB_of _ _ _ _ _ _ _ ?_ (fun hg => ?_) (fun hg => ?_)))
    all_goals (try (first | ((first | unfold noN | unfold Fr.below | unfold Loc.below); simp [Fr.allN, AV.allN, AV.allNL, AO.allN]; done) | rfl | trivial | assumption | (intro row hrow; simp only [List.mem_map] at hrow; obtain ⟨x, _, rfl⟩ := hrow; rfl) | (refine Wk.keep hcl ?_ ?_ ?_; (focus (simp [Fr.get, SttD.av, SttD.cells, ints] <;> fail)); (focus (simp [sto, SttD.av, SttD.cells, ints] <;> fail)); (focus (simp <;> fail))) | (simp [allP, opd, Fr.get, Fr.below, Fr.allN, AV.allN, AV.allNL, Loc.below, AO.allN, noN, killO, killT, killD, mkNames, AO.kill, AV.kill, AV.mapN, AV.mapNL]; done) | (with_reducible exact ltD (by assumption)) | omega | (simp only [decide_eq_true_eq, decide_eq_false_iff_not] at *; omega)))
  · simp only [cond_true] at hc ⊢
    have hids := fun m => ids_p s (st_fit hw) 65 m s.cells (frzP s) fun i hi => PureC.clo e65 (freeze1_p s s.vers[i]! m (hbk rfl i hi))
    clear hbk
    repeat' (first | (simp -implicitDefEqProofs only [*, contN, contC, Nat.reduceBEq, Bool.or_false, Bool.or_true, Bool.false_or, Bool.true_or, Bool.not_true, Bool.not_false, w_skip, w_ret, w_exit, w_reg, w_dreg, w_seq, SK_n, SK_r, SK_x, w_keep, w_block, w_cond, w_nil, w_cons, w_consg, w_nnil, w_ncons, w_dnil, w_dcons, w_dconsg, HK_app, HD_app, HQ_n, HQ_r, HQ_x, HQ_bn, HQ_br, HQ_bx, HQ_en, HQ_er, HQ_ex, CondB_true, CondB_false, SO1, w_sdv, SDe_alloc, SDe_box, SDe_bslice, SDe_app, true_imp_iff, false_imp_iff, and_false, false_and, not_false_eq_true, not_true_eq_false, addN, mkNames, killT, killD, killO, List.foldl_nil, List.foldl_cons, List.append_nil, List.nil_append, List.cons_append, GuardS_true, GuardS_false, GuardD_true, GuardD_false, DK_true, DK_false, lt_self_add, le_self_add, decide_true, decide_false, Bool.false_eq_true, Bool.true_eq_false, Nat.add_left_cancel_iff, SE, SEalloc, SEbox, SEstore, w_bs, SEbl, SEfz, SEbs0, fzName, osOf, AV.fz1, w_app, w_mk, aev, opd, Fr.get, putO, Fr.norm, List.map_cons, List.map_nil, with1, with2, onInt, AV.lit, entry, ↓reduceIte, Nat.reduceEqDiff, Nat.reduceAdd, reduceCtorEq, true_and, and_true, Option.map_some, Option.map_none, Option.bind_some, Option.bind_none, cond_true, cond_false, binV, unV, fieldV, loadV, sto, cellsAV, newF, newL, Fr.map, Loc.kill, Loc.set, AO.kill, AV.kill, AV.mapN, AV.mapNL, List.filter_nil, List.filter_cons, allP, EndV, retV, resV, resL, frz, dropL, AV.pick, nilV, tupV, imp_self, ne_eq, Int.cast_ofNat_Int, Int.reduceLT, Int.reduceToNat, List.getD_cons_zero, List.getD_cons_succ, bsliceV, buildV, afill, repl, chunk, rvs, AV.rv, RV.nrm, List.getElem?_nil, List.append_assoc, Nat.reduceMul, Nat.reducePow, Nat.zero_lt_succ, Nat.zero_add, Nat.add_zero, List.length_cons, List.length_nil, Nat.reduceLeDiff, Nat.le_refl, List.take_succ_cons, List.take_zero, List.drop_succ_cons, List.drop_zero, indexV, lenV, rowOf_mapD, rowOf_mapI, rowOf_mapA, List.length_map, Int.toNat_natCast, List.getElem?_cons_zero, List.getElem?_cons_succ, and_self, implies_true, if_true, if_false, HQ_zn, HQ_zr, HQ_wn, HQ_wr, AV.nz, AV.nzL, RV.nrm, SEbin, SEnil, nilK, srcV, dstV, appName, List.length_append, Nat.mul_one, take_map_len, take_map_app, List.getElem?_cons_zero, List.map_append, SEmkmap, SEmset, mgetV, kvOf, getM, setM, c29, r29, u29_1, u29_2, u29_3, u29_4, u29_5, ty28, ty29, SttD.av, SttD.cells, ints]) | (with_reducible refine And.intro ?_ ?_) | (refine call_ro e13 ( hc) rfl ?_ ?_ ?_ ?_) | (refine gcall_ro e13 ( hc) rfl ?_ ?_ ?_ ?_) | (refine dcall_ro e13 ( hc) rfl ?_ ?_ ?_ ?_) | (refine gdcall_ro rfl e13 ( hc) rfl ?_ ?_ ?_ ?_) | (refine call_roC e49 (hids (B + 1)) rfl ?_ ?_ ?_ ?_ ?_) | (refine EndX.plain ?_) | (refine nil_split (fun hn => ?_) (fun hn => ?_)) | (refine gcall_no not_false ?_) | (refine gdcall_no not_false ?_) | (refine GuardS_of _ _ _ _ _ _ (fun hg => ?_) (fun hg => ?_)) | (refine GuardD_of _ _ _ _ (fun hg => ?_) (fun hg => ?_)) | (refine CondB_of _ _ _ _ _ _ _ ?_ (fun hg => ?_) (fun hg => ?_)))
    all_goals (try (first | ((first | unfold noN | unfold Fr.below | unfold Loc.below); simp [Fr.allN, AV.allN, AV.allNL, AO.allN]; done) | rfl | trivial | assumption | (intro row hrow; simp only [List.mem_map] at hrow; obtain ⟨x, _, rfl⟩ := hrow; rfl) | (refine Wk.keep hcl ?_ ?_ ?_; (focus (simp [Fr.get, SttD.av, SttD.cells, ints] <;> fail)); (focus (simp [sto, SttD.av, SttD.cells, ints] <;> fail)); (focus (simp <;> fail))) | (simp [allP, opd, Fr.get, Fr.below, Fr.allN, AV.allN, AV.allNL, Loc.below, AO.allN, noN, killO, killT, killD, mkNames, AO.kill, AV.kill, AV.mapN, AV.mapNL]; done) | (with_reducible exact ltD (by assumption)) | omega | (simp only [decide_eq_true_eq, decide_eq_false_iff_not] at *; omega)))
end Go.Proofs.Ytaacjghgniljpaa
