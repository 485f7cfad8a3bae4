/- The reference's RecordFault, where all numbers and texts may be written; all of it. CODED ELSEWHERE: icehouse/icehouseref.RecordFault -/
import Derived.Test.YtijpmidnclbhpaaDoorKFault
namespace Go.Proofs.YtijpmidnclbhpaaDoor
open Go.RowKit
set_option maxHeartbeats 4000000
set_option maxRecDepth 20000
attribute [local irreducible] SW SWL SWLn SWD SEcall SEcallv SDv SE SO1 SOg ACalls ACallv Wk EndV
set_option linter.unusedSimpArgs false
set_option linter.unusedVariables false
theorem len0 (n : Nat) : ((n : Int) == 0) = !decide ((n : Int) > 0) := by
  rw [Bool.eq_iff_iff]; simp
set_option maxHeartbeats 40000000 in
theorem recFault_good (r : RecD) (hk : 1 ≤ r.kind ∧ r.kind ≤ 14) (h : (recT r).all (fun b => b) = true) : Pure Tryd.prog 7 [r.av] (I (bif bareF r then 0 else 4)) := by
  refine pure_of follows Tryd.func7 c7_eq r7 (Nat.le_of_ble_eq_true rfl) fun B σ hcl _ => ?_
  have q5 : inR r.kind 1 14 = true := by unfold inR; simp; omega
  unfold recT at h
  simp only [List.all_cons, List.all_nil, Bool.and_eq_true, Bool.not_eq_true', and_true] at h
  obtain ⟨z1, z2, z3, z4, z5, z6, z7, z8, z9, z10, z11, z12, z13, z14, z15, z16, z17⟩ := h
  have hk : r.kind = 1 ∨ r.kind = 2 ∨ r.kind = 3 ∨ r.kind = 4 ∨ r.kind = 5 ∨ r.kind = 6 ∨ r.kind = 7 ∨ r.kind = 8 ∨ r.kind = 9 ∨ r.kind = 10 ∨ r.kind = 11 ∨ r.kind = 12 ∨ r.kind = 13 ∨ r.kind = 14 := by omega
  rcases hk with hk | hk | hk | hk | hk | hk | hk | hk | hk | hk | hk | hk | hk | hk
  all_goals (rw [hk] at q5)
  repeat' (first | (simp -implicitDefEqProofs only [*, contN, contC, Nat.reduceBEq, Bool.or_false, Bool.or_true, Bool.false_or, Bool.true_or, Bool.not_true, Bool.not_false, w_skip, w_ret, w_exit, w_reg, w_dreg, w_seq, SK_n, SK_r, SK_x, w_keep, w_block, w_cond, w_nil, w_cons, w_consg, w_nnil, w_ncons, w_dnil, w_dcons, w_dconsg, HK_app, HD_app, HQ_n, HQ_r, HQ_x, HQ_bn, HQ_br, HQ_bx, HQ_en, HQ_er, HQ_ex, CondB_true, CondB_false, SO1, w_sdv, SDe_alloc, SDe_box, SDe_bslice, SDe_app, true_imp_iff, false_imp_iff, and_false, false_and, not_false_eq_true, not_true_eq_false, addN, mkNames, killT, killD, killO, List.foldl_nil, List.foldl_cons, List.append_nil, List.nil_append, List.cons_append, GuardS_true, GuardS_false, GuardD_true, GuardD_false, DK_true, DK_false, lt_self_add, le_self_add, decide_true, decide_false, Bool.false_eq_true, Bool.true_eq_false, Nat.add_left_cancel_iff, SE, SEalloc, SEbox, SEstore, w_bs, SEbl, SEfz, SEbs0, fzName, osOf, AV.fz1, w_app, w_mk, aev, opd, Fr.get, putO, Fr.norm, List.map_cons, List.map_nil, with1, with2, onInt, AV.lit, entry, ↓reduceIte, Nat.reduceEqDiff, Nat.reduceAdd, reduceCtorEq, true_and, and_true, Option.map_some, Option.map_none, Option.bind_some, Option.bind_none, cond_true, cond_false, binV, unV, fieldV, loadV, sto, cellsAV, newF, newL, Fr.map, Loc.kill, Loc.set, AO.kill, AV.kill, AV.mapN, AV.mapNL, List.filter_nil, List.filter_cons, allP, EndV, retV, resV, resL, frz, dropL, AV.pick, nilV, tupV, imp_self, ne_eq, Int.cast_ofNat_Int, Int.reduceLT, Int.reduceToNat, List.getD_cons_zero, List.getD_cons_succ, bsliceV, buildV, afill, repl, chunk, rvs, AV.rv, RV.nrm, List.getElem?_nil, List.append_assoc, Nat.reduceMul, Nat.reducePow, Nat.zero_lt_succ, Nat.zero_add, Nat.add_zero, List.length_cons, List.length_nil, Nat.reduceLeDiff, Nat.le_refl, List.take_succ_cons, List.take_zero, List.drop_succ_cons, List.drop_zero, indexV, lenV, rowOf_mapD, rowOf_mapI, rowOf_mapA, List.length_map, Int.toNat_natCast, List.getElem?_cons_zero, List.getElem?_cons_succ, and_self, implies_true, if_true, if_false, HQ_zn, HQ_zr, HQ_wn, HQ_wr, AV.nz, AV.nzL, RV.nrm, SEbin, SEnil, nilK, srcV, dstV, appName, List.length_append, Nat.mul_one, take_map_len, take_map_app, List.getElem?_cons_zero, List.map_append, SEmkmap, SEmset, mgetV, kvOf, getM, setM, c7, r7, u7_1, u7_2, v7_3, v7_4, v7_5, v7_6, v7_7, v7_8, v7_9, v7_10, v7_11, v7_12, v7_13, v7_14, v7_15, u7_16, u7_17, v7_18, v7_19, u7_20, u7_21, v7_22, v7_23, v7_24, v7_25, v7_26, v7_27, v7_28, v7_29, v7_30, v7_31, v7_32, v7_33, v7_34, v7_35, v7_36, v7_37, u7_38, u7_39, v7_40, v7_41, v7_42, v7_43, v7_44, v7_45, v7_46, v7_47, v7_48, v7_49, v7_50, v7_51, v7_52, v7_53, v7_54, v7_55, v7_56, v7_57, v7_58, v7_59, v7_60, v7_61, v7_62, v7_63, v7_64, v7_65, v7_66, v7_67, v7_68, v7_69, v7_70, v7_71, v7_72, v7_73, v7_74, v7_75, v7_76, v7_77, v7_78, u7_79, u7_80, u7_81, u7_82, u7_83, u7_84, u7_85, u7_86, u7_87, u7_88, u7_89, u7_90, u7_91, u7_92, u7_93, ty32, ty3, ty26, ty30, ty28, ty24, ty23, ty9, RecD.av, RecD.row, ints, int_, VerD.av, VerD.row, PartD.av, PartD.row, feqR0, feqK0, Int.reduceBEq, Int.reduceBNe]) | (with_reducible refine And.intro ?_ ?_) | (refine call_ro e17 ( In_p _ _ _) rfl ?_ ?_ ?_ ?_) | (refine gcall_ro e17 ( In_p _ _ _) rfl ?_ ?_ ?_ ?_) | (refine dcall_ro e17 ( In_p _ _ _) rfl ?_ ?_ ?_ ?_) | (refine gdcall_ro rfl e17 ( In_p _ _ _) rfl ?_ ?_ ?_ ?_) | (refine call_ro e18 ( afA r) rfl ?_ ?_ ?_ ?_) | (refine gcall_ro e18 ( afA r) rfl ?_ ?_ ?_ ?_) | (refine dcall_ro e18 ( afA r) rfl ?_ ?_ ?_ ?_) | (refine gdcall_ro rfl e18 ( afA r) rfl ?_ ?_ ?_ ?_) | (refine call_ro e18 ( afB r) rfl ?_ ?_ ?_ ?_) | (refine gcall_ro e18 ( afB r) rfl ?_ ?_ ?_ ?_) | (refine dcall_ro e18 ( afB r) rfl ?_ ?_ ?_ ?_) | (refine gdcall_ro rfl e18 ( afB r) rfl ?_ ?_ ?_ ?_) | (refine call_ro e18 ( afC r) rfl ?_ ?_ ?_ ?_) | (refine gcall_ro e18 ( afC r) rfl ?_ ?_ ?_ ?_) | (refine dcall_ro e18 ( afC r) rfl ?_ ?_ ?_ ?_) | (refine gdcall_ro rfl e18 ( afC r) rfl ?_ ?_ ?_ ?_) | (refine call_ro e18 ( afG r) rfl ?_ ?_ ?_ ?_) | (refine gcall_ro e18 ( afG r) rfl ?_ ?_ ?_ ?_) | (refine dcall_ro e18 ( afG r) rfl ?_ ?_ ?_ ?_) | (refine gdcall_ro rfl e18 ( afG r) rfl ?_ ?_ ?_ ?_) | (refine call_ro e18 ( afS r.secs) rfl ?_ ?_ ?_ ?_) | (refine gcall_ro e18 ( afS r.secs) rfl ?_ ?_ ?_ ?_) | (refine dcall_ro e18 ( afS r.secs) rfl ?_ ?_ ?_ ?_) | (refine gdcall_ro rfl e18 ( afS r.secs) rfl ?_ ?_ ?_ ?_) | (refine call_ro e18 ( afS r.ver.secs) rfl ?_ ?_ ?_ ?_) | (refine gcall_ro e18 ( afS r.ver.secs) rfl ?_ ?_ ?_ ?_) | (refine dcall_ro e18 ( afS r.ver.secs) rfl ?_ ?_ ?_ ?_) | (refine gdcall_ro rfl e18 ( afS r.ver.secs) rfl ?_ ?_ ?_ ?_) | (refine call_ro e18 ( afS r.part.secs) rfl ?_ ?_ ?_ ?_) | (refine gcall_ro e18 ( afS r.part.secs) rfl ?_ ?_ ?_ ?_) | (refine dcall_ro e18 ( afS r.part.secs) rfl ?_ ?_ ?_ ?_) | (refine gdcall_ro rfl e18 ( afS r.part.secs) rfl ?_ ?_ ?_ ?_) | (refine call_ro e19 ( noVersion_p r.ver) rfl ?_ ?_ ?_ ?_) | (refine gcall_ro e19 ( noVersion_p r.ver) rfl ?_ ?_ ?_ ?_) | (refine dcall_ro e19 ( noVersion_p r.ver) rfl ?_ ?_ ?_ ?_) | (refine gdcall_ro rfl e19 ( noVersion_p r.ver) rfl ?_ ?_ ?_ ?_) | (refine gcall_do trivial ?_) | (refine EndX.plain ?_) | (refine nil_split (fun hn => ?_) (fun hn => ?_)) | (refine gcall_no not_false ?_) | (refine gdcall_no not_false ?_) | (refine GuardS_of _ _ _ _ _ _ (fun hg => ?_) (fun hg => ?_)) | (refine GuardD_of _ _ _ _ (fun hg => ?_) (fun hg => ?_)) | (refine CondB_of _ _ _ _ _ _ _ ?_ (fun hg => ?_) (fun hg => ?_)))
  all_goals (try (first | ((first | unfold noN | unfold Fr.below | unfold Loc.below); simp [Fr.allN, AV.allN, AV.allNL, AO.allN]; done) | rfl | trivial | assumption | (intro row hrow; simp only [List.mem_map] at hrow; obtain ⟨x, _, rfl⟩ := hrow; rfl) | (refine Wk.keep hcl ?_ ?_ ?_; (focus (simp [Fr.get, RecD.av, RecD.row, ints, int_, VerD.av, VerD.row, PartD.av, PartD.row, feqR0, feqK0, Int.reduceBEq, Int.reduceBNe] <;> fail)); (focus (simp [sto, RecD.av, RecD.row, ints, int_, VerD.av, VerD.row, PartD.av, PartD.row, feqR0, feqK0, Int.reduceBEq, Int.reduceBNe] <;> fail)); (focus (simp <;> fail))) | (simp [allP, opd, Fr.get, Fr.below, Fr.allN, AV.allN, AV.allNL, Loc.below, AO.allN, noN, killO, killT, killD, mkNames, AO.kill, AV.kill, AV.mapN, AV.mapNL]; done) | (with_reducible exact ltD (by assumption)) | omega | (simp only [decide_eq_true_eq, decide_eq_false_iff_not] at *; omega)))
  all_goals (try (simp [avName, loadNames, opd, Fr.get]; done))
  all_goals (try simp only [bne, Bool.not_eq_true', Bool.not_eq_false'] at *)
  all_goals (first | (simp only [bareF, kId, kN, kName, kVol, rule0, ask0, noT, nothP, len0, *, Int.reduceBEq, Bool.false_or, Bool.true_or, Bool.or_true, Bool.or_false, Bool.and_true, Bool.true_and, Bool.false_and, Bool.and_false, Bool.not_true, Bool.not_false, cond_true, cond_false]; done) | trace_state)
theorem recFault_p (r : RecD) (hw : r.wf) : Pure Tryd.prog 7 [r.av] (I (recF r)) := by
  unfold recF
  cases hk : kindF r with
  | false => exact recFault_kind r hk
  | true =>
    have hk1 : inR r.kind 1 14 = true := hk
    have hk2 : 1 ≤ r.kind ∧ r.kind ≤ 14 := by simpa [inR] using hk1
    have hT := recT_all r hw
    cases hA : (recT r).all (fun b => b) with
    | true =>
      have h := recFault_good r hk2 hA
      rw [hA] at hT
      have h1 := hT.symm
      simp only [Bool.and_eq_true] at h1
      simp only [h1.1, h1.2, Bool.not_true, cond_false]
      cases hb : bareF r <;> rw [hb] at h <;> exact h
    | false =>
      have h := recFault_bad r hk1 (badL_of hA)
      rw [hA] at hT
      unfold rngF at hT ⊢
      rw [rngD_ref r hw] at hT ⊢
      generalize rngA r = a1 at *
      generalize rngB r = a2 at *
      generalize rngC r = a3 at *
      generalize rngG r = a4 at *
      generalize inR r.frz (-1) 4294967294 = a5 at *
      generalize inR r.drop (-1) 4294967294 = a6 at *
      generalize szF r = a7 at *
      cases a1 <;> cases a2 <;> cases a3 <;> cases a4 <;> cases a5 <;> cases a6 <;> cases a7 <;> first | exact h | cases hT
end Go.Proofs.YtijpmidnclbhpaaDoor
