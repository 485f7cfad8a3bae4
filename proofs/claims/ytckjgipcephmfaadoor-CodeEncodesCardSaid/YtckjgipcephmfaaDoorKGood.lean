/- The reference's RecordFault, where all numbers and texts may be written; all of it. CODED ELSEWHERE: icehouse/icehouseref.RecordFault -/
import Derived.Test.YtckjgipcephmfaaDoorKFault
namespace Go.Proofs.YtckjgipcephmfaaDoor
open Go.RowKit
set_option maxHeartbeats 4000000
set_option maxRecDepth 20000
attribute [local irreducible] SW SWL SWLn SWD SEcall SEcallv SDv SE SO1 SOg ACalls ACallv Wk EndV
set_option linter.unusedSimpArgs false
set_option linter.unusedVariables false
theorem len0 (n : Nat) : ((n : Int) == 0) = !decide ((n : Int) > 0) := by
  rw [Bool.eq_iff_iff]; simp
set_option maxHeartbeats 40000000 in
theorem recFault_good (r : RecD) (hk : 1 ≤ r.kind ∧ r.kind ≤ 14) (h : (recT r).all (fun b => b) = true) : Pure Tryd.prog 9 [r.av] (I (bif bareF r then 0 else 4)) := by
  refine pure_of follows Tryd.func9 c9_eq r9 (Nat.le_of_ble_eq_true rfl) fun B σ hcl _ => ?_
  have q5 : inR r.kind 1 14 = true := by unfold inR; simp; omega
  unfold recT at h
  simp only [List.all_cons, List.all_nil, Bool.and_eq_true, Bool.not_eq_true', and_true] at h
  obtain ⟨z1, z2, z3, z4, z5, z6, z7, z8, z9, z10, z11, z12, z13, z14, z15, z16, z17⟩ := h
  have hk : r.kind = 1 ∨ r.kind = 2 ∨ r.kind = 3 ∨ r.kind = 4 ∨ r.kind = 5 ∨ r.kind = 6 ∨ r.kind = 7 ∨ r.kind = 8 ∨ r.kind = 9 ∨ r.kind = 10 ∨ r.kind = 11 ∨ r.kind = 12 ∨ r.kind = 13 ∨ r.kind = 14 := by omega
  rcases hk with hk | hk | hk | hk | hk | hk | hk | hk | hk | hk | hk | hk | hk | hk
  all_goals (rw [hk] at q5)
  repeat' (first | (simp -implicitDefEqProofs only [*, contN, contC, Nat.reduceBEq, Bool.or_false, Bool.or_true, Bool.false_or, Bool.true_or, Bool.not_true, Bool.not_false, SEconv, w_skip, w_ret, w_exit, w_reg, w_dreg, w_seq, SK_n, SK_r, SK_x, w_keep, w_block, w_cond, w_nil, w_cons, w_consg, w_nnil, w_ncons, w_dnil, w_dcons, w_dconsg, HK_app, HD_app, HQ_n, HQ_r, HQ_x, HQ_bn, HQ_br, HQ_bx, HQ_en, HQ_er, HQ_ex, CondB_true, CondB_false, SO1, w_sdv, SDe_alloc, SDe_box, SDe_bslice, SDe_app, true_imp_iff, false_imp_iff, and_false, false_and, not_false_eq_true, not_true_eq_false, addN, mkNames, killT, killD, killO, List.foldl_nil, List.foldl_cons, List.append_nil, List.nil_append, List.cons_append, GuardS_true, GuardS_false, GuardD_true, GuardD_false, DK_true, DK_false, lt_self_add, le_self_add, decide_true, decide_false, Bool.false_eq_true, Bool.true_eq_false, Nat.add_left_cancel_iff, SE, SEalloc, SEbox, SEstore, w_bs, SEbl, SEfz, SEbs0, fzName, osOf, AV.fz1, w_app, w_mk, aev, opd, Fr.get, putO, Fr.norm, List.map_cons, List.map_nil, with1, with2, onInt, AV.lit, entry, ↓reduceIte, Nat.reduceEqDiff, Nat.reduceAdd, reduceCtorEq, true_and, and_true, Option.map_some, Option.map_none, Option.bind_some, Option.bind_none, cond_true, cond_false, binV, unV, fieldV, loadV, sto, cellsAV, newF, newL, Fr.map, Loc.kill, Loc.set, AO.kill, AV.kill, AV.mapN, AV.mapNL, List.filter_nil, List.filter_cons, allP, EndV, retV, resV, resL, frz, dropL, AV.pick, nilV, tupV, imp_self, ne_eq, Int.cast_ofNat_Int, Int.reduceLT, Int.reduceToNat, List.getD_cons_zero, List.getD_cons_succ, bsliceV, buildV, afill, repl, chunk, rvs, AV.rv, RV.nrm, List.getElem?_nil, List.append_assoc, Nat.reduceMul, Nat.reducePow, Nat.zero_lt_succ, Nat.zero_add, Nat.add_zero, List.length_cons, List.length_nil, Nat.reduceLeDiff, Nat.le_refl, List.take_succ_cons, List.take_zero, List.drop_succ_cons, List.drop_zero, indexV, lenV, rowOf_mapD, rowOf_mapI, rowOf_mapA, List.length_map, Int.toNat_natCast, List.getElem?_cons_zero, List.getElem?_cons_succ, and_self, implies_true, if_true, if_false, HQ_zn, HQ_zr, HQ_wn, HQ_wr, AV.nz, AV.nzL, RV.nrm, SEbin, SEnil, nilK, srcV, dstV, appName, List.length_append, Nat.mul_one, take_map_len, take_map_app, List.getElem?_cons_zero, List.map_append, SEmkmap, SEmset, mgetV, kvOf, getM, setM, c9, r9, u9_1, u9_2, v9_3, v9_4, v9_5, v9_6, v9_7, v9_8, v9_9, v9_10, v9_11, v9_12, v9_13, v9_14, v9_15, u9_16, u9_17, v9_18, v9_19, u9_20, u9_21, v9_22, v9_23, v9_24, v9_25, v9_26, v9_27, v9_28, v9_29, v9_30, v9_31, v9_32, v9_33, v9_34, v9_35, v9_36, v9_37, u9_38, u9_39, v9_40, v9_41, v9_42, v9_43, v9_44, v9_45, v9_46, v9_47, v9_48, v9_49, v9_50, v9_51, v9_52, v9_53, v9_54, v9_55, v9_56, v9_57, v9_58, v9_59, v9_60, v9_61, v9_62, v9_63, v9_64, v9_65, v9_66, v9_67, v9_68, v9_69, v9_70, v9_71, v9_72, v9_73, v9_74, v9_75, v9_76, v9_77, v9_78, u9_79, u9_80, u9_81, u9_82, u9_83, u9_84, u9_85, u9_86, u9_87, u9_88, u9_89, u9_90, u9_91, u9_92, u9_93, ty42, ty3, ty36, ty40, ty38, ty34, ty33, ty9, RecD.av, RecD.row, ints, int_, VerD.av, VerD.row, PartD.av, PartD.row, feqR0, feqK0, Int.reduceBEq, Int.reduceBNe]) | (with_reducible refine And.intro ?_ ?_) | (refine call_ro e21 ( In_p _ _ _) rfl ?_ ?_ ?_ ?_) | (refine gcall_ro e21 ( In_p _ _ _) rfl ?_ ?_ ?_ ?_) | (refine dcall_ro e21 ( In_p _ _ _) rfl ?_ ?_ ?_ ?_) | (refine gdcall_ro rfl e21 ( In_p _ _ _) rfl ?_ ?_ ?_ ?_) | (refine call_ro e22 ( afA r) rfl ?_ ?_ ?_ ?_) | (refine gcall_ro e22 ( afA r) rfl ?_ ?_ ?_ ?_) | (refine dcall_ro e22 ( afA r) rfl ?_ ?_ ?_ ?_) | (refine gdcall_ro rfl e22 ( afA r) rfl ?_ ?_ ?_ ?_) | (refine call_ro e22 ( afB r) rfl ?_ ?_ ?_ ?_) | (refine gcall_ro e22 ( afB r) rfl ?_ ?_ ?_ ?_) | (refine dcall_ro e22 ( afB r) rfl ?_ ?_ ?_ ?_) | (refine gdcall_ro rfl e22 ( afB r) rfl ?_ ?_ ?_ ?_) | (refine call_ro e22 ( afC r) rfl ?_ ?_ ?_ ?_) | (refine gcall_ro e22 ( afC r) rfl ?_ ?_ ?_ ?_) | (refine dcall_ro e22 ( afC r) rfl ?_ ?_ ?_ ?_) | (refine gdcall_ro rfl e22 ( afC r) rfl ?_ ?_ ?_ ?_) | (refine call_ro e22 ( afG r) rfl ?_ ?_ ?_ ?_) | (refine gcall_ro e22 ( afG r) rfl ?_ ?_ ?_ ?_) | (refine dcall_ro e22 ( afG r) rfl ?_ ?_ ?_ ?_) | (refine gdcall_ro rfl e22 ( afG r) rfl ?_ ?_ ?_ ?_) | (refine call_ro e22 ( afS r.secs) rfl ?_ ?_ ?_ ?_) | (refine gcall_ro e22 ( afS r.secs) rfl ?_ ?_ ?_ ?_) | (refine dcall_ro e22 ( afS r.secs) rfl ?_ ?_ ?_ ?_) | (refine gdcall_ro rfl e22 ( afS r.secs) rfl ?_ ?_ ?_ ?_) | (refine call_ro e22 ( afS r.ver.secs) rfl ?_ ?_ ?_ ?_) | (refine gcall_ro e22 ( afS r.ver.secs) rfl ?_ ?_ ?_ ?_) | (refine dcall_ro e22 ( afS r.ver.secs) rfl ?_ ?_ ?_ ?_) | (refine gdcall_ro rfl e22 ( afS r.ver.secs) rfl ?_ ?_ ?_ ?_) | (refine call_ro e22 ( afS r.part.secs) rfl ?_ ?_ ?_ ?_) | (refine gcall_ro e22 ( afS r.part.secs) rfl ?_ ?_ ?_ ?_) | (refine dcall_ro e22 ( afS r.part.secs) rfl ?_ ?_ ?_ ?_) | (refine gdcall_ro rfl e22 ( afS r.part.secs) rfl ?_ ?_ ?_ ?_) | (refine call_ro e23 ( noVersion_p r.ver) rfl ?_ ?_ ?_ ?_) | (refine gcall_ro e23 ( noVersion_p r.ver) rfl ?_ ?_ ?_ ?_) | (refine dcall_ro e23 ( noVersion_p r.ver) rfl ?_ ?_ ?_ ?_) | (refine gdcall_ro rfl e23 ( noVersion_p r.ver) rfl ?_ ?_ ?_ ?_) | (refine gcall_do trivial ?_) | (refine EndX.plain ?_) | (refine nil_split (fun hn => ?_) (fun hn => ?_)) | (refine gcall_no not_false ?_) | (refine gdcall_no not_false ?_) | (refine GuardS_of _ _ _ _ _ _ (fun hg => ?_) (fun hg => ?_)) | (refine GuardD_of _ _ _ _ (fun hg => ?_) (fun hg => ?_)) | (refine CondB_of _ _ _ _ _ _ _ ?_ (fun hg => ?_) (fun hg => ?_)))
  all_goals (try (first | ((first | unfold noN | unfold Fr.below | unfold Loc.below); simp [Fr.allN, AV.allN, AV.allNL, AO.allN]; done) | rfl | trivial | assumption | (intro row hrow; simp only [List.mem_map] at hrow; obtain ⟨x, _, rfl⟩ := hrow; rfl) | (refine Wk.keep hcl ?_ ?_ ?_; (focus (simp [Fr.get, RecD.av, RecD.row, ints, int_, VerD.av, VerD.row, PartD.av, PartD.row, feqR0, feqK0, Int.reduceBEq, Int.reduceBNe] <;> fail)); (focus (simp [sto, RecD.av, RecD.row, ints, int_, VerD.av, VerD.row, PartD.av, PartD.row, feqR0, feqK0, Int.reduceBEq, Int.reduceBNe] <;> fail)); (focus (simp <;> fail))) | (simp [allP, opd, Fr.get, Fr.below, Fr.allN, AV.allN, AV.allNL, Loc.below, AO.allN, noN, killO, killT, killD, mkNames, AO.kill, AV.kill, AV.mapN, AV.mapNL]; done) | (with_reducible exact ltD (by assumption)) | omega | (simp only [decide_eq_true_eq, decide_eq_false_iff_not] at *; omega)))
  all_goals (try (simp [avName, loadNames, opd, Fr.get]; done))
  all_goals (try simp only [bne, Bool.not_eq_true', Bool.not_eq_false'] at *)
  all_goals (first | (simp only [bareF, kId, kN, kName, kVol, rule0, ask0, noT, nothP, len0, *, Int.reduceBEq, Bool.false_or, Bool.true_or, Bool.or_true, Bool.or_false, Bool.and_true, Bool.true_and, Bool.false_and, Bool.and_false, Bool.not_true, Bool.not_false, cond_true, cond_false]; done) | trace_state)
theorem recFault_p (r : RecD) (hw : r.wf) : Pure Tryd.prog 9 [r.av] (I (recF r)) := by
  unfold recF
  cases hk : kindF r with
  | false => exact recFault_kind r hk
  | true =>
    have hk1 : inR r.kind 1 14 = true := hk
    have hk2 : 1 ≤ r.kind ∧ r.kind ≤ 14 := by simpa [inR] using hk1
    have hT := recT_all r hw
    cases hA : (recT r).all (fun b => b) with
    | true =>
      have h := recFault_good r hk2 hA
      rw [hA] at hT
      have h1 := hT.symm
      simp only [Bool.and_eq_true] at h1
      simp only [h1.1, h1.2, Bool.not_true, cond_false]
      cases hb : bareF r <;> rw [hb] at h <;> exact h
    | false =>
      have h := recFault_bad r hk1 (badL_of hA)
      rw [hA] at hT
      unfold rngF at hT ⊢
      rw [rngD_ref r hw] at hT ⊢
      generalize rngA r = a1 at *
      generalize rngB r = a2 at *
      generalize rngC r = a3 at *
      generalize rngG r = a4 at *
      generalize inR r.frz (-1) 4294967294 = a5 at *
      generalize inR r.drop (-1) 4294967294 = a6 at *
      generalize szF r = a7 at *
      cases a1 <;> cases a2 <;> cases a3 <;> cases a4 <;> cases a5 <;> cases a6 <;> cases a7 <;> first | exact h | cases hT
end Go.Proofs.YtckjgipcephmfaaDoor
