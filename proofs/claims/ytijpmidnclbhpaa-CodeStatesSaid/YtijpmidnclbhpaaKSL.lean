/- The law CodeStates, walked. -/
import Derived.Test.YtijpmidnclbhpaaKSE
import Derived.Test.YtijpmidnclbhpaaKSR
import Derived.Test.YtijpmidnclbhpaaTypes
namespace Go.Proofs.Ytijpmidnclbhpaa
open Go.RowKit
set_option maxRecDepth 100000
def o3_1 : List SO := ((SO.mk (some 11) (.extract (.tmp 7) 1) none) :: (SO.mk (some 3) (.move (.tmp 10)) none) :: (SO.mk (some 4) (.move (.tmp 11)) none) :: [])
theorem v3_1 : type_of% (@swl _ _ o3_1.eq_1) := @swl _ _ o3_1.eq_1
def o3_2 : List SO := ((SO.mk (some 16) (.extract (.tmp 12) 1) none) :: (SO.mk (some 5) (.move (.tmp 15)) none) :: (SO.mk (some 6) (.move (.tmp 16)) none) :: [])
theorem v3_2 : type_of% (@swl _ _ o3_2.eq_1) := @swl _ _ o3_2.eq_1
def o3_3 : List SO := ((SO.mk (some 25) (.bin .eql 9 (.tmp 22) (.tmp 24)) (some (20 , true))) :: (SO.mk (some 26) (.pick (.tmp 20) (.tmp 25) (.const (Value.bool false))) none) :: (SO.mk (some 2) (.move (.tmp 26)) none) :: [])
theorem v3_3 : type_of% (@swl _ _ o3_3.eq_1) := @swl _ _ o3_3.eq_1
def o3_4 : List SO := ((SO.mk (some 21) (.move (.tmp 3)) (some (20 , true))) :: (SO.mk (some 22) (.conv 29 9 (.tmp 21)) (some (20 , true))) :: (SO.mk (some 23) (.move (.tmp 5)) (some (20 , true))) :: (SO.mk (some 24) (.conv 29 9 (.tmp 23)) (some (20 , true))) :: o3_3)
theorem v3_4 : type_of% (@swl _ _ o3_4.eq_1) := @swl _ _ o3_4.eq_1
def c3_5 : SC := (.seq (.reg ((SO.mk (some 17) (.move (.tmp 4)) none) :: (SO.mk (some 18) (.move (.tmp 6)) none) :: (SO.mk (some 19) (.bin .eql 30 (.tmp 17) (.tmp 18)) none) :: (SO.mk (some 20) (.move (.tmp 19)) none) :: o3_4)) (.keep [2] .ret))
theorem u3_5 : type_of% (@swc _ _ c3_5.eq_1) := @swc _ _ c3_5.eq_1
def c3_6 : SC := (.seq (.reg ((SO.mk (some 13) (.load 28 (.tmp 1)) none) :: (SO.mk (some 14) (.call 6 [(.tmp 13)]) none) :: (SO.mk (some 12) (.move (.tmp 14)) none) :: (SO.mk (some 15) (.extract (.tmp 12) 0) none) :: o3_2)) (.keep [4, 6, 3, 5] c3_5))
theorem u3_6 : type_of% (@swc _ _ c3_6.eq_1) := @swc _ _ c3_6.eq_1
def c3_7 : SC := (.seq (.reg ((SO.mk (some 8) (.load 28 (.tmp 1)) none) :: (SO.mk (some 9) (.call 5 [(.tmp 8)]) none) :: (SO.mk (some 7) (.move (.tmp 9)) none) :: (SO.mk (some 10) (.extract (.tmp 7) 0) none) :: o3_1)) (.keep [1, 4, 3] c3_6))
theorem u3_7 : type_of% (@swc _ _ c3_7.eq_1) := @swc _ _ c3_7.eq_1
def c3 : SC := (.seq (.reg [SO.mk (some 1) (.box 28 (.tmp 0)) none, SO.mk (some 2) (.move (.const (Value.bool false))) none]) (.keep [1] c3_7))
theorem c3_eq : annC Try.f3 = some c3 := by kernel_rfl
theorem r3 : Try.f3.results.toList = [.tmp 2] := by kernel_rfl
theorem e3 : enters Try.prog 3 = true := by kernel_rfl
end Go.Proofs.Ytijpmidnclbhpaa
namespace Go.Proofs.Ytijpmidnclbhpaa
open Go.RowKit
set_option maxHeartbeats 4000000
set_option maxRecDepth 20000
attribute [local irreducible] SW SWL SWLn SWD SEcall SEcallv SDv SE SO1 SOg ACalls ACallv Wk EndV
set_option linter.unusedSimpArgs false
set_option linter.unusedVariables false
theorem isBytes_s (l : List UInt8) : isBytes (l.map by_) = True := by
  refine eq_true ?_
  intro r hr
  simp only [List.mem_map] at hr; obtain ⟨x, _, rfl⟩ := hr
  rfl
attribute [local irreducible] stL stE
theorem codeStates_p (s : SttD) (hw : s.wf) : Pure Try.prog 3 [s.av] (Bo true) := by
  refine pure_of follows Try.func3 c3_eq r3 (Nat.le_of_ble_eq_true rfl) fun B σ hcl hsz => ?_
  clear hsz
  have he := encSt_p s hw
  have hr := stBytes_p s
  unfold stV at he hr
  generalize stL s = X at he hr
  generalize stE s = e at he hr
  repeat' (first | (simp -implicitDefEqProofs only [*, contN, contC, Nat.reduceBEq, Bool.or_false, Bool.or_true, Bool.false_or, Bool.true_or, Bool.not_true, Bool.not_false, SEconv, w_skip, w_ret, w_exit, w_reg, w_dreg, w_seq, SK_n, SK_r, SK_x, w_keep, w_block, w_cond, w_nil, w_cons, w_consg, w_nnil, w_ncons, w_dnil, w_dcons, w_dconsg, HK_app, HD_app, HQ_n, HQ_r, HQ_x, HQ_bn, HQ_br, HQ_bx, HQ_en, HQ_er, HQ_ex, CondB_true, CondB_false, SO1, w_sdv, SDe_alloc, SDe_box, SDe_bslice, SDe_app, true_imp_iff, false_imp_iff, and_false, false_and, not_false_eq_true, not_true_eq_false, addN, mkNames, killT, killD, killO, List.foldl_nil, List.foldl_cons, List.append_nil, List.nil_append, List.cons_append, GuardS_true, GuardS_false, GuardD_true, GuardD_false, DK_true, DK_false, lt_self_add, le_self_add, decide_true, decide_false, Bool.false_eq_true, Bool.true_eq_false, Nat.add_left_cancel_iff, SE, SEalloc, SEbox, SEstore, w_bs, SEbl, SEfz, SEbs0, fzName, osOf, AV.fz1, w_app, w_mk, aev, opd, Fr.get, putO, Fr.norm, List.map_cons, List.map_nil, with1, with2, onInt, AV.lit, entry, ↓reduceIte, Nat.reduceEqDiff, Nat.reduceAdd, reduceCtorEq, true_and, and_true, Option.map_some, Option.map_none, Option.bind_some, Option.bind_none, cond_true, cond_false, binV, unV, fieldV, loadV, sto, cellsAV, newF, newL, Fr.map, Loc.kill, Loc.set, AO.kill, AV.kill, AV.mapN, AV.mapNL, List.filter_nil, List.filter_cons, allP, EndV, retV, resV, resL, frz, dropL, AV.pick, nilV, tupV, imp_self, ne_eq, Int.cast_ofNat_Int, Int.reduceLT, Int.reduceToNat, List.getD_cons_zero, List.getD_cons_succ, bsliceV, buildV, afill, repl, chunk, rvs, AV.rv, RV.nrm, List.getElem?_nil, List.append_assoc, Nat.reduceMul, Nat.reducePow, Nat.zero_lt_succ, Nat.zero_add, Nat.add_zero, List.length_cons, List.length_nil, Nat.reduceLeDiff, Nat.le_refl, List.take_succ_cons, List.take_zero, List.drop_succ_cons, List.drop_zero, indexV, lenV, rowOf_mapD, rowOf_mapI, rowOf_mapA, List.length_map, Int.toNat_natCast, List.getElem?_cons_zero, List.getElem?_cons_succ, and_self, implies_true, if_true, if_false, HQ_zn, HQ_zr, HQ_wn, HQ_wr, AV.nz, AV.nzL, RV.nrm, SEbin, SEnil, nilK, srcV, dstV, appName, List.length_append, Nat.mul_one, take_map_len, take_map_app, List.getElem?_cons_zero, List.map_append, SEmkmap, SEmset, mgetV, kvOf, getM, setM, c3, r3, v3_1, v3_2, v3_3, v3_4, u3_5, u3_6, u3_7, ty28, ty30, ty29, ty9, ty5, SttD.av, SttD.cells, bytes, convV, isBytes_s, bne_self_eq_false, beq_self_eq_true]) | (with_reducible refine And.intro ?_ ?_) | (refine call_ro e5 ( he) rfl ?_ ?_ ?_ ?_) | (refine gcall_ro e5 ( he) rfl ?_ ?_ ?_ ?_) | (refine dcall_ro e5 ( he) rfl ?_ ?_ ?_ ?_) | (refine gdcall_ro rfl e5 ( he) rfl ?_ ?_ ?_ ?_) | (refine call_ro e6 ( hr) rfl ?_ ?_ ?_ ?_) | (refine gcall_ro e6 ( hr) rfl ?_ ?_ ?_ ?_) | (refine dcall_ro e6 ( hr) rfl ?_ ?_ ?_ ?_) | (refine gdcall_ro rfl e6 ( hr) rfl ?_ ?_ ?_ ?_) | (refine EndX.plain ?_) | (refine nil_split (fun hn => ?_) (fun hn => ?_)) | (refine gcall_no not_false ?_) | (refine gdcall_no not_false ?_) | (refine GuardS_of _ _ _ _ _ _ (fun hg => ?_) (fun hg => ?_)) | (refine GuardD_of _ _ _ _ (fun hg => ?_) (fun hg => ?_)) | (refine CondB_of _ _ _ _ _ _ _ ?_ (fun hg => ?_) (fun hg => ?_)))
  all_goals (try (first | ((first | unfold noN | unfold Fr.below | unfold Loc.below); simp [Fr.allN, AV.allN, AV.allNL, AO.allN]; done) | rfl | trivial | assumption | (intro row hrow; simp only [List.mem_map] at hrow; obtain ⟨x, _, rfl⟩ := hrow; rfl) | (refine Wk.keep hcl ?_ ?_ ?_; (focus (simp [Fr.get, SttD.av, SttD.cells, bytes, convV, isBytes_s, bne_self_eq_false, beq_self_eq_true] <;> fail)); (focus (simp [sto, SttD.av, SttD.cells, bytes, convV, isBytes_s, bne_self_eq_false, beq_self_eq_true] <;> fail)); (focus (simp <;> fail))) | (simp [allP, opd, Fr.get, Fr.below, Fr.allN, AV.allN, AV.allNL, Loc.below, AO.allN, noN, killO, killT, killD, mkNames, AO.kill, AV.kill, AV.mapN, AV.mapNL]; done) | (with_reducible exact ltD (by assumption)) | omega | (simp only [decide_eq_true_eq, decide_eq_false_iff_not] at *; omega)))
end Go.Proofs.Ytijpmidnclbhpaa
