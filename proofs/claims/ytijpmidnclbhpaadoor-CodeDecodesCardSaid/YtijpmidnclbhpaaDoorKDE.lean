/- icehouseref.RecordsOf. -/
import Derived.Test.YtijpmidnclbhpaaDoorKRE
import Derived.Test.YtijpmidnclbhpaaDoorKS
import Derived.Test.YtijpmidnclbhpaaDoorTypes
namespace Go.Proofs.YtijpmidnclbhpaaDoor
open Go.RowKit
set_option maxRecDepth 100000
def o10_1 : List SO := ((SO.mk (some 22) (.bin .eql 33 (.tmp 21) (.const (Value.int .i64 0))) (some (17 , true))) :: (SO.mk (some 23) (.pick (.tmp 17) (.tmp 22) (.const (Value.bool false))) none) :: [])
theorem v10_1 : type_of% (@swl _ _ o10_1.eq_1) := @swl _ _ o10_1.eq_1
def o10_2 : List SO := ((SO.mk (some 18) (.move (.tmp 4)) (some (17 , true))) :: (SO.mk (some 19) (.nilCheck (.tmp 18)) (some (17 , true))) :: (SO.mk (some 20) (.faddr 58 (.tmp 19) 2) (some (17 , true))) :: (SO.mk (some 21) (.load 33 (.tmp 20)) (some (17 , true))) :: o10_1)
theorem v10_2 : type_of% (@swl _ _ o10_2.eq_1) := @swl _ _ o10_2.eq_1
def c10_3 : SC := (.cond (.tmp 23) .skip (.exit 0))
theorem u10_3 : type_of% (@swc _ _ c10_3.eq_1) := @swc _ _ c10_3.eq_1
def c10_4 : SC := (.reg [SO.mk (some 28) (.move (.tmp 6)) none, SO.mk (some 29) (.load 32 (.tmp 8)) none, SO.mk (some 30) (.bslice 37 1 [(0 , (.tmp 29))]) none, SO.mk (some 31) (.app 37 37 (.tmp 28) (.tmp 30)) none, SO.mk (some 6) (.move (.tmp 31)) none])
theorem u10_4 : type_of% (@swc _ _ c10_4.eq_1) := @swc _ _ c10_4.eq_1
def c10_5 : SC := (.reg [SO.mk (some 24) (.move (.tmp 7)) none, SO.mk (some 25) (.bin .add 3 (.tmp 24) (.const (Value.int .i64 1))) none, SO.mk (some 7) (.move (.tmp 25)) none])
theorem u10_5 : type_of% (@swc _ _ c10_5.eq_1) := @swc _ _ c10_5.eq_1
def c10_6 : SC := (.seq (.block 1 (.seq (.reg [SO.mk (some 26) (.move (.tmp 4)) none, SO.mk (some 27) (.call 25 [(.tmp 26)]) none, SO.mk (some 8) (.alloc 32) none, SO.mk none (.store 32 (.tmp 8) (.tmp 27)) none]) (.keep [6, 8, 7, 5, 0, 4] c10_4))) (.keep [7, 5, 0, 4, 6] c10_5))
theorem u10_6 : type_of% (@swc _ _ c10_6.eq_1) := @swc _ _ c10_6.eq_1
def c10_7 : SC := (.seq (.seq (.reg ((SO.mk (some 14) (.move (.tmp 7)) none) :: (SO.mk (some 15) (.move (.tmp 5)) none) :: (SO.mk (some 16) (.bin .lss 3 (.tmp 14) (.tmp 15)) none) :: (SO.mk (some 17) (.move (.tmp 16)) none) :: o10_2)) (.keep [23, 5, 7, 0, 4, 6] c10_3)) (.keep [6, 7, 5, 0, 4] c10_6))
theorem u10_7 : type_of% (@swc _ _ c10_7.eq_1) := @swc _ _ c10_7.eq_1
def c10_8 : SC := (.block 0 (.loop (.keep [5, 7, 0, 4, 6] c10_7)))
theorem u10_8 : type_of% (@swc _ _ c10_8.eq_1) := @swc _ _ c10_8.eq_1
def o10_9 : List SO := ((SO.mk (some 44) (.bin .lss 3 (.tmp 41) (.tmp 43)) (some (37 , true))) :: (SO.mk (some 45) (.pick (.tmp 37) (.tmp 44) (.const (Value.bool false))) none) :: [])
theorem v10_9 : type_of% (@swl _ _ o10_9.eq_1) := @swl _ _ o10_9.eq_1
def o10_10 : List SO := ((SO.mk (some 40) (.faddr 58 (.tmp 39) 1) (some (37 , true))) :: (SO.mk (some 41) (.load 3 (.tmp 40)) (some (37 , true))) :: (SO.mk (some 42) (.move (.tmp 0)) (some (37 , true))) :: (SO.mk (some 43) (.len 36 (.tmp 42)) (some (37 , true))) :: o10_9)
theorem v10_10 : type_of% (@swl _ _ o10_10.eq_1) := @swl _ _ o10_10.eq_1
def o10_11 : List SO := ((SO.mk (some 36) (.bin .eql 33 (.tmp 35) (.const (Value.int .i64 0))) none) :: (SO.mk (some 37) (.move (.tmp 36)) none) :: (SO.mk (some 38) (.move (.tmp 4)) (some (37 , true))) :: (SO.mk (some 39) (.nilCheck (.tmp 38)) (some (37 , true))) :: o10_10)
theorem v10_11 : type_of% (@swl _ _ o10_11.eq_1) := @swl _ _ o10_11.eq_1
def c10_12 : SC := (.reg [SO.mk (some 46) (.move (.tmp 4)) none, SO.mk (some 47) (.nilCheck (.tmp 46)) none, SO.mk (some 48) (.faddr 58 (.tmp 47) 2) none, SO.mk none (.store 33 (.tmp 48) (.const (Value.int .i64 4))) none])
theorem u10_12 : type_of% (@swc _ _ c10_12.eq_1) := @swc _ _ c10_12.eq_1
def c10_13 : SC := (.cond (.tmp 45) c10_12 .skip)
theorem u10_13 : type_of% (@swc _ _ c10_13.eq_1) := @swc _ _ c10_13.eq_1
def o10_14 : List SO := ((SO.mk (some 2) (.move (.const (Value.slice none 0 0))) none) :: (SO.mk (some 3) (.move (.tmp 57)) none) :: [])
theorem v10_14 : type_of% (@swd _ _ o10_14.eq_1) := @swd _ _ o10_14.eq_1
def o10_15 : List SO := ((SO.mk (some 54) (.move (.tmp 4)) none) :: (SO.mk (some 55) (.nilCheck (.tmp 54)) none) :: (SO.mk (some 56) (.faddr 58 (.tmp 55) 2) none) :: (SO.mk (some 57) (.load 33 (.tmp 56)) none) :: o10_14)
theorem v10_15 : type_of% (@swd _ _ o10_15.eq_1) := @swd _ _ o10_15.eq_1
theorem m10_15 (B : Nat) : mkNames B o10_15 = [] := (rfl)
def c10_16 : SC := (.seq (.dreg false o10_15 []) (.keep [2, 3] .ret))
theorem u10_16 : type_of% (@swc _ _ c10_16.eq_1) := @swc _ _ c10_16.eq_1
def c10_17 : SC := (.cond (.tmp 53) c10_16 .skip)
theorem u10_17 : type_of% (@swc _ _ c10_17.eq_1) := @swc _ _ c10_17.eq_1
def c10_18 : SC := (.seq (.reg [SO.mk (some 58) (.move (.tmp 6)) none, SO.mk (some 2) (.move (.tmp 58)) none, SO.mk (some 3) (.move (.const (Value.int .i64 0))) none]) (.keep [2, 3] .ret))
theorem u10_18 : type_of% (@swc _ _ c10_18.eq_1) := @swc _ _ c10_18.eq_1
def c10_19 : SC := (.seq (.seq (.reg [SO.mk (some 49) (.move (.tmp 4)) none, SO.mk (some 50) (.nilCheck (.tmp 49)) none, SO.mk (some 51) (.faddr 58 (.tmp 50) 2) none, SO.mk (some 52) (.load 33 (.tmp 51)) none, SO.mk (some 53) (.bin .neq 33 (.tmp 52) (.const (Value.int .i64 0))) none]) (.keep [53, 4, 6] c10_17)) (.keep [6] c10_18))
theorem u10_19 : type_of% (@swc _ _ c10_19.eq_1) := @swc _ _ c10_19.eq_1
def c10_20 : SC := (.seq (.seq (.reg ((SO.mk (some 32) (.move (.tmp 4)) none) :: (SO.mk (some 33) (.nilCheck (.tmp 32)) none) :: (SO.mk (some 34) (.faddr 58 (.tmp 33) 2) none) :: (SO.mk (some 35) (.load 33 (.tmp 34)) none) :: o10_11)) (.keep [45, 4, 6] c10_13)) (.keep [4, 6] c10_19))
theorem u10_20 : type_of% (@swc _ _ c10_20.eq_1) := @swc _ _ c10_20.eq_1
def c10_21 : SC := (.seq (.seq (.reg [SO.mk (some 7) (.move (.const (Value.int .i64 0))) none]) (.keep [5, 7, 0, 4, 6] c10_8)) (.keep [0, 4, 6] c10_20))
theorem u10_21 : type_of% (@swc _ _ c10_21.eq_1) := @swc _ _ c10_21.eq_1
def c10_22 : SC := (.seq (.reg [SO.mk (some 6) (.move (.const (Value.slice none 0 0))) none]) (.keep [5, 0, 4, 6] c10_21))
theorem u10_22 : type_of% (@swc _ _ c10_22.eq_1) := @swc _ _ c10_22.eq_1
def c10_23 : SC := (.seq (.reg [SO.mk (some 12) (.move (.tmp 4)) none, SO.mk (some 13) (.call 24 [(.tmp 12), (.const (Value.int .i64 1))]) none, SO.mk (some 5) (.move (.tmp 13)) none]) (.keep [5, 0, 4] c10_22))
theorem u10_23 : type_of% (@swc _ _ c10_23.eq_1) := @swc _ _ c10_23.eq_1
def c10_24 : SC := (.seq (.reg [SO.mk (some 9) (.move (.tmp 0)) none, SO.mk (some 10) (.build 58 [(0 , (.tmp 9))]) none, SO.mk (some 11) (.box 58 (.tmp 10)) none, SO.mk (some 4) (.move (.tmp 11)) none]) (.keep [0, 4] c10_23))
theorem u10_24 : type_of% (@swc _ _ c10_24.eq_1) := @swc _ _ c10_24.eq_1
def c10 : SC := (.seq (.reg [SO.mk (some 2) (.move (.const (Value.slice none 0 0))) none, SO.mk (some 3) (.move (.const (Value.int .i64 0))) none]) (.keep [0] c10_24))
theorem c10_eq : annC Tryd.f10 = some c10 := by kernel_rfl
theorem r10 : Tryd.f10.results.toList = [.tmp 2, .tmp 3] := by kernel_rfl
theorem e10 : enters Tryd.prog 10 = true := by kernel_rfl
end Go.Proofs.YtijpmidnclbhpaaDoor
namespace Go.Proofs.YtijpmidnclbhpaaDoor
open Go.RowKit
set_option maxHeartbeats 4000000
set_option maxRecDepth 20000
attribute [local irreducible] SW SWL SWLn SWD SEcall SEcallv SDv SE SO1 SOg ACalls ACallv Wk EndV
set_option linter.unusedSimpArgs false
set_option linter.unusedVariables false
attribute [local irreducible] takS textS bitS intsS takN textN bitN intsN ruleS askS partS verS recN recS
attribute [local irreducible] rcS
theorem endE_a {s : RdS} (h1 : (s.2 == 0) = false) : endE s = s.2 := by unfold endE; rw [h1]; rfl
theorem endE_b {s : RdS} (h1 : (s.2 == 0) = true) (h2 : decide ((s.1.length : Int) > 0) = true) : endE s = 4 := by unfold endE; rw [h1, h2]; rfl
theorem endE_c {s : RdS} (h1 : (s.2 == 0) = true) (h2 : decide ((s.1.length : Int) > 0) = false) : endE s = 0 := by
  unfold endE; rw [h1, h2]; simpa using h1
theorem recordsOf_p (b : List UInt8) : Pure Tryd.prog 10 [.d (bytes b)] (decV b) := by
  refine pureZ_of follows Tryd.func10 c10_eq r10 (Nat.le_of_ble_eq_true rfl) fun B σ hcl hsz => ?_
  have hbb : b.length ≤ 2 ^ 47 := by simpa [bytes] using (show Sized (.ro (b.map by_)) from hsz (.d (.ro (b.map by_))) (by simp [bytes])).len
  clear hsz
  have hx0 := (takN_1 (b, 0)).1
  have hx1 := (takN_1 (b, 0)).2
  obtain ⟨M, hM⟩ : ∃ M, rcC (b, 0) ((takN (b, 0) 1).toNat - 0) 0 = M := ⟨_, rfl⟩
  have hM2 : rcM (b, 0) = M := hM
  have hx : b <:+ b := List.suffix_refl b
  have hf : AO.box [.d (.ro (b.map by_)), I 0, I 0] = eyO b b 0 := by unfold eyO; rw [Int.sub_self]
  have hne : ∀ k, ((rcS (b, 0) k).2 != 0) = !((rcS (b, 0) k).2 == 0) := fun _ => rfl
  have hq : ∀ x : List UInt8, decide ((b.length : Int) - x.length < b.length) = decide ((x.length : Int) > 0) := fun x => by rw [Bool.eq_iff_iff]; simp; omega
  repeat' (first | (simp -implicitDefEqProofs only [*, contN, contC, Nat.reduceBEq, Bool.or_false, Bool.or_true, Bool.false_or, Bool.true_or, Bool.not_true, Bool.not_false, w_skip, w_ret, w_exit, w_reg, w_dreg, w_seq, SK_n, SK_r, SK_x, w_keep, w_block, w_cond, w_nil, w_cons, w_consg, w_nnil, w_ncons, w_dnil, w_dcons, w_dconsg, HK_app, HD_app, HQ_n, HQ_r, HQ_x, HQ_bn, HQ_br, HQ_bx, HQ_en, HQ_er, HQ_ex, CondB_true, CondB_false, SO1, w_sdv, SDe_alloc, SDe_box, SDe_bslice, SDe_app, true_imp_iff, false_imp_iff, and_false, false_and, not_false_eq_true, not_true_eq_false, addN, mkNames, killT, killD, killO, List.foldl_nil, List.foldl_cons, List.append_nil, List.nil_append, List.cons_append, GuardS_true, GuardS_false, GuardD_true, GuardD_false, DK_true, DK_false, lt_self_add, le_self_add, decide_true, decide_false, Bool.false_eq_true, Bool.true_eq_false, Nat.add_left_cancel_iff, SE, SEalloc, SEbox, SEstore, w_bs, SEbl, SEfz, SEbs0, fzName, osOf, AV.fz1, w_app, w_mk, aev, opd, Fr.get, putO, Fr.norm, List.map_cons, List.map_nil, with1, with2, onInt, AV.lit, entry, ↓reduceIte, Nat.reduceEqDiff, Nat.reduceAdd, reduceCtorEq, true_and, and_true, Option.map_some, Option.map_none, Option.bind_some, Option.bind_none, cond_true, cond_false, binV, unV, fieldV, loadV, sto, cellsAV, newF, newL, Fr.map, Loc.kill, Loc.set, AV.kill, AV.mapN, AV.mapNL, List.filter_nil, List.filter_cons, allP, EndV, retV, resV, resL, frz, dropL, AV.pick, nilV, tupV, imp_self, ne_eq, Int.cast_ofNat_Int, Int.reduceLT, Int.reduceToNat, List.getD_cons_zero, List.getD_cons_succ, bsliceV, buildV, afill, repl, chunk, rvs, AV.rv, RV.nrm, List.getElem?_nil, List.append_assoc, Nat.reduceMul, Nat.reducePow, Nat.zero_lt_succ, Nat.zero_add, Nat.add_zero, List.length_cons, List.length_nil, Nat.reduceLeDiff, Nat.le_refl, List.take_succ_cons, List.take_zero, List.drop_succ_cons, List.drop_zero, indexV, lenV, rowOf_mapD, rowOf_mapI, rowOf_mapA, List.length_map, Int.toNat_natCast, List.getElem?_cons_zero, List.getElem?_cons_succ, and_self, implies_true, if_true, if_false, HQ_zn, HQ_zr, HQ_wn, HQ_wr, AV.nz, AV.nzL, RV.nrm, SEbin, SEnil, nilK, srcV, dstV, appName, List.length_append, Nat.mul_one, take_map_len, take_map_app, List.getElem?_cons_zero, List.map_append, SEmkmap, SEmset, mgetV, kvOf, getM, setM, c10, r10, v10_1, v10_2, u10_3, u10_4, u10_5, u10_6, u10_7, u10_8, v10_9, v10_10, v10_11, u10_12, u10_13, v10_14, v10_15, m10_15, u10_16, u10_17, u10_18, u10_19, u10_20, u10_21, u10_22, u10_23, u10_24, ty58, ty3, ty33, ty32, ty37, ty36, ty5, aokB, aokD, aokA, ↓eyO_allN, ↓eyO_kill, bytes, prEta]) | (with_reducible refine And.intro ?_ ?_) | (refine call_e0 (d := some 13) (by omega) e24 ( num_L 1 (by decide)) rfl ?_ ?_ hbb ?_ ?_ ?_ ?_ ?_) | (refine call_e1 (d := some 13) (by omega) e24 ( num_L 1 (by decide)) rfl ?_ ?_ hbb ?_ ?_ ?_ ?_ ?_) | (refine call_e2 (d := some 13) (by omega) e24 ( num_L 1 (by decide)) rfl ?_ ?_ hbb ?_ ?_ ?_ ?_ ?_) | (refine EndX.plain ?_) | (refine nil_split (fun hn => ?_) (fun hn => ?_)) | (refine gcall_no not_false ?_) | (refine gdcall_no not_false ?_) | (refine GuardS_of _ _ _ _ _ _ (fun hg => ?_) (fun hg => ?_)) | (refine GuardD_of _ _ _ _ (fun hg => ?_) (fun hg => ?_)) | (refine CondB_of _ _ _ _ _ _ _ ?_ (fun hg => ?_) (fun hg => ?_)))
  all_goals (try clear hf)
  repeat' (first | (simp -implicitDefEqProofs only [*, contN, contC, Nat.reduceBEq, Bool.or_false, Bool.or_true, Bool.false_or, Bool.true_or, Bool.not_true, Bool.not_false, w_skip, w_ret, w_exit, w_reg, w_dreg, w_seq, SK_n, SK_r, SK_x, w_keep, w_block, w_cond, w_nil, w_cons, w_consg, w_nnil, w_ncons, w_dnil, w_dcons, w_dconsg, HK_app, HD_app, HQ_n, HQ_r, HQ_x, HQ_bn, HQ_br, HQ_bx, HQ_en, HQ_er, HQ_ex, CondB_true, CondB_false, SO1, w_sdv, SDe_alloc, SDe_box, SDe_bslice, SDe_app, true_imp_iff, false_imp_iff, and_false, false_and, not_false_eq_true, not_true_eq_false, addN, mkNames, killT, killD, killO, List.foldl_nil, List.foldl_cons, List.append_nil, List.nil_append, List.cons_append, GuardS_true, GuardS_false, GuardD_true, GuardD_false, DK_true, DK_false, lt_self_add, le_self_add, decide_true, decide_false, Bool.false_eq_true, Bool.true_eq_false, Nat.add_left_cancel_iff, SE, SEalloc, SEbox, SEstore, w_bs, SEbl, SEfz, SEbs0, fzName, osOf, AV.fz1, w_app, w_mk, aev, opd, Fr.get, putO, Fr.norm, List.map_cons, List.map_nil, with1, with2, onInt, AV.lit, entry, ↓reduceIte, Nat.reduceEqDiff, Nat.reduceAdd, reduceCtorEq, true_and, and_true, Option.map_some, Option.map_none, Option.bind_some, Option.bind_none, cond_true, cond_false, binV, unV, fieldV, loadV, sto, cellsAV, newF, newL, Fr.map, Loc.kill, Loc.set, AV.kill, AV.mapN, AV.mapNL, List.filter_nil, List.filter_cons, allP, EndV, retV, resV, resL, frz, dropL, AV.pick, nilV, tupV, imp_self, ne_eq, Int.cast_ofNat_Int, Int.reduceLT, Int.reduceToNat, List.getD_cons_zero, List.getD_cons_succ, bsliceV, buildV, afill, repl, chunk, rvs, AV.rv, RV.nrm, List.getElem?_nil, List.append_assoc, Nat.reduceMul, Nat.reducePow, Nat.zero_lt_succ, Nat.zero_add, Nat.add_zero, List.length_cons, List.length_nil, Nat.reduceLeDiff, Nat.le_refl, List.take_succ_cons, List.take_zero, List.drop_succ_cons, List.drop_zero, indexV, lenV, rowOf_mapD, rowOf_mapI, rowOf_mapA, List.length_map, Int.toNat_natCast, List.getElem?_cons_zero, List.getElem?_cons_succ, and_self, implies_true, if_true, if_false, HQ_zn, HQ_zr, HQ_wn, HQ_wr, AV.nz, AV.nzL, RV.nrm, SEbin, SEnil, nilK, srcV, dstV, appName, List.length_append, Nat.mul_one, take_map_len, take_map_app, List.getElem?_cons_zero, List.map_append, SEmkmap, SEmset, mgetV, kvOf, getM, setM, c10, r10, v10_1, v10_2, u10_3, u10_4, u10_5, u10_6, u10_7, u10_8, v10_9, v10_10, v10_11, u10_12, u10_13, v10_14, v10_15, m10_15, u10_16, u10_17, u10_18, u10_19, u10_20, u10_21, u10_22, u10_23, u10_24, ty58, ty3, ty33, ty32, ty37, ty36, ty5, aokB, aokD, aokA, ↓eyO_allN, ↓eyO_kill, eyO, prEta, RecD.raw, rcS_0, rcL_0]) | (with_reducible refine And.intro ?_ ?_) | (refine call_e0 (d := some 27) (by omega) e25 ( rec_L) rfl ?_ ?_ hbb ?_ ?_ ?_ ?_ ?_) | (refine call_e1 (d := some 27) (by omega) e25 ( rec_L) rfl ?_ ?_ hbb ?_ ?_ ?_ ?_ ?_) | (refine call_e2 (d := some 27) (by omega) e25 ( rec_L) rfl ?_ ?_ hbb ?_ ?_ ?_ ?_ ?_) | (refine loop_nat ((takN (b, 0) 1).toNat) (fun k => rcC (b, 0) ((takN (b, 0) 1).toNat - k) k = M) (fun k => [(5, I (takN (b, 0) 1)), (7, I k), (0, .d (.ro (b.map by_))), (4, .lp (B + 11) 0), (6, .os (B + 59) (rcL (b, 0) k).length)]) (fun k => [(B + 59, .arr 29 32 ((rcL (b, 0) k).map RecD.rowR)), (B + 11, eyO b (rcS (b, 0) k).1 (rcS (b, 0) k).2)]) ?_ (Wk.trans (Wk.nameF (s := 6) (n := B + 59) (k := 29) (E := 32) rfl (by omega) (.inl (by omega)) (fun m => AO.kill_below (q := fun m => decide (m < B)) (by simp) _ (hcl m).1)) (Wk.keep hcl ?_ ?_ ?_)) fun k hk hF => ?_; rotate_left 1; (focus (simp [Fr.get, newF, Fr.map, AV.kill, AV.mapN, aokB, aokD, aokA, ↓eyO_allN, ↓eyO_kill, eyO, prEta, RecD.raw, rcS_0, rcL_0] <;> fail)); (focus (simp [sto, newL, Loc.kill, Loc.set, AO.kill, AV.kill, AV.mapN, aokB, aokD, aokA, ↓eyO_allN, ↓eyO_kill, eyO, prEta, RecD.raw, rcS_0, rcL_0] <;> fail)); (focus (simp [newL, Loc.kill, Loc.set, aokB, aokD, aokA, ↓eyO_allN, ↓eyO_kill, eyO, prEta, RecD.raw, rcS_0, rcL_0] <;> fail)); (try have hw : IntKind.i64.wrap ((k : Int) + 1) = (k : Int) + 1 := IntWalk.i64_in _ (by omega))) | (refine EndX.plain ?_) | (refine nil_split (fun hn => ?_) (fun hn => ?_)) | (refine gcall_no not_false ?_) | (refine gdcall_no not_false ?_) | (refine GuardS_of _ _ _ _ _ _ (fun hg => ?_) (fun hg => ?_)) | (refine GuardD_of _ _ _ _ (fun hg => ?_) (fun hg => ?_)) | (refine CondB_of _ _ _ _ _ _ _ ?_ (fun hg => ?_) (fun hg => ?_)))
  all_goals first
    | (intro p hp; simp only [List.mem_cons, List.not_mem_nil, or_false] at hp; rcases hp with rfl | rfl <;> simp; done)
    | (intro p hp; simp only [List.mem_cons, List.not_mem_nil, or_false] at hp; subst hp; simp; done)
    | (intro p hp; cases hp; done)
    | (exact .inl (by decide))
    | exact rcS_suf (b, 0) _
    | trivial
    | (unfold Fr.below; simp [Fr.allN, AV.allN, AV.allNL]; done)
    | (unfold noN; simp [Fr.allN, AV.allN, AV.allNL, AO.allN]; done)
    | (unfold Loc.below; simp [AO.allN, AV.allN, AV.allNL]; done)
    | (unfold Loc.below; simp only [List.all_cons, List.all_nil, eyO_allN]; simp [AO.allN, AV.allN, AV.allNL]; done)
    | (have hgt := of_decide_eq_true (by assumption : decide ((k : Int) < takN (b, 0) 1) = true)
       have h0 := (by assumption : ((rcS (b, 0) k).2 == 0) = true)
       have hlt : k < (takN (b, 0) 1).toNat := by omega
       first
       | exact hlt
       | exact rcC_go hF hlt h0
       | (rw [rcL_len]; omega)
       | (rw [show (k : Int) + 1 = ((k + 1 : Nat) : Int) by omega, ← rcS_next, ← rcL_next, List.map_append, List.length_append]
          refine Wk.keep hcl ?_ ?_ ?_ <;> simp [Fr.get, sto, eyO, RecD.rowR, RecD.cl, RecD.row, ints]
          cases (recN (rcS (b, 0) k)).kind == 4 <;> cases (recN (rcS (b, 0) k)).kind == 11 <;> cases (recN (rcS (b, 0) k)).kind == 8 <;> exact ⟨rfl, rfl, rfl⟩))
    | (have hk3 : k = M := by
         first
         | (have hle := of_decide_eq_false (by assumption : decide ((k : Int) < takN (b, 0) 1) = false)
            exact rcC_end hF (by omega))
         | exact rcC_no hF (by assumption)
       have hE : endE (rcS (b, 0) k) = decE b := by unfold decE; rw [hM2, ← hk3]
       first
       | exact dec_no (by rw [← hE]; exact endE_a (by assumption)) (by rw [(by assumption : ((rcS (b, 0) k).2 == 0) = false)]; rfl)
       | exact dec_no (by rw [← hE]; exact endE_b (by assumption) (by assumption)) rfl
       | exact dec_ok (by rw [← hE, endE_c (by assumption) (by assumption)]; rfl) (by unfold decL; rw [hM2, ← hk3]))
end Go.Proofs.YtijpmidnclbhpaaDoor
