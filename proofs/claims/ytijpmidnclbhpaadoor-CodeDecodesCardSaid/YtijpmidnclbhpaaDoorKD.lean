/- code.Decode. -/
import Derived.Test.YtijpmidnclbhpaaDoorKRR
import Derived.Test.YtijpmidnclbhpaaDoorKD0
import Derived.Test.YtijpmidnclbhpaaDoorBytes
import Derived.Test.YtijpmidnclbhpaaDoorTypes
namespace Go.Proofs.YtijpmidnclbhpaaDoor
open Go.RowKit
set_option maxRecDepth 100000
def o23_1 : List SO := ((SO.mk (some 15) (.pick (.tmp 8) (.tmp 14) (.const (Value.bool false))) none) :: [])
theorem v23_1 : type_of% (@swl _ _ o23_1.eq_1) := @swl _ _ o23_1.eq_1
def o23_2 : List SO := ((SO.mk (some 11) (.faddr 52 (.tmp 10) 0) (some (8 , true))) :: (SO.mk (some 12) (.load 36 (.tmp 11)) (some (8 , true))) :: (SO.mk (some 13) (.len 36 (.tmp 12)) (some (8 , true))) :: (SO.mk (some 14) (.bin .gtr 3 (.tmp 13) (.const (Value.int .i64 0))) (some (8 , true))) :: o23_1)
theorem v23_2 : type_of% (@swl _ _ o23_2.eq_1) := @swl _ _ o23_2.eq_1
def o23_3 : List SO := ((SO.mk (some 7) (.bin .eql 33 (.tmp 6) (.const (Value.int .i64 0))) none) :: (SO.mk (some 8) (.move (.tmp 7)) none) :: (SO.mk (some 9) (.move (.tmp 0)) (some (8 , true))) :: (SO.mk (some 10) (.nilCheck (.tmp 9)) (some (8 , true))) :: o23_2)
theorem v23_3 : type_of% (@swl _ _ o23_3.eq_1) := @swl _ _ o23_3.eq_1
def c23_4 : SC := (.reg [SO.mk (some 16) (.move (.tmp 0)) none, SO.mk (some 17) (.nilCheck (.tmp 16)) none, SO.mk (some 18) (.faddr 52 (.tmp 17) 1) none, SO.mk none (.store 33 (.tmp 18) (.const (Value.int .i64 4))) none])
theorem u23_4 : type_of% (@swc _ _ c23_4.eq_1) := @swc _ _ c23_4.eq_1
def c23_5 : SC := (.cond (.tmp 15) c23_4 .skip)
theorem u23_5 : type_of% (@swc _ _ c23_5.eq_1) := @swc _ _ c23_5.eq_1
def c23_6 : SC := (.seq (.reg [SO.mk (some 19) (.move (.tmp 0)) none, SO.mk (some 20) (.nilCheck (.tmp 19)) none, SO.mk (some 21) (.faddr 52 (.tmp 20) 1) none, SO.mk (some 22) (.load 33 (.tmp 21)) none, SO.mk (some 2) (.move (.tmp 22)) none]) (.keep [2] .ret))
theorem u23_6 : type_of% (@swc _ _ c23_6.eq_1) := @swc _ _ c23_6.eq_1
def c23_7 : SC := (.seq (.seq (.reg ((SO.mk (some 3) (.move (.tmp 0)) none) :: (SO.mk (some 4) (.nilCheck (.tmp 3)) none) :: (SO.mk (some 5) (.faddr 52 (.tmp 4) 1) none) :: (SO.mk (some 6) (.load 33 (.tmp 5)) none) :: o23_3)) (.keep [15, 0] c23_5)) (.keep [0] c23_6))
theorem u23_7 : type_of% (@swc _ _ c23_7.eq_1) := @swc _ _ c23_7.eq_1
def c23 : SC := (.seq (.reg [SO.mk (some 2) (.move (.const (Value.int .i64 0))) none]) (.keep [0] c23_7))
theorem c23_eq : annC Tryd.f23 = some c23 := by kernel_rfl
theorem r23 : Tryd.f23.results.toList = [.tmp 2] := by kernel_rfl
theorem e23 : enters Tryd.prog 23 = true := by kernel_rfl
def o8_1 : List SO := ((SO.mk (some 22) (.pick (.tmp 16) (.tmp 21) (.const (Value.bool false))) none) :: [])
theorem v8_1 : type_of% (@swl _ _ o8_1.eq_1) := @swl _ _ o8_1.eq_1
def o8_2 : List SO := ((SO.mk (some 18) (.nilCheck (.tmp 17)) (some (16 , true))) :: (SO.mk (some 19) (.faddr 52 (.tmp 18) 1) (some (16 , true))) :: (SO.mk (some 20) (.load 33 (.tmp 19)) (some (16 , true))) :: (SO.mk (some 21) (.bin .eql 33 (.tmp 20) (.const (Value.int .i64 0))) (some (16 , true))) :: o8_1)
theorem v8_2 : type_of% (@swl _ _ o8_2.eq_1) := @swl _ _ o8_2.eq_1
def c8_3 : SC := (.cond (.tmp 22) .skip (.exit 0))
theorem u8_3 : type_of% (@swc _ _ c8_3.eq_1) := @swc _ _ c8_3.eq_1
def o8_4 : List SO := ((SO.mk (some 29) (.app 37 37 (.tmp 25) (.tmp 28)) none) :: (SO.mk (some 5) (.move (.tmp 29)) none) :: [])
theorem v8_4 : type_of% (@swl _ _ o8_4.eq_1) := @swl _ _ o8_4.eq_1
def c8_5 : SC := (.reg [SO.mk (some 23) (.move (.tmp 6)) none, SO.mk (some 24) (.bin .sub 3 (.tmp 23) (.const (Value.int .i64 1))) none, SO.mk (some 6) (.move (.tmp 24)) none])
theorem u8_5 : type_of% (@swc _ _ c8_5.eq_1) := @swc _ _ c8_5.eq_1
def c8_6 : SC := (.seq (.block 1 (.reg ((SO.mk (some 25) (.move (.tmp 5)) none) :: (SO.mk (some 26) (.move (.tmp 4)) none) :: (SO.mk (some 27) (.call 22 [(.tmp 26)]) none) :: (SO.mk (some 28) (.bslice 37 1 [(0 , (.tmp 27))]) none) :: o8_4))) (.keep [6, 4, 5] c8_5))
theorem u8_6 : type_of% (@swc _ _ c8_6.eq_1) := @swc _ _ c8_6.eq_1
def c8_7 : SC := (.seq (.seq (.reg ((SO.mk (some 14) (.move (.tmp 6)) none) :: (SO.mk (some 15) (.bin .gtr 3 (.tmp 14) (.const (Value.int .i64 0))) none) :: (SO.mk (some 16) (.move (.tmp 15)) none) :: (SO.mk (some 17) (.move (.tmp 4)) (some (16 , true))) :: o8_2)) (.keep [22, 6, 4, 5] c8_3)) (.keep [5, 6, 4] c8_6))
theorem u8_7 : type_of% (@swc _ _ c8_7.eq_1) := @swc _ _ c8_7.eq_1
def c8_8 : SC := (.block 0 (.loop (.keep [6, 4, 5] c8_7)))
theorem u8_8 : type_of% (@swc _ _ c8_8.eq_1) := @swc _ _ c8_8.eq_1
def c8_9 : SC := (.seq (.reg [SO.mk (some 34) (.move (.tmp 7)) none, SO.mk (some 2) (.move (.const (Value.slice none 0 0))) none, SO.mk (some 3) (.move (.tmp 34)) none]) (.keep [2, 3] .ret))
theorem u8_9 : type_of% (@swc _ _ c8_9.eq_1) := @swc _ _ c8_9.eq_1
def c8_10 : SC := (.cond (.tmp 33) c8_9 .skip)
theorem u8_10 : type_of% (@swc _ _ c8_10.eq_1) := @swc _ _ c8_10.eq_1
def c8_11 : SC := (.seq (.reg [SO.mk (some 32) (.move (.tmp 7)) none, SO.mk (some 33) (.bin .neq 33 (.tmp 32) (.const (Value.int .i64 0))) none]) (.keep [33, 7, 5] c8_10))
theorem u8_11 : type_of% (@swc _ _ c8_11.eq_1) := @swc _ _ c8_11.eq_1
def c8_12 : SC := (.seq (.reg [SO.mk (some 35) (.move (.tmp 5)) none, SO.mk (some 2) (.move (.tmp 35)) none, SO.mk (some 3) (.move (.const (Value.int .i64 0))) none]) (.keep [2, 3] .ret))
theorem u8_12 : type_of% (@swc _ _ c8_12.eq_1) := @swc _ _ c8_12.eq_1
def c8_13 : SC := (.seq (.seq (.reg [SO.mk (some 30) (.move (.tmp 4)) none, SO.mk (some 31) (.call 23 [(.tmp 30)]) none, SO.mk (some 7) (.move (.tmp 31)) none]) (.keep [7, 5] c8_11)) (.keep [5] c8_12))
theorem u8_13 : type_of% (@swc _ _ c8_13.eq_1) := @swc _ _ c8_13.eq_1
def c8_14 : SC := (.seq (.seq (.reg [SO.mk (some 12) (.move (.tmp 4)) none, SO.mk (some 13) (.call 21 [(.tmp 12), (.const (Value.int .i64 1))]) none, SO.mk (some 6) (.move (.tmp 13)) none]) (.keep [6, 4, 5] c8_8)) (.keep [4, 5] c8_13))
theorem u8_14 : type_of% (@swc _ _ c8_14.eq_1) := @swc _ _ c8_14.eq_1
def c8_15 : SC := (.seq (.reg [SO.mk (some 5) (.move (.const (Value.slice none 0 0))) none]) (.keep [4, 5] c8_14))
theorem u8_15 : type_of% (@swc _ _ c8_15.eq_1) := @swc _ _ c8_15.eq_1
def c8_16 : SC := (.seq (.reg [SO.mk (some 8) (.move (.tmp 0)) none, SO.mk (some 9) (.call 20 [(.tmp 8)]) none, SO.mk (some 10) (.build 52 [(0 , (.tmp 9))]) none, SO.mk (some 11) (.box 52 (.tmp 10)) none, SO.mk (some 4) (.move (.tmp 11)) none]) (.keep [4] c8_15))
theorem u8_16 : type_of% (@swc _ _ c8_16.eq_1) := @swc _ _ c8_16.eq_1
def c8 : SC := (.seq (.reg [SO.mk (some 2) (.move (.const (Value.slice none 0 0))) none, SO.mk (some 3) (.move (.const (Value.int .i64 0))) none]) (.keep [0] c8_16))
theorem c8_eq : annC Tryd.f8 = some c8 := by kernel_rfl
theorem r8 : Tryd.f8.results.toList = [.tmp 2, .tmp 3] := by kernel_rfl
theorem e8 : enters Tryd.prog 8 = true := by kernel_rfl
end Go.Proofs.YtijpmidnclbhpaaDoor
namespace Go.Proofs.YtijpmidnclbhpaaDoor
open Go.RowKit
set_option maxHeartbeats 4000000
set_option maxRecDepth 20000
attribute [local irreducible] SW SWL SWLn SWD SEcall SEcallv SDv SE SO1 SOg ACalls ACallv Wk EndV
set_option linter.unusedSimpArgs false
set_option linter.unusedVariables false
attribute [local irreducible] takS textS bitS intsS takN textN bitN intsN ruleS askS partS verS recN recS
theorem end_R  : Reads Tryd.prog 23 [] (fun s => I (endE s)) (fun s => (s.1, endE s)) (fun s => True) := by
  intro B σ n b e hn hσ hp
  refine own_ofL [(n, rdO b e)] (hid1_sto hσ) hid1_closed follows Tryd.func23 c23_eq r23 (Nat.le_of_ble_eq_true rfl) fun hcl hsz => ?_
  clear hsz
  have y1 : ∀ s, (n = B + s) = False := fun s => by simp; omega
  have y2 : ∀ s, (B + s = n) = False := fun s => by simp; omega
  have y3 : (n < B) = True := eq_true hn
  have y4 : decide (n < B) = true := by simpa using hn
  have y5 : decide (n < B + 100000) = true := by simp; omega
  have hb1 : endE (b, e) = bif e == 0 && decide ((b.length : Int) > 0) then 4 else e := rfl
  clear hσ
  repeat' (first | (simp -implicitDefEqProofs only [*, contN, contC, Nat.reduceBEq, Bool.or_false, Bool.or_true, Bool.false_or, Bool.true_or, Bool.not_true, Bool.not_false, w_skip, w_ret, w_exit, w_reg, w_dreg, w_seq, SK_n, SK_r, SK_x, w_keep, w_block, w_cond, w_nil, w_cons, w_consg, w_nnil, w_ncons, w_dnil, w_dcons, w_dconsg, HK_app, HD_app, HQ_n, HQ_r, HQ_x, HQ_bn, HQ_br, HQ_bx, HQ_en, HQ_er, HQ_ex, CondB_true, CondB_false, SO1, w_sdv, SDe_alloc, SDe_box, SDe_bslice, SDe_app, true_imp_iff, false_imp_iff, and_false, false_and, not_false_eq_true, not_true_eq_false, addN, mkNames, killT, killD, killO, List.foldl_nil, List.foldl_cons, List.append_nil, List.nil_append, List.cons_append, GuardS_true, GuardS_false, GuardD_true, GuardD_false, DK_true, DK_false, lt_self_add, le_self_add, decide_true, decide_false, Bool.false_eq_true, Bool.true_eq_false, Nat.add_left_cancel_iff, SE, SEalloc, SEbox, SEstore, w_bs, SEbl, SEfz, SEbs0, fzName, osOf, AV.fz1, w_app, w_mk, aev, opd, Fr.get, putO, Fr.norm, List.map_cons, List.map_nil, with1, with2, onInt, AV.lit, entry, ↓reduceIte, Nat.reduceEqDiff, Nat.reduceAdd, reduceCtorEq, true_and, and_true, Option.map_some, Option.map_none, Option.bind_some, Option.bind_none, cond_true, cond_false, binV, unV, fieldV, loadV, sto, cellsAV, newF, newL, Fr.map, Loc.kill, Loc.set, AV.kill, AV.mapN, AV.mapNL, List.filter_nil, List.filter_cons, allP, EndV, retV, resV, resL, frz, dropL, AV.pick, nilV, tupV, imp_self, ne_eq, Int.cast_ofNat_Int, Int.reduceLT, Int.reduceToNat, List.getD_cons_zero, List.getD_cons_succ, bsliceV, buildV, afill, repl, chunk, rvs, AV.rv, RV.nrm, List.getElem?_nil, List.append_assoc, Nat.reduceMul, Nat.reducePow, Nat.zero_lt_succ, Nat.zero_add, Nat.add_zero, List.length_cons, List.length_nil, Nat.reduceLeDiff, Nat.le_refl, List.take_succ_cons, List.take_zero, List.drop_succ_cons, List.drop_zero, indexV, lenV, rowOf_mapD, rowOf_mapI, rowOf_mapA, List.length_map, Int.toNat_natCast, List.getElem?_cons_zero, List.getElem?_cons_succ, and_self, implies_true, if_true, if_false, HQ_zn, HQ_zr, HQ_wn, HQ_wr, AV.nz, AV.nzL, RV.nrm, SEbin, SEnil, nilK, srcV, dstV, appName, List.length_append, Nat.mul_one, take_map_len, take_map_app, List.getElem?_cons_zero, List.map_append, SEmkmap, SEmset, mgetV, kvOf, getM, setM, c23, r23, v23_1, v23_2, v23_3, u23_4, u23_5, u23_6, u23_7, ty52, ty33, ty36, ty3, ty5, aokB, aokD, aokA, ↓rdO_allN, ↓rdO_kill, y1, y2, y3, y4, y5, rdO, prEta]) | (with_reducible refine And.intro ?_ ?_) | (refine EndX.plain ?_) | (refine nil_split (fun hn => ?_) (fun hn => ?_)) | (refine gcall_no not_false ?_) | (refine gdcall_no not_false ?_) | (refine GuardS_of _ _ _ _ _ _ (fun hg => ?_) (fun hg => ?_)) | (refine GuardD_of _ _ _ _ (fun hg => ?_) (fun hg => ?_)) | (refine CondB_of _ _ _ _ _ _ _ ?_ (fun hg => ?_) (fun hg => ?_)))
  all_goals first
    | (intro p hp; simp only [List.mem_cons, List.not_mem_nil, or_false] at hp; rcases hp with rfl | rfl <;> simp [y2]; done)
    | (intro p hp; simp only [List.mem_cons, List.not_mem_nil, or_false] at hp; subst hp; simp [y2]; done)
    | (intro p hp; cases hp; done)
    | (exact .inl (by decide))
    | trivial
    | (unfold Fr.below; simp [Fr.allN, AV.allN, AV.allNL, y5]; done)
    | (unfold Loc.below; simp only [List.all_cons, List.all_nil, rdO_allN, y5]; simp [AO.allN, AV.allN, AV.allNL]; done)
    | (refine rd_end ?_ ?_
       · simp [List.map_cons]
       · intro x z1; simp [z1, hid1])
theorem decode_p (b : List UInt8) : Pure Tryd.prog 8 [.d (bytes b)] (decV b) := by
  refine pureZ_of follows Tryd.func8 c8_eq r8 (Nat.le_of_ble_eq_true rfl) fun B σ hcl hsz => ?_
  clear hsz
  have hx0 := (takN_1 (b, 0)).1
  have hx1 := (takN_1 (b, 0)).2
  obtain ⟨M, hM⟩ : ∃ M, rcC (b, 0) ((takN (b, 0) 1).toNat - 0) 0 = M := ⟨_, rfl⟩
  have hM2 : rcM (b, 0) = M := hM
  have hf : AO.box [.d (.ro (b.map by_)), I 0] = rdO b 0 := rfl
  have hne : ∀ x : RdS, (endE x != 0) = !(endE x == 0) := fun _ => rfl
  repeat' (first | (simp -implicitDefEqProofs only [*, contN, contC, Nat.reduceBEq, Bool.or_false, Bool.or_true, Bool.false_or, Bool.true_or, Bool.not_true, Bool.not_false, w_skip, w_ret, w_exit, w_reg, w_dreg, w_seq, SK_n, SK_r, SK_x, w_keep, w_block, w_cond, w_nil, w_cons, w_consg, w_nnil, w_ncons, w_dnil, w_dcons, w_dconsg, HK_app, HD_app, HQ_n, HQ_r, HQ_x, HQ_bn, HQ_br, HQ_bx, HQ_en, HQ_er, HQ_ex, CondB_true, CondB_false, SO1, w_sdv, SDe_alloc, SDe_box, SDe_bslice, SDe_app, true_imp_iff, false_imp_iff, and_false, false_and, not_false_eq_true, not_true_eq_false, addN, mkNames, killT, killD, killO, List.foldl_nil, List.foldl_cons, List.append_nil, List.nil_append, List.cons_append, GuardS_true, GuardS_false, GuardD_true, GuardD_false, DK_true, DK_false, lt_self_add, le_self_add, decide_true, decide_false, Bool.false_eq_true, Bool.true_eq_false, Nat.add_left_cancel_iff, SE, SEalloc, SEbox, SEstore, w_bs, SEbl, SEfz, SEbs0, fzName, osOf, AV.fz1, w_app, w_mk, aev, opd, Fr.get, putO, Fr.norm, List.map_cons, List.map_nil, with1, with2, onInt, AV.lit, entry, ↓reduceIte, Nat.reduceEqDiff, Nat.reduceAdd, reduceCtorEq, true_and, and_true, Option.map_some, Option.map_none, Option.bind_some, Option.bind_none, cond_true, cond_false, binV, unV, fieldV, loadV, sto, cellsAV, newF, newL, Fr.map, Loc.kill, Loc.set, AV.kill, AV.mapN, AV.mapNL, List.filter_nil, List.filter_cons, allP, EndV, retV, resV, resL, frz, dropL, AV.pick, nilV, tupV, imp_self, ne_eq, Int.cast_ofNat_Int, Int.reduceLT, Int.reduceToNat, List.getD_cons_zero, List.getD_cons_succ, bsliceV, buildV, afill, repl, chunk, rvs, AV.rv, RV.nrm, List.getElem?_nil, List.append_assoc, Nat.reduceMul, Nat.reducePow, Nat.zero_lt_succ, Nat.zero_add, Nat.add_zero, List.length_cons, List.length_nil, Nat.reduceLeDiff, Nat.le_refl, List.take_succ_cons, List.take_zero, List.drop_succ_cons, List.drop_zero, indexV, lenV, rowOf_mapD, rowOf_mapI, rowOf_mapA, List.length_map, Int.toNat_natCast, List.getElem?_cons_zero, List.getElem?_cons_succ, and_self, implies_true, if_true, if_false, HQ_zn, HQ_zr, HQ_wn, HQ_wr, AV.nz, AV.nzL, RV.nrm, SEbin, SEnil, nilK, srcV, dstV, appName, List.length_append, Nat.mul_one, take_map_len, take_map_app, List.getElem?_cons_zero, List.map_append, SEmkmap, SEmset, mgetV, kvOf, getM, setM, c8, r8, v8_1, v8_2, u8_3, v8_4, u8_5, u8_6, u8_7, u8_8, u8_9, u8_10, u8_11, u8_12, u8_13, u8_14, u8_15, u8_16, ty52, ty3, ty33, ty37, ty32, aokB, aokD, aokA, ↓rdO_allN, ↓rdO_kill, bytes, prEta]) | (with_reducible refine And.intro ?_ ?_) | (refine call_ro e20 ( clone_p b) rfl ?_ ?_ ?_ ?_) | (refine gcall_ro e20 ( clone_p b) rfl ?_ ?_ ?_ ?_) | (refine dcall_ro e20 ( clone_p b) rfl ?_ ?_ ?_ ?_) | (refine gdcall_ro rfl e20 ( clone_p b) rfl ?_ ?_ ?_ ?_) | (refine call_r0 (d := some 13) (by omega) e21 ( take_R 1) rfl ?_ ?_ ?_ ?_ ?_ ?_) | (refine call_r1 (d := some 13) (by omega) e21 ( take_R 1) rfl ?_ ?_ ?_ ?_ ?_ ?_) | (refine call_r2 (d := some 13) (by omega) e21 ( take_R 1) rfl ?_ ?_ ?_ ?_ ?_ ?_) | (refine EndX.plain ?_) | (refine nil_split (fun hn => ?_) (fun hn => ?_)) | (refine gcall_no not_false ?_) | (refine gdcall_no not_false ?_) | (refine GuardS_of _ _ _ _ _ _ (fun hg => ?_) (fun hg => ?_)) | (refine GuardD_of _ _ _ _ (fun hg => ?_) (fun hg => ?_)) | (refine CondB_of _ _ _ _ _ _ _ ?_ (fun hg => ?_) (fun hg => ?_)))
  all_goals (try clear hf)
  repeat' (first | (simp -implicitDefEqProofs only [*, contN, contC, Nat.reduceBEq, Bool.or_false, Bool.or_true, Bool.false_or, Bool.true_or, Bool.not_true, Bool.not_false, w_skip, w_ret, w_exit, w_reg, w_dreg, w_seq, SK_n, SK_r, SK_x, w_keep, w_block, w_cond, w_nil, w_cons, w_consg, w_nnil, w_ncons, w_dnil, w_dcons, w_dconsg, HK_app, HD_app, HQ_n, HQ_r, HQ_x, HQ_bn, HQ_br, HQ_bx, HQ_en, HQ_er, HQ_ex, CondB_true, CondB_false, SO1, w_sdv, SDe_alloc, SDe_box, SDe_bslice, SDe_app, true_imp_iff, false_imp_iff, and_false, false_and, not_false_eq_true, not_true_eq_false, addN, mkNames, killT, killD, killO, List.foldl_nil, List.foldl_cons, List.append_nil, List.nil_append, List.cons_append, GuardS_true, GuardS_false, GuardD_true, GuardD_false, DK_true, DK_false, lt_self_add, le_self_add, decide_true, decide_false, Bool.false_eq_true, Bool.true_eq_false, Nat.add_left_cancel_iff, SE, SEalloc, SEbox, SEstore, w_bs, SEbl, SEfz, SEbs0, fzName, osOf, AV.fz1, w_app, w_mk, aev, opd, Fr.get, putO, Fr.norm, List.map_cons, List.map_nil, with1, with2, onInt, AV.lit, entry, ↓reduceIte, Nat.reduceEqDiff, Nat.reduceAdd, reduceCtorEq, true_and, and_true, Option.map_some, Option.map_none, Option.bind_some, Option.bind_none, cond_true, cond_false, binV, unV, fieldV, loadV, sto, cellsAV, newF, newL, Fr.map, Loc.kill, Loc.set, AV.kill, AV.mapN, AV.mapNL, List.filter_nil, List.filter_cons, allP, EndV, retV, resV, resL, frz, dropL, AV.pick, nilV, tupV, imp_self, ne_eq, Int.cast_ofNat_Int, Int.reduceLT, Int.reduceToNat, List.getD_cons_zero, List.getD_cons_succ, bsliceV, buildV, afill, repl, chunk, rvs, AV.rv, RV.nrm, List.getElem?_nil, List.append_assoc, Nat.reduceMul, Nat.reducePow, Nat.zero_lt_succ, Nat.zero_add, Nat.add_zero, List.length_cons, List.length_nil, Nat.reduceLeDiff, Nat.le_refl, List.take_succ_cons, List.take_zero, List.drop_succ_cons, List.drop_zero, indexV, lenV, rowOf_mapD, rowOf_mapI, rowOf_mapA, List.length_map, Int.toNat_natCast, List.getElem?_cons_zero, List.getElem?_cons_succ, and_self, implies_true, if_true, if_false, HQ_zn, HQ_zr, HQ_wn, HQ_wr, AV.nz, AV.nzL, RV.nrm, SEbin, SEnil, nilK, srcV, dstV, appName, List.length_append, Nat.mul_one, take_map_len, take_map_app, List.getElem?_cons_zero, List.map_append, SEmkmap, SEmset, mgetV, kvOf, getM, setM, c8, r8, v8_1, v8_2, u8_3, v8_4, u8_5, u8_6, u8_7, u8_8, u8_9, u8_10, u8_11, u8_12, u8_13, u8_14, u8_15, u8_16, ty52, ty3, ty33, ty37, ty32, aokB, aokD, aokA, ↓rdO_allN, ↓rdO_kill, rdO, prEta, RecD.raw, rcS_0, rcL_0]) | (with_reducible refine And.intro ?_ ?_) | (refine call_r0 (d := some 27) (by omega) e22 ( rec_R) rfl ?_ ?_ ?_ ?_ ?_ ?_) | (refine call_r1 (d := some 27) (by omega) e22 ( rec_R) rfl ?_ ?_ ?_ ?_ ?_ ?_) | (refine call_r2 (d := some 27) (by omega) e22 ( rec_R) rfl ?_ ?_ ?_ ?_ ?_ ?_) | (refine call_r0 (d := some 31) (by omega) e23 ( end_R) rfl ?_ ?_ ?_ ?_ ?_ ?_) | (refine call_r1 (d := some 31) (by omega) e23 ( end_R) rfl ?_ ?_ ?_ ?_ ?_ ?_) | (refine call_r2 (d := some 31) (by omega) e23 ( end_R) rfl ?_ ?_ ?_ ?_ ?_ ?_) | (refine loop_nat ((takN (b, 0) 1).toNat) (fun k => rcC (b, 0) ((takN (b, 0) 1).toNat - k) k = M) (fun k => [(4, .lp (B + 11) 0), (6, I (takN (b, 0) 1 - k)), (5, .os (B + 36) (rcL (b, 0) k).length)]) (fun k => [(B + 36, .arr 29 32 ((rcL (b, 0) k).map RecD.rowR)), (B + 11, rdO (rcS (b, 0) k).1 (rcS (b, 0) k).2)]) ?_ (Wk.trans (Wk.nameF (s := 5) (n := B + 36) (k := 29) (E := 32) rfl (by omega) (.inl (by omega)) (fun m => AO.kill_below (q := fun m => decide (m < B)) (by simp) _ (hcl m).1)) (Wk.keep hcl ?_ ?_ ?_)) fun k hk hF => ?_; rotate_left 1; (focus (simp [Fr.get, newF, Fr.map, AV.kill, AV.mapN, aokB, aokD, aokA, ↓rdO_allN, ↓rdO_kill, rdO, prEta, RecD.raw, rcS_0, rcL_0] <;> fail)); (focus (simp [sto, newL, Loc.kill, Loc.set, AO.kill, AV.kill, AV.mapN, aokB, aokD, aokA, ↓rdO_allN, ↓rdO_kill, rdO, prEta, RecD.raw, rcS_0, rcL_0] <;> fail)); (focus (simp [newL, Loc.kill, Loc.set, aokB, aokD, aokA, ↓rdO_allN, ↓rdO_kill, rdO, prEta, RecD.raw, rcS_0, rcL_0] <;> fail)); (try have hw : IntKind.i64.wrap ((k : Int) + 1) = (k : Int) + 1 := IntWalk.i64_in _ (by omega))) | (refine EndX.plain ?_) | (refine nil_split (fun hn => ?_) (fun hn => ?_)) | (refine gcall_no not_false ?_) | (refine gdcall_no not_false ?_) | (refine GuardS_of _ _ _ _ _ _ (fun hg => ?_) (fun hg => ?_)) | (refine GuardD_of _ _ _ _ (fun hg => ?_) (fun hg => ?_)) | (refine CondB_of _ _ _ _ _ _ _ ?_ (fun hg => ?_) (fun hg => ?_)))
  all_goals first
    | (intro p hp; simp only [List.mem_cons, List.not_mem_nil, or_false] at hp; rcases hp with rfl | rfl <;> simp; done)
    | (intro p hp; simp only [List.mem_cons, List.not_mem_nil, or_false] at hp; subst hp; simp; done)
    | (intro p hp; cases hp; done)
    | (exact .inl (by decide))
    | trivial
    | (unfold Fr.below; simp [Fr.allN, AV.allN, AV.allNL]; done)
    | (unfold noN; simp [Fr.allN, AV.allN, AV.allNL, AO.allN]; done)
    | (unfold Loc.below; simp [AO.allN, AV.allN, AV.allNL]; done)
    | (unfold Loc.below; simp only [List.all_cons, List.all_nil, rdO_allN]; simp [AO.allN, AV.allN, AV.allNL]; done)
    | (have hgt := of_decide_eq_true (by assumption : decide (takN (b, 0) 1 - (k : Int) > 0) = true)
       have h0 := (by assumption : ((rcS (b, 0) k).2 == 0) = true)
       have hlt : k < (takN (b, 0) 1).toNat := by omega
       first
       | exact hlt
       | exact rcC_go hF hlt h0
       | (rw [rcL_len]; omega)
       | (rw [IntWalk.i64_in (takN (b, 0) 1 - (k : Int) - 1) (by omega), show takN (b, 0) 1 - (k : Int) - 1 = takN (b, 0) 1 - ((k + 1 : Nat) : Int) by omega, ← rcS_next, ← rcL_next, List.map_append, List.length_append]
          refine Wk.keep hcl ?_ ?_ ?_ <;> simp [Fr.get, sto, rdO, RecD.rowR, RecD.cl, RecD.row, ints]
          cases (recN (rcS (b, 0) k)).kind == 4 <;> cases (recN (rcS (b, 0) k)).kind == 11 <;> cases (recN (rcS (b, 0) k)).kind == 8 <;> exact ⟨rfl, rfl, rfl⟩))
    | (have hk3 : k = M := by
         first
         | (have hle := of_decide_eq_false (by assumption : decide (takN (b, 0) 1 - (k : Int) > 0) = false)
            exact rcC_end hF (by omega))
         | exact rcC_no hF (by assumption)
       have hE : endE (rcS (b, 0) k) = decE b := by unfold decE; rw [hM2, ← hk3]
       first
       | exact dec_no hE.symm (by assumption)
       | exact dec_ok (by rw [← hE]; assumption) (by unfold decL; rw [hM2, ← hk3]))
end Go.Proofs.YtijpmidnclbhpaaDoor
