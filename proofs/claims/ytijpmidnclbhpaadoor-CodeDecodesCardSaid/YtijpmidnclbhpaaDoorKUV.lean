/- The reader's version. -/
import Derived.Test.YtijpmidnclbhpaaDoorKU
import Derived.Test.YtijpmidnclbhpaaDoorTypes
namespace Go.Proofs.YtijpmidnclbhpaaDoor
open Go.RowKit
set_option maxRecDepth 100000
def c39_1 : SC := (.seq (.reg [SO.mk (some 40) (.load 26 (.tmp 3)) none, SO.mk none (.store 26 (.tmp 2) (.tmp 40)) none]) (.keep [2] .ret))
theorem u39_1 : type_of% (@swc _ _ c39_1.eq_1) := @swc _ _ c39_1.eq_1
def c39_2 : SC := (.seq (.reg [SO.mk (some 37) (.move (.tmp 0)) none, SO.mk (some 38) (.call 21 [(.tmp 37), (.const (Value.int .i64 4))]) none, SO.mk (some 39) (.faddr 26 (.tmp 3) 11) none, SO.mk none (.store 3 (.tmp 39) (.tmp 38)) none]) (.keep [3, 2] c39_1))
theorem u39_2 : type_of% (@swc _ _ c39_2.eq_1) := @swc _ _ c39_2.eq_1
def c39_3 : SC := (.seq (.reg [SO.mk (some 34) (.move (.tmp 0)) none, SO.mk (some 35) (.call 21 [(.tmp 34), (.const (Value.int .i64 2))]) none, SO.mk (some 36) (.faddr 26 (.tmp 3) 10) none, SO.mk none (.store 3 (.tmp 36) (.tmp 35)) none]) (.keep [0, 3, 2] c39_2))
theorem u39_3 : type_of% (@swc _ _ c39_3.eq_1) := @swc _ _ c39_3.eq_1
def c39_4 : SC := (.seq (.reg [SO.mk (some 31) (.move (.tmp 0)) none, SO.mk (some 32) (.call 21 [(.tmp 31), (.const (Value.int .i64 1))]) none, SO.mk (some 33) (.faddr 26 (.tmp 3) 9) none, SO.mk none (.store 3 (.tmp 33) (.tmp 32)) none]) (.keep [0, 3, 2] c39_3))
theorem u39_4 : type_of% (@swc _ _ c39_4.eq_1) := @swc _ _ c39_4.eq_1
def c39_5 : SC := (.seq (.reg [SO.mk (some 28) (.move (.tmp 0)) none, SO.mk (some 29) (.call 42 [(.tmp 28)]) none, SO.mk (some 30) (.faddr 26 (.tmp 3) 8) none, SO.mk none (.store 24 (.tmp 30) (.tmp 29)) none]) (.keep [0, 3, 2] c39_4))
theorem u39_5 : type_of% (@swc _ _ c39_5.eq_1) := @swc _ _ c39_5.eq_1
def c39_6 : SC := (.seq (.reg [SO.mk (some 25) (.move (.tmp 0)) none, SO.mk (some 26) (.call 21 [(.tmp 25), (.const (Value.int .i64 1))]) none, SO.mk (some 27) (.faddr 26 (.tmp 3) 7) none, SO.mk none (.store 3 (.tmp 27) (.tmp 26)) none]) (.keep [0, 3, 2] c39_5))
theorem u39_6 : type_of% (@swc _ _ c39_6.eq_1) := @swc _ _ c39_6.eq_1
def c39_7 : SC := (.seq (.reg [SO.mk (some 22) (.move (.tmp 0)) none, SO.mk (some 23) (.call 21 [(.tmp 22), (.const (Value.int .i64 4))]) none, SO.mk (some 24) (.faddr 26 (.tmp 3) 6) none, SO.mk none (.store 3 (.tmp 24) (.tmp 23)) none]) (.keep [0, 3, 2] c39_6))
theorem u39_7 : type_of% (@swc _ _ c39_7.eq_1) := @swc _ _ c39_7.eq_1
def c39_8 : SC := (.seq (.reg [SO.mk (some 19) (.move (.tmp 0)) none, SO.mk (some 20) (.call 21 [(.tmp 19), (.const (Value.int .i64 2))]) none, SO.mk (some 21) (.faddr 26 (.tmp 3) 5) none, SO.mk none (.store 3 (.tmp 21) (.tmp 20)) none]) (.keep [0, 3, 2] c39_7))
theorem u39_8 : type_of% (@swc _ _ c39_8.eq_1) := @swc _ _ c39_8.eq_1
def c39_9 : SC := (.seq (.reg [SO.mk (some 16) (.move (.tmp 0)) none, SO.mk (some 17) (.call 68 [(.tmp 16)]) none, SO.mk (some 18) (.faddr 26 (.tmp 3) 4) none, SO.mk none (.store 4 (.tmp 18) (.tmp 17)) none]) (.keep [0, 3, 2] c39_8))
theorem u39_9 : type_of% (@swc _ _ c39_9.eq_1) := @swc _ _ c39_9.eq_1
def c39_10 : SC := (.seq (.reg [SO.mk (some 13) (.move (.tmp 0)) none, SO.mk (some 14) (.call 68 [(.tmp 13)]) none, SO.mk (some 15) (.faddr 26 (.tmp 3) 3) none, SO.mk none (.store 4 (.tmp 15) (.tmp 14)) none]) (.keep [0, 3, 2] c39_9))
theorem u39_10 : type_of% (@swc _ _ c39_10.eq_1) := @swc _ _ c39_10.eq_1
def c39_11 : SC := (.seq (.reg [SO.mk (some 10) (.move (.tmp 0)) none, SO.mk (some 11) (.call 37 [(.tmp 10)]) none, SO.mk (some 12) (.faddr 26 (.tmp 3) 2) none, SO.mk none (.store 9 (.tmp 12) (.tmp 11)) none]) (.keep [0, 3, 2] c39_10))
theorem u39_11 : type_of% (@swc _ _ c39_11.eq_1) := @swc _ _ c39_11.eq_1
def c39_12 : SC := (.seq (.reg [SO.mk (some 7) (.move (.tmp 0)) none, SO.mk (some 8) (.call 37 [(.tmp 7)]) none, SO.mk (some 9) (.faddr 26 (.tmp 3) 1) none, SO.mk none (.store 9 (.tmp 9) (.tmp 8)) none]) (.keep [0, 3, 2] c39_11))
theorem u39_12 : type_of% (@swc _ _ c39_12.eq_1) := @swc _ _ c39_12.eq_1
def c39_13 : SC := (.seq (.reg [SO.mk (some 4) (.move (.tmp 0)) none, SO.mk (some 5) (.call 21 [(.tmp 4), (.const (Value.int .i64 3))]) none, SO.mk (some 6) (.faddr 26 (.tmp 3) 0) none, SO.mk none (.store 3 (.tmp 6) (.tmp 5)) none]) (.keep [0, 3, 2] c39_12))
theorem u39_13 : type_of% (@swc _ _ c39_13.eq_1) := @swc _ _ c39_13.eq_1
def c39_14 : SC := (.seq (.reg [SO.mk (some 3) (.alloc 26) none]) (.keep [0, 3, 2] c39_13))
theorem u39_14 : type_of% (@swc _ _ c39_14.eq_1) := @swc _ _ c39_14.eq_1
def c39 : SC := (.seq (.reg [SO.mk (some 2) (.alloc 26) none]) (.keep [0, 2] c39_14))
theorem c39_eq : annC Tryd.f39 = some c39 := by kernel_rfl
theorem r39 : Tryd.f39.results.toList = [.cell 2 26] := by kernel_rfl
theorem e39 : enters Tryd.prog 39 = true := by kernel_rfl
end Go.Proofs.YtijpmidnclbhpaaDoor
namespace Go.Proofs.YtijpmidnclbhpaaDoor
open Go.RowKit
set_option maxHeartbeats 4000000
set_option maxRecDepth 20000
attribute [local irreducible] SW SWL SWLn SWD SEcall SEcallv SDv SE SO1 SOg ACalls ACallv Wk EndV
set_option linter.unusedSimpArgs false
set_option linter.unusedVariables false
attribute [local irreducible] takS textS bitS intsS takN textN bitN intsN rdO
theorem ver_R  : Reads Tryd.prog 39 [] (fun s => verV (verN s)) (fun s => verS s) (fun s => True) := by
  intro B σ n b e hn hσ hp
  refine own_ofL [(n, rdO b e)] (hid1_sto hσ) hid1_closed follows Tryd.func39 c39_eq r39 (Nat.le_of_ble_eq_true rfl) fun hcl hsz => ?_
  clear hsz
  have y1 : ∀ s, (n = B + s) = False := fun s => by simp; omega
  have y2 : ∀ s, (B + s = n) = False := fun s => by simp; omega
  have y3 : (n < B) = True := eq_true hn
  have y4 : decide (n < B) = true := by simpa using hn
  have y5 : decide (n < B + 100000) = true := by simp; omega
  repeat' (first | (simp -implicitDefEqProofs only [*, contN, contC, Nat.reduceBEq, Bool.or_false, Bool.or_true, Bool.false_or, Bool.true_or, Bool.not_true, Bool.not_false, w_skip, w_ret, w_exit, w_reg, w_dreg, w_seq, SK_n, SK_r, SK_x, w_keep, w_block, w_cond, w_nil, w_cons, w_consg, w_nnil, w_ncons, w_dnil, w_dcons, w_dconsg, HK_app, HD_app, HQ_n, HQ_r, HQ_x, HQ_bn, HQ_br, HQ_bx, HQ_en, HQ_er, HQ_ex, CondB_true, CondB_false, SO1, w_sdv, SDe_alloc, SDe_box, SDe_bslice, SDe_app, true_imp_iff, false_imp_iff, and_false, false_and, not_false_eq_true, not_true_eq_false, addN, mkNames, killT, killD, killO, List.foldl_nil, List.foldl_cons, List.append_nil, List.nil_append, List.cons_append, GuardS_true, GuardS_false, GuardD_true, GuardD_false, DK_true, DK_false, lt_self_add, le_self_add, decide_true, decide_false, Bool.false_eq_true, Bool.true_eq_false, Nat.add_left_cancel_iff, SE, SEalloc, SEbox, SEstore, w_bs, SEbl, SEfz, SEbs0, fzName, osOf, AV.fz1, w_app, w_mk, aev, opd, Fr.get, putO, Fr.norm, List.map_cons, List.map_nil, with1, with2, onInt, AV.lit, entry, ↓reduceIte, Nat.reduceEqDiff, Nat.reduceAdd, reduceCtorEq, true_and, and_true, Option.map_some, Option.map_none, Option.bind_some, Option.bind_none, cond_true, cond_false, binV, unV, fieldV, loadV, sto, cellsAV, newF, newL, Fr.map, Loc.kill, Loc.set, AV.kill, AV.mapN, AV.mapNL, List.filter_nil, List.filter_cons, allP, EndV, retV, resV, resL, frz, dropL, AV.pick, nilV, tupV, imp_self, ne_eq, Int.cast_ofNat_Int, Int.reduceLT, Int.reduceToNat, List.getD_cons_zero, List.getD_cons_succ, bsliceV, buildV, afill, repl, chunk, rvs, AV.rv, RV.nrm, List.getElem?_nil, List.append_assoc, Nat.reduceMul, Nat.reducePow, Nat.zero_lt_succ, Nat.zero_add, Nat.add_zero, List.length_cons, List.length_nil, Nat.reduceLeDiff, Nat.le_refl, List.take_succ_cons, List.take_zero, List.drop_succ_cons, List.drop_zero, indexV, lenV, rowOf_mapD, rowOf_mapI, rowOf_mapA, List.length_map, Int.toNat_natCast, List.getElem?_cons_zero, List.getElem?_cons_succ, and_self, implies_true, if_true, if_false, HQ_zn, HQ_zr, HQ_wn, HQ_wr, AV.nz, AV.nzL, RV.nrm, SEbin, SEnil, nilK, srcV, dstV, appName, List.length_append, Nat.mul_one, take_map_len, take_map_app, List.getElem?_cons_zero, List.map_append, SEmkmap, SEmset, mgetV, kvOf, getM, setM, c39, r39, u39_1, u39_2, u39_3, u39_4, u39_5, u39_6, u39_7, u39_8, u39_9, u39_10, u39_11, u39_12, u39_13, u39_14, ty26, ty3, ty9, ty4, ty24, aokB, aokD, aokA, ↓rdO_allN, ↓rdO_kill, y1, y2, y3, y4, y5, verV, VerD.row, verN, ints, vr1, vr2, vr3, vr4, vr5, vr6, vr7, vr8, vr9, vr10, vr11, prEta]) | (with_reducible refine And.intro ?_ ?_) | (refine call_r0 (d := some 5) (by omega) e21 ( take_R 3) rfl ?_ ?_ ?_ ?_ ?_ ?_) | (refine call_r1 (d := some 5) (by omega) e21 ( take_R 3) rfl ?_ ?_ ?_ ?_ ?_ ?_) | (refine call_r2 (d := some 5) (by omega) e21 ( take_R 3) rfl ?_ ?_ ?_ ?_ ?_ ?_) | (refine call_r0 (d := some 8) (by omega) e37 ( text_R) rfl ?_ ?_ ?_ ?_ ?_ ?_) | (refine call_r1 (d := some 8) (by omega) e37 ( text_R) rfl ?_ ?_ ?_ ?_ ?_ ?_) | (refine call_r2 (d := some 8) (by omega) e37 ( text_R) rfl ?_ ?_ ?_ ?_ ?_ ?_) | (refine call_r0 (d := some 11) (by omega) e37 ( text_R) rfl ?_ ?_ ?_ ?_ ?_ ?_) | (refine call_r1 (d := some 11) (by omega) e37 ( text_R) rfl ?_ ?_ ?_ ?_ ?_ ?_) | (refine call_r2 (d := some 11) (by omega) e37 ( text_R) rfl ?_ ?_ ?_ ?_ ?_ ?_) | (refine call_r0 (d := some 14) (by omega) e68 ( bit_R) rfl ?_ ?_ ?_ ?_ ?_ ?_) | (refine call_r1 (d := some 14) (by omega) e68 ( bit_R) rfl ?_ ?_ ?_ ?_ ?_ ?_) | (refine call_r2 (d := some 14) (by omega) e68 ( bit_R) rfl ?_ ?_ ?_ ?_ ?_ ?_) | (refine call_r0 (d := some 17) (by omega) e68 ( bit_R) rfl ?_ ?_ ?_ ?_ ?_ ?_) | (refine call_r1 (d := some 17) (by omega) e68 ( bit_R) rfl ?_ ?_ ?_ ?_ ?_ ?_) | (refine call_r2 (d := some 17) (by omega) e68 ( bit_R) rfl ?_ ?_ ?_ ?_ ?_ ?_) | (refine call_r0 (d := some 20) (by omega) e21 ( take_R 2) rfl ?_ ?_ ?_ ?_ ?_ ?_) | (refine call_r1 (d := some 20) (by omega) e21 ( take_R 2) rfl ?_ ?_ ?_ ?_ ?_ ?_) | (refine call_r2 (d := some 20) (by omega) e21 ( take_R 2) rfl ?_ ?_ ?_ ?_ ?_ ?_) | (refine call_r0 (d := some 23) (by omega) e21 ( take_R 4) rfl ?_ ?_ ?_ ?_ ?_ ?_) | (refine call_r1 (d := some 23) (by omega) e21 ( take_R 4) rfl ?_ ?_ ?_ ?_ ?_ ?_) | (refine call_r2 (d := some 23) (by omega) e21 ( take_R 4) rfl ?_ ?_ ?_ ?_ ?_ ?_) | (refine call_r0 (d := some 26) (by omega) e21 ( take_R 1) rfl ?_ ?_ ?_ ?_ ?_ ?_) | (refine call_r1 (d := some 26) (by omega) e21 ( take_R 1) rfl ?_ ?_ ?_ ?_ ?_ ?_) | (refine call_r2 (d := some 26) (by omega) e21 ( take_R 1) rfl ?_ ?_ ?_ ?_ ?_ ?_) | (refine call_r0 (d := some 29) (by omega) e42 ( ints_R) rfl ?_ ?_ ?_ ?_ ?_ ?_) | (refine call_r1 (d := some 29) (by omega) e42 ( ints_R) rfl ?_ ?_ ?_ ?_ ?_ ?_) | (refine call_r2 (d := some 29) (by omega) e42 ( ints_R) rfl ?_ ?_ ?_ ?_ ?_ ?_) | (refine call_r0 (d := some 32) (by omega) e21 ( take_R 1) rfl ?_ ?_ ?_ ?_ ?_ ?_) | (refine call_r1 (d := some 32) (by omega) e21 ( take_R 1) rfl ?_ ?_ ?_ ?_ ?_ ?_) | (refine call_r2 (d := some 32) (by omega) e21 ( take_R 1) rfl ?_ ?_ ?_ ?_ ?_ ?_) | (refine call_r0 (d := some 35) (by omega) e21 ( take_R 2) rfl ?_ ?_ ?_ ?_ ?_ ?_) | (refine call_r1 (d := some 35) (by omega) e21 ( take_R 2) rfl ?_ ?_ ?_ ?_ ?_ ?_) | (refine call_r2 (d := some 35) (by omega) e21 ( take_R 2) rfl ?_ ?_ ?_ ?_ ?_ ?_) | (refine call_r0 (d := some 38) (by omega) e21 ( take_R 4) rfl ?_ ?_ ?_ ?_ ?_ ?_) | (refine call_r1 (d := some 38) (by omega) e21 ( take_R 4) rfl ?_ ?_ ?_ ?_ ?_ ?_) | (refine call_r2 (d := some 38) (by omega) e21 ( take_R 4) rfl ?_ ?_ ?_ ?_ ?_ ?_) | (refine EndX.plain ?_) | (refine nil_split (fun hn => ?_) (fun hn => ?_)) | (refine gcall_no not_false ?_) | (refine gdcall_no not_false ?_) | (refine GuardS_of _ _ _ _ _ _ (fun hg => ?_) (fun hg => ?_)) | (refine GuardD_of _ _ _ _ (fun hg => ?_) (fun hg => ?_)) | (refine CondB_of _ _ _ _ _ _ _ ?_ (fun hg => ?_) (fun hg => ?_)))
  all_goals first
    | (intro p hp; simp only [List.mem_cons, List.not_mem_nil, or_false] at hp; rcases hp with rfl | rfl <;> simp [y2]; done)
    | (intro p hp; simp only [List.mem_cons, List.not_mem_nil, or_false] at hp; subst hp; simp [y2]; done)
    | (intro p hp; cases hp; done)
    | (exact .inl (by decide))
    | trivial
    | (unfold Fr.below; simp [Fr.allN, AV.allN, AV.allNL, y5]; done)
    | (unfold Loc.below; simp only [List.all_cons, List.all_nil, rdO_allN, y5]; simp [AO.allN, AV.allN, AV.allNL]; done)
    | rfl
    | (refine rd_end ?_ ?_
       · simp only [if_true]; rfl
       · intro x z1; simp [z1, hid1])
    | (refine rd_end ?_ ?_
       · simp [verS]
       · intro x z1; simp [z1, hid1])
end Go.Proofs.YtijpmidnclbhpaaDoor
