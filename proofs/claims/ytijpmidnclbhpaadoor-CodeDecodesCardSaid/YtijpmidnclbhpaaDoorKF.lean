/- The reference's eye: its calls. -/
import Derived.Test.YtijpmidnclbhpaaDoorKE
import Derived.Test.YtijpmidnclbhpaaDoorTypes
namespace Go.Proofs.YtijpmidnclbhpaaDoor
open Go.RowKit
set_option maxRecDepth 100000
def o44_1 : List SO := ((SO.mk (some 14) (.faddr 58 (.tmp 13) 1) none) :: (SO.mk (some 15) (.load 3 (.tmp 14)) none) :: (SO.mk (some 16) (.bin .sub 3 (.tmp 11) (.tmp 15)) none) :: (SO.mk (some 17) (.bin .gtr 3 (.tmp 6) (.tmp 16)) none) :: [])
theorem v44_1 : type_of% (@swd _ _ o44_1.eq_1) := @swd _ _ o44_1.eq_1
def o44_2 : List SO := ((SO.mk (some 10) (.load 36 (.tmp 9)) none) :: (SO.mk (some 11) (.len 36 (.tmp 10)) none) :: (SO.mk (some 12) (.move (.tmp 0)) none) :: (SO.mk (some 13) (.nilCheck (.tmp 12)) none) :: o44_1)
theorem v44_2 : type_of% (@swd _ _ o44_2.eq_1) := @swd _ _ o44_2.eq_1
def o44_3 : List SO := ((SO.mk (some 6) (.move (.tmp 3)) none) :: (SO.mk (some 7) (.move (.tmp 0)) none) :: (SO.mk (some 8) (.nilCheck (.tmp 7)) none) :: (SO.mk (some 9) (.faddr 58 (.tmp 8) 0) none) :: o44_2)
theorem v44_3 : type_of% (@swd _ _ o44_3.eq_1) := @swd _ _ o44_3.eq_1
theorem m44_3 (B : Nat) : mkNames B o44_3 = [] := (rfl)
def c44_4 : SC := (.seq (.reg [SO.mk (some 2) (.move (.const (Value.string ⟨#[]⟩))) none]) (.keep [2] .ret))
theorem u44_4 : type_of% (@swc _ _ c44_4.eq_1) := @swc _ _ c44_4.eq_1
def c44_5 : SC := (.seq (.reg [SO.mk (some 18) (.move (.tmp 0)) none, SO.mk (some 19) (.move (.tmp 3)) none, SO.mk (some 20) (.call 24 [(.tmp 18), (.tmp 19)]) none]) (.keep [] c44_4))
theorem u44_5 : type_of% (@swc _ _ c44_5.eq_1) := @swc _ _ c44_5.eq_1
def c44_6 : SC := (.cond (.tmp 17) c44_5 .skip)
theorem u44_6 : type_of% (@swc _ _ c44_6.eq_1) := @swc _ _ c44_6.eq_1
def o44_7 : List SO := ((SO.mk (some 29) (.faddr 58 (.tmp 28) 1) none) :: (SO.mk none (.store 3 (.tmp 29) (.tmp 27)) none) :: [])
theorem v44_7 : type_of% (@swl _ _ o44_7.eq_1) := @swl _ _ o44_7.eq_1
def o44_8 : List SO := ((SO.mk (some 25) (.load 3 (.tmp 24)) none) :: (SO.mk (some 26) (.move (.tmp 3)) none) :: (SO.mk (some 27) (.bin .add 3 (.tmp 25) (.tmp 26)) none) :: (SO.mk (some 28) (.nilCheck (.tmp 21)) none) :: o44_7)
theorem v44_8 : type_of% (@swl _ _ o44_8.eq_1) := @swl _ _ o44_8.eq_1
def o44_9 : List SO := ((SO.mk (some 2) (.move (.tmp 45)) none) :: [])
theorem v44_9 : type_of% (@swd _ _ o44_9.eq_1) := @swd _ _ o44_9.eq_1
def o44_10 : List SO := ((SO.mk (some 42) (.faddr 58 (.tmp 41) 1) none) :: (SO.mk (some 43) (.load 3 (.tmp 42)) none) :: (SO.mk (some 44) (.slice 36 (.tmp 33) (some (.tmp 39)) (some (.tmp 43))) none) :: (SO.mk (some 45) (.conv 36 9 (.tmp 44)) none) :: o44_9)
theorem v44_10 : type_of% (@swd _ _ o44_10.eq_1) := @swd _ _ o44_10.eq_1
def o44_11 : List SO := ((SO.mk (some 38) (.move (.tmp 3)) none) :: (SO.mk (some 39) (.bin .sub 3 (.tmp 37) (.tmp 38)) none) :: (SO.mk (some 40) (.move (.tmp 0)) none) :: (SO.mk (some 41) (.nilCheck (.tmp 40)) none) :: o44_10)
theorem v44_11 : type_of% (@swd _ _ o44_11.eq_1) := @swd _ _ o44_11.eq_1
def o44_12 : List SO := ((SO.mk (some 34) (.move (.tmp 0)) none) :: (SO.mk (some 35) (.nilCheck (.tmp 34)) none) :: (SO.mk (some 36) (.faddr 58 (.tmp 35) 1) none) :: (SO.mk (some 37) (.load 3 (.tmp 36)) none) :: o44_11)
theorem v44_12 : type_of% (@swd _ _ o44_12.eq_1) := @swd _ _ o44_12.eq_1
def o44_13 : List SO := ((SO.mk (some 30) (.move (.tmp 0)) none) :: (SO.mk (some 31) (.nilCheck (.tmp 30)) none) :: (SO.mk (some 32) (.faddr 58 (.tmp 31) 0) none) :: (SO.mk (some 33) (.load 36 (.tmp 32)) none) :: o44_12)
theorem v44_13 : type_of% (@swd _ _ o44_13.eq_1) := @swd _ _ o44_13.eq_1
theorem m44_13 (B : Nat) : mkNames B o44_13 = [] := (rfl)
def c44_14 : SC := (.seq (.dreg false o44_13 []) (.keep [2] .ret))
theorem u44_14 : type_of% (@swc _ _ c44_14.eq_1) := @swc _ _ c44_14.eq_1
def c44_15 : SC := (.seq (.reg ((SO.mk (some 21) (.move (.tmp 0)) none) :: (SO.mk (some 22) (.move (.tmp 0)) none) :: (SO.mk (some 23) (.nilCheck (.tmp 22)) none) :: (SO.mk (some 24) (.faddr 58 (.tmp 23) 1) none) :: o44_8)) (.keep [3, 0] c44_14))
theorem u44_15 : type_of% (@swc _ _ c44_15.eq_1) := @swc _ _ c44_15.eq_1
def c44_16 : SC := (.seq (.seq (.dreg false o44_3 []) (.keep [17, 3, 0] c44_6)) (.keep [3, 0] c44_15))
theorem u44_16 : type_of% (@swc _ _ c44_16.eq_1) := @swc _ _ c44_16.eq_1
def c44_17 : SC := (.seq (.reg [SO.mk (some 4) (.move (.tmp 0)) none, SO.mk (some 5) (.call 24 [(.tmp 4), (.const (Value.int .i64 1))]) none, SO.mk (some 3) (.move (.tmp 5)) none]) (.keep [3, 0] c44_16))
theorem u44_17 : type_of% (@swc _ _ c44_17.eq_1) := @swc _ _ c44_17.eq_1
def c44 : SC := (.seq (.reg [SO.mk (some 2) (.move (.const (Value.string ⟨#[]⟩))) none]) (.keep [0] c44_17))
theorem c44_eq : annC Tryd.f44 = some c44 := by kernel_rfl
theorem r44 : Tryd.f44.results.toList = [.tmp 2] := by kernel_rfl
theorem e44 : enters Tryd.prog 44 = true := by kernel_rfl
def o69_1 : List SO := ((SO.mk (some 14) (.pick (.tmp 8) (.tmp 13) (.const (Value.bool false))) none) :: [])
theorem v69_1 : type_of% (@swl _ _ o69_1.eq_1) := @swl _ _ o69_1.eq_1
def o69_2 : List SO := ((SO.mk (some 10) (.nilCheck (.tmp 9)) (some (8 , true))) :: (SO.mk (some 11) (.faddr 58 (.tmp 10) 2) (some (8 , true))) :: (SO.mk (some 12) (.load 33 (.tmp 11)) (some (8 , true))) :: (SO.mk (some 13) (.bin .eql 33 (.tmp 12) (.const (Value.int .i64 0))) (some (8 , true))) :: o69_1)
theorem v69_2 : type_of% (@swl _ _ o69_2.eq_1) := @swl _ _ o69_2.eq_1
def c69_3 : SC := (.reg [SO.mk (some 15) (.move (.tmp 0)) none, SO.mk (some 16) (.nilCheck (.tmp 15)) none, SO.mk (some 17) (.faddr 58 (.tmp 16) 2) none, SO.mk none (.store 33 (.tmp 17) (.const (Value.int .i64 4))) none])
theorem u69_3 : type_of% (@swc _ _ c69_3.eq_1) := @swc _ _ c69_3.eq_1
def c69_4 : SC := (.cond (.tmp 14) c69_3 .skip)
theorem u69_4 : type_of% (@swc _ _ c69_4.eq_1) := @swc _ _ c69_4.eq_1
def c69_5 : SC := (.seq (.reg [SO.mk (some 18) (.move (.tmp 3)) none, SO.mk (some 19) (.bin .eql 3 (.tmp 18) (.const (Value.int .i64 1))) none, SO.mk (some 2) (.move (.tmp 19)) none]) (.keep [2] .ret))
theorem u69_5 : type_of% (@swc _ _ c69_5.eq_1) := @swc _ _ c69_5.eq_1
def c69_6 : SC := (.seq (.seq (.reg ((SO.mk (some 6) (.move (.tmp 3)) none) :: (SO.mk (some 7) (.bin .gtr 3 (.tmp 6) (.const (Value.int .i64 1))) none) :: (SO.mk (some 8) (.move (.tmp 7)) none) :: (SO.mk (some 9) (.move (.tmp 0)) (some (8 , true))) :: o69_2)) (.keep [14, 0, 3] c69_4)) (.keep [3] c69_5))
theorem u69_6 : type_of% (@swc _ _ c69_6.eq_1) := @swc _ _ c69_6.eq_1
def c69_7 : SC := (.seq (.reg [SO.mk (some 4) (.move (.tmp 0)) none, SO.mk (some 5) (.call 24 [(.tmp 4), (.const (Value.int .i64 1))]) none, SO.mk (some 3) (.move (.tmp 5)) none]) (.keep [0, 3] c69_6))
theorem u69_7 : type_of% (@swc _ _ c69_7.eq_1) := @swc _ _ c69_7.eq_1
def c69 : SC := (.seq (.reg [SO.mk (some 2) (.move (.const (Value.bool false))) none]) (.keep [0] c69_7))
theorem c69_eq : annC Tryd.f69 = some c69 := by kernel_rfl
theorem r69 : Tryd.f69.results.toList = [.tmp 2] := by kernel_rfl
theorem e69 : enters Tryd.prog 69 = true := by kernel_rfl
def o48_1 : List SO := ((SO.mk (some 17) (.bin .eql 33 (.tmp 16) (.const (Value.int .i64 0))) (some (12 , true))) :: (SO.mk (some 18) (.pick (.tmp 12) (.tmp 17) (.const (Value.bool false))) none) :: [])
theorem v48_1 : type_of% (@swl _ _ o48_1.eq_1) := @swl _ _ o48_1.eq_1
def o48_2 : List SO := ((SO.mk (some 13) (.move (.tmp 0)) (some (12 , true))) :: (SO.mk (some 14) (.nilCheck (.tmp 13)) (some (12 , true))) :: (SO.mk (some 15) (.faddr 58 (.tmp 14) 2) (some (12 , true))) :: (SO.mk (some 16) (.load 33 (.tmp 15)) (some (12 , true))) :: o48_1)
theorem v48_2 : type_of% (@swl _ _ o48_2.eq_1) := @swl _ _ o48_2.eq_1
def c48_3 : SC := (.cond (.tmp 18) .skip (.exit 0))
theorem u48_3 : type_of% (@swc _ _ c48_3.eq_1) := @swc _ _ c48_3.eq_1
def c48_4 : SC := (.reg [SO.mk (some 23) (.move (.tmp 4)) none, SO.mk (some 24) (.move (.tmp 6)) none, SO.mk (some 25) (.bslice 24 1 [(0 , (.tmp 24))]) none, SO.mk (some 26) (.app 24 24 (.tmp 23) (.tmp 25)) none, SO.mk (some 4) (.move (.tmp 26)) none])
theorem u48_4 : type_of% (@swc _ _ c48_4.eq_1) := @swc _ _ c48_4.eq_1
def c48_5 : SC := (.reg [SO.mk (some 19) (.move (.tmp 5)) none, SO.mk (some 20) (.bin .add 3 (.tmp 19) (.const (Value.int .i64 1))) none, SO.mk (some 5) (.move (.tmp 20)) none])
theorem u48_5 : type_of% (@swc _ _ c48_5.eq_1) := @swc _ _ c48_5.eq_1
def c48_6 : SC := (.seq (.block 1 (.seq (.reg [SO.mk (some 21) (.move (.tmp 0)) none, SO.mk (some 22) (.call 24 [(.tmp 21), (.const (Value.int .i64 1))]) none, SO.mk (some 6) (.move (.tmp 22)) none]) (.keep [4, 6, 5, 3, 0] c48_4))) (.keep [5, 3, 0, 4] c48_5))
theorem u48_6 : type_of% (@swc _ _ c48_6.eq_1) := @swc _ _ c48_6.eq_1
def c48_7 : SC := (.seq (.seq (.reg ((SO.mk (some 9) (.move (.tmp 5)) none) :: (SO.mk (some 10) (.move (.tmp 3)) none) :: (SO.mk (some 11) (.bin .lss 3 (.tmp 9) (.tmp 10)) none) :: (SO.mk (some 12) (.move (.tmp 11)) none) :: o48_2)) (.keep [18, 0, 3, 5, 4] c48_3)) (.keep [4, 5, 3, 0] c48_6))
theorem u48_7 : type_of% (@swc _ _ c48_7.eq_1) := @swc _ _ c48_7.eq_1
def c48_8 : SC := (.block 0 (.loop (.keep [0, 3, 5, 4] c48_7)))
theorem u48_8 : type_of% (@swc _ _ c48_8.eq_1) := @swc _ _ c48_8.eq_1
def c48_9 : SC := (.seq (.reg [SO.mk (some 27) (.move (.tmp 4)) none, SO.mk (some 2) (.move (.tmp 27)) none]) (.keep [2] .ret))
theorem u48_9 : type_of% (@swc _ _ c48_9.eq_1) := @swc _ _ c48_9.eq_1
def c48_10 : SC := (.seq (.seq (.reg [SO.mk (some 5) (.move (.const (Value.int .i64 0))) none]) (.keep [0, 3, 5, 4] c48_8)) (.keep [4] c48_9))
theorem u48_10 : type_of% (@swc _ _ c48_10.eq_1) := @swc _ _ c48_10.eq_1
def c48_11 : SC := (.seq (.reg [SO.mk (some 4) (.move (.const (Value.slice none 0 0))) none]) (.keep [0, 3, 4] c48_10))
theorem u48_11 : type_of% (@swc _ _ c48_11.eq_1) := @swc _ _ c48_11.eq_1
def c48_12 : SC := (.seq (.reg [SO.mk (some 7) (.move (.tmp 0)) none, SO.mk (some 8) (.call 24 [(.tmp 7), (.const (Value.int .i64 1))]) none, SO.mk (some 3) (.move (.tmp 8)) none]) (.keep [0, 3] c48_11))
theorem u48_12 : type_of% (@swc _ _ c48_12.eq_1) := @swc _ _ c48_12.eq_1
def c48 : SC := (.seq (.reg [SO.mk (some 2) (.move (.const (Value.slice none 0 0))) none]) (.keep [0] c48_12))
theorem c48_eq : annC Tryd.f48 = some c48 := by kernel_rfl
theorem r48 : Tryd.f48.results.toList = [.tmp 2] := by kernel_rfl
theorem e48 : enters Tryd.prog 48 = true := by kernel_rfl
end Go.Proofs.YtijpmidnclbhpaaDoor
namespace Go.Proofs.YtijpmidnclbhpaaDoor
open Go.RowKit
set_option maxHeartbeats 4000000
set_option maxRecDepth 20000
attribute [local irreducible] SW SWL SWLn SWD SEcall SEcallv SDv SE SO1 SOg ACalls ACallv Wk EndV
set_option linter.unusedSimpArgs false
set_option linter.unusedVariables false
theorem num_Ln (x : Int) (h : 0 ≤ x) (h8 : x < 256) : Looks Tryd.prog 24 [I x] (fun s => I (takN s x.toNat)) (fun s => takS s x.toNat) (fun s => x.toNat ≤ 4 ∨ s.1.length < x.toNat) := by
  have := num_L x.toNat (by omega)
  rwa [show ((x.toNat : Nat) : Int) = x by omega] at this
theorem str_L  : Looks Tryd.prog 44 [] (fun s => .d (.v (.string (textN s)))) (fun s => textS s) (fun s => True) := by
  intro B σ n bb b e hn hσ hx hbb hp
  refine own_ofL [(n, eyO bb b e)] (hid1_sto hσ) hid1_closed follows Tryd.func44 c44_eq r44 (Nat.le_of_ble_eq_true rfl) fun hcl hsz => ?_
  clear hsz
  have y1 : ∀ s, (n = B + s) = False := fun s => by simp; omega
  have y2 : ∀ s, (B + s = n) = False := fun s => by simp; omega
  have y3 : (n < B) = True := eq_true hn
  have y4 : decide (n < B) = true := by simpa using hn
  have y5 : decide (n < B + 100000) = true := by simp; omega
  have hx0 := (takN_1 (b, e)).1
  have hx1 := (takN_1 (b, e)).2
  have hs1 : (takS (b, e) 1).1 <:+ bb := (takS_suf (b, e) 1).trans hx
  have hbl : (takS (b, e) 1).1.length ≤ bb.length := hs1.length_le
  have hd := suf_drop hs1
  have w1 : IntKind.i64.wrap ((bb.length : Int) - ((bb.length : Int) - (takS (b, e) 1).1.length)) = (takS (b, e) 1).1.length := by rw [IntWalk.i64_in _ (by omega)]; omega
  have w2 : IntKind.i64.wrap ((bb.length : Int) - (takS (b, e) 1).1.length + takN (b, e) 1) = (bb.length : Int) - (takS (b, e) 1).1.length + takN (b, e) 1 := IntWalk.i64_in _ (by omega)
  have w4 : IntKind.i64.wrap ((bb.length : Int) - (takS (b, e) 1).1.length + takN (b, e) 1 - takN (b, e) 1) = (bb.length : Int) - (takS (b, e) 1).1.length := by rw [IntWalk.i64_in _ (by omega)]; omega
  have w3 : ((bb.length : Int) - (takS (b, e) 1).1.length + takN (b, e) 1).toNat - ((bb.length : Int) - (takS (b, e) 1).1.length).toNat = (takN (b, e) 1).toNat := by omega
  clear hσ hp
  repeat' (first | (simp -implicitDefEqProofs only [*, contN, contC, Nat.reduceBEq, Bool.or_false, Bool.or_true, Bool.false_or, Bool.true_or, Bool.not_true, Bool.not_false, w_skip, w_ret, w_exit, w_reg, w_dreg, w_seq, SK_n, SK_r, SK_x, w_keep, w_block, w_cond, w_nil, w_cons, w_consg, w_nnil, w_ncons, w_dnil, w_dcons, w_dconsg, HK_app, HD_app, HQ_n, HQ_r, HQ_x, HQ_bn, HQ_br, HQ_bx, HQ_en, HQ_er, HQ_ex, CondB_true, CondB_false, SO1, w_sdv, SDe_alloc, SDe_box, SDe_bslice, SDe_app, true_imp_iff, false_imp_iff, and_false, false_and, not_false_eq_true, not_true_eq_false, addN, mkNames, killT, killD, killO, List.foldl_nil, List.foldl_cons, List.append_nil, List.nil_append, List.cons_append, GuardS_true, GuardS_false, GuardD_true, GuardD_false, DK_true, DK_false, lt_self_add, le_self_add, decide_true, decide_false, Bool.false_eq_true, Bool.true_eq_false, Nat.add_left_cancel_iff, SE, SEalloc, SEbox, SEstore, w_bs, SEbl, SEfz, SEbs0, fzName, osOf, AV.fz1, w_app, w_mk, aev, opd, Fr.get, putO, Fr.norm, List.map_cons, List.map_nil, with1, with2, onInt, AV.lit, entry, ↓reduceIte, Nat.reduceEqDiff, Nat.reduceAdd, reduceCtorEq, true_and, and_true, Option.map_some, Option.map_none, Option.bind_some, Option.bind_none, cond_true, cond_false, binV, unV, fieldV, loadV, sto, cellsAV, newF, newL, Fr.map, Loc.kill, Loc.set, AV.kill, AV.mapN, AV.mapNL, List.filter_nil, List.filter_cons, allP, EndV, retV, resV, resL, frz, dropL, AV.pick, nilV, tupV, imp_self, ne_eq, Int.cast_ofNat_Int, Int.reduceLT, Int.reduceToNat, List.getD_cons_zero, List.getD_cons_succ, bsliceV, buildV, afill, repl, chunk, rvs, AV.rv, RV.nrm, List.getElem?_nil, List.append_assoc, Nat.reduceMul, Nat.reducePow, Nat.zero_lt_succ, Nat.zero_add, Nat.add_zero, List.length_cons, List.length_nil, Nat.reduceLeDiff, Nat.le_refl, List.take_succ_cons, List.take_zero, List.drop_succ_cons, List.drop_zero, indexV, lenV, rowOf_mapD, rowOf_mapI, rowOf_mapA, List.length_map, Int.toNat_natCast, List.getElem?_cons_zero, List.getElem?_cons_succ, and_self, implies_true, if_true, if_false, HQ_zn, HQ_zr, HQ_wn, HQ_wr, AV.nz, AV.nzL, RV.nrm, SEbin, SEnil, nilK, srcV, dstV, appName, List.length_append, Nat.mul_one, take_map_len, take_map_app, List.getElem?_cons_zero, List.map_append, SEmkmap, SEmset, mgetV, kvOf, getM, setM, c44, r44, v44_1, v44_2, v44_3, m44_3, u44_4, u44_5, u44_6, v44_7, v44_8, v44_9, v44_10, v44_11, v44_12, v44_13, m44_13, u44_14, u44_15, u44_16, u44_17, ty58, ty36, ty3, ty9, ty5, aokB, aokD, aokA, ↓eyO_allN, ↓eyO_kill, y1, y2, y3, y4, y5, prEta]) | (with_reducible refine And.intro ?_ ?_) | (refine call_e0 (d := some 5) (by omega) e24 ( num_L 1 (by decide)) rfl ?_ ?_ hbb ?_ ?_ ?_ ?_ ?_) | (refine call_e1 (d := some 5) (by omega) e24 ( num_L 1 (by decide)) rfl ?_ ?_ hbb ?_ ?_ ?_ ?_ ?_) | (refine call_e2 (d := some 5) (by omega) e24 ( num_L 1 (by decide)) rfl ?_ ?_ hbb ?_ ?_ ?_ ?_ ?_) | (refine call_e0 (d := some 20) (by omega) e24 ( num_Ln _ hx0 hx1) rfl ?_ ?_ hbb ?_ ?_ ?_ ?_ ?_) | (refine call_e1 (d := some 20) (by omega) e24 ( num_Ln _ hx0 hx1) rfl ?_ ?_ hbb ?_ ?_ ?_ ?_ ?_) | (refine call_e2 (d := some 20) (by omega) e24 ( num_Ln _ hx0 hx1) rfl ?_ ?_ hbb ?_ ?_ ?_ ?_ ?_) | (refine EndX.plain ?_) | (refine nil_split (fun hn => ?_) (fun hn => ?_)) | (refine gcall_no not_false ?_) | (refine gdcall_no not_false ?_) | (refine GuardS_of _ _ _ _ _ _ (fun hg => ?_) (fun hg => ?_)) | (refine GuardD_of _ _ _ _ (fun hg => ?_) (fun hg => ?_)) | (refine CondB_of _ _ _ _ _ _ _ ?_ (fun hg => ?_) (fun hg => ?_)))
  repeat' (first | (simp -implicitDefEqProofs only [*, contN, contC, Nat.reduceBEq, Bool.or_false, Bool.or_true, Bool.false_or, Bool.true_or, Bool.not_true, Bool.not_false, w_skip, w_ret, w_exit, w_reg, w_dreg, w_seq, SK_n, SK_r, SK_x, w_keep, w_block, w_cond, w_nil, w_cons, w_consg, w_nnil, w_ncons, w_dnil, w_dcons, w_dconsg, HK_app, HD_app, HQ_n, HQ_r, HQ_x, HQ_bn, HQ_br, HQ_bx, HQ_en, HQ_er, HQ_ex, CondB_true, CondB_false, SO1, w_sdv, SDe_alloc, SDe_box, SDe_bslice, SDe_app, true_imp_iff, false_imp_iff, and_false, false_and, not_false_eq_true, not_true_eq_false, addN, mkNames, killT, killD, killO, List.foldl_nil, List.foldl_cons, List.append_nil, List.nil_append, List.cons_append, GuardS_true, GuardS_false, GuardD_true, GuardD_false, DK_true, DK_false, lt_self_add, le_self_add, decide_true, decide_false, Bool.false_eq_true, Bool.true_eq_false, Nat.add_left_cancel_iff, SE, SEalloc, SEbox, SEstore, w_bs, SEbl, SEfz, SEbs0, fzName, osOf, AV.fz1, w_app, w_mk, aev, opd, Fr.get, putO, Fr.norm, List.map_cons, List.map_nil, with1, with2, onInt, AV.lit, entry, ↓reduceIte, Nat.reduceEqDiff, Nat.reduceAdd, reduceCtorEq, true_and, and_true, Option.map_some, Option.map_none, Option.bind_some, Option.bind_none, cond_true, cond_false, binV, unV, fieldV, loadV, sto, cellsAV, newF, newL, Fr.map, Loc.kill, Loc.set, AV.kill, AV.mapN, AV.mapNL, List.filter_nil, List.filter_cons, allP, EndV, retV, resV, resL, frz, dropL, AV.pick, nilV, tupV, imp_self, ne_eq, Int.cast_ofNat_Int, Int.reduceLT, Int.reduceToNat, List.getD_cons_zero, List.getD_cons_succ, bsliceV, buildV, afill, repl, chunk, rvs, AV.rv, RV.nrm, List.getElem?_nil, List.append_assoc, Nat.reduceMul, Nat.reducePow, Nat.zero_lt_succ, Nat.zero_add, Nat.add_zero, List.length_cons, List.length_nil, Nat.reduceLeDiff, Nat.le_refl, List.take_succ_cons, List.take_zero, List.drop_succ_cons, List.drop_zero, indexV, lenV, rowOf_mapD, rowOf_mapI, rowOf_mapA, List.length_map, Int.toNat_natCast, List.getElem?_cons_zero, List.getElem?_cons_succ, and_self, implies_true, if_true, if_false, HQ_zn, HQ_zr, HQ_wn, HQ_wr, AV.nz, AV.nzL, RV.nrm, SEbin, SEnil, nilK, srcV, dstV, appName, List.length_append, Nat.mul_one, take_map_len, take_map_app, List.getElem?_cons_zero, List.map_append, SEmkmap, SEmset, mgetV, kvOf, getM, setM, c44, r44, v44_1, v44_2, v44_3, m44_3, u44_4, u44_5, u44_6, v44_7, v44_8, v44_9, v44_10, v44_11, v44_12, v44_13, m44_13, u44_14, u44_15, u44_16, u44_17, ty58, ty36, ty3, ty9, ty5, aokB, aokD, aokA, ↓eyO_allN, ↓eyO_kill, y1, y2, y3, y4, y5, eyO, prEta, convV, txtW, isB_byR, bnd, sliceV, Option.getD_some, Option.getD_none, Rows_byQ, bytes, ← List.map_take, ← List.map_drop, Nat.sub_zero]) | (with_reducible refine And.intro ?_ ?_) | (refine call_e0 (d := some 5) (by omega) e24 ( num_L 1 (by decide)) rfl ?_ ?_ hbb ?_ ?_ ?_ ?_ ?_) | (refine call_e1 (d := some 5) (by omega) e24 ( num_L 1 (by decide)) rfl ?_ ?_ hbb ?_ ?_ ?_ ?_ ?_) | (refine call_e2 (d := some 5) (by omega) e24 ( num_L 1 (by decide)) rfl ?_ ?_ hbb ?_ ?_ ?_ ?_ ?_) | (refine call_e0 (d := some 20) (by omega) e24 ( num_Ln _ hx0 hx1) rfl ?_ ?_ hbb ?_ ?_ ?_ ?_ ?_) | (refine call_e1 (d := some 20) (by omega) e24 ( num_Ln _ hx0 hx1) rfl ?_ ?_ hbb ?_ ?_ ?_ ?_ ?_) | (refine call_e2 (d := some 20) (by omega) e24 ( num_Ln _ hx0 hx1) rfl ?_ ?_ hbb ?_ ?_ ?_ ?_ ?_) | (refine EndX.plain ?_) | (refine nil_split (fun hn => ?_) (fun hn => ?_)) | (refine gcall_no not_false ?_) | (refine gdcall_no not_false ?_) | (refine GuardS_of _ _ _ _ _ _ (fun hg => ?_) (fun hg => ?_)) | (refine GuardD_of _ _ _ _ (fun hg => ?_) (fun hg => ?_)) | (refine CondB_of _ _ _ _ _ _ _ ?_ (fun hg => ?_) (fun hg => ?_)))
  all_goals first
    | (intro p hp; simp only [List.mem_cons, List.not_mem_nil, or_false] at hp; rcases hp with rfl | rfl <;> simp [y2]; done)
    | (intro p hp; simp only [List.mem_cons, List.not_mem_nil, or_false] at hp; subst hp; simp [y2]; done)
    | (intro p hp; cases hp; done)
    | (exact .inl (by decide))
    | (show List.IsSuffix _ bb; repeat' (first | assumption | refine (takS_suf _ _).trans ?_ | refine (textS_suf _).trans ?_ | refine (bitS_suf _).trans ?_ | refine (intsS_suf _).trans ?_ | refine (itS_suf _ _).trans ?_))
    | trivial
    | (unfold Fr.below; simp [Fr.allN, AV.allN, AV.allNL, y5]; done)
    | (unfold noN; simp [Fr.allN, AV.allN, AV.allNL, AO.allN]; done)
    | (unfold Loc.below; simp [AO.allN, AV.allN, AV.allNL, y5]; done)
    | (unfold Loc.below; simp only [List.all_cons, List.all_nil, eyO_allN, y5]; simp [AO.allN, AV.allN, AV.allNL]; done)
    | (have hb : txBad (b, e) = true := (by assumption : decide (takN (b, e) 1 > ((takS (b, e) 1).1.length : Int)) = true)
       have hb2 := of_decide_eq_true hb
       first
       | (right; show (takS (b, e) 1).1.length < _; omega)
       | (unfold textN; rw [hb]; rfl)
       | (funext x
          by_cases z1 : x = n
          · subst z1; simp only [if_true]; unfold textS; rw [hb]; rfl
          · simp only [if_neg z1]; simp [hid1, z1]))
    | (have hb : txBad (b, e) = false := (by assumption : decide (takN (b, e) 1 > ((takS (b, e) 1).1.length : Int)) = false)
       have hb2 := of_decide_eq_false hb
       first
       | omega
       | exact Int.le_refl _
       | (unfold textN; rw [hb]; rfl)
       | (funext x
          by_cases z1 : x = n
          · subst z1; simp only [if_true]; unfold textS; rw [hb]; simp only [cond_false, eyO, List.length_drop]; simp; omega
          · simp only [if_neg z1]; simp [hid1, z1]))
    | (refine rd_end ?_ ?_
       · simp [textS, textN]
       · intro x z1; simp [z1, hid1])
theorem yes_L  : Looks Tryd.prog 69 [] (fun s => Bo (bitN s)) (fun s => bitS s) (fun s => True) := by
  intro B σ n bb b e hn hσ hx hbb hp
  refine own_ofL [(n, eyO bb b e)] (hid1_sto hσ) hid1_closed follows Tryd.func69 c69_eq r69 (Nat.le_of_ble_eq_true rfl) fun hcl hsz => ?_
  clear hsz
  have y1 : ∀ s, (n = B + s) = False := fun s => by simp; omega
  have y2 : ∀ s, (B + s = n) = False := fun s => by simp; omega
  have y3 : (n < B) = True := eq_true hn
  have y4 : decide (n < B) = true := by simpa using hn
  have y5 : decide (n < B + 100000) = true := by simp; omega
  have hb1 : bitS (b, e) = bif decide (takN (b, e) 1 > 1) && (takS (b, e) 1).2 == 0 then ((takS (b, e) 1).1, 4) else takS (b, e) 1 := rfl
  have hb2 : bitN (b, e) = (takN (b, e) 1 == 1) := rfl
  clear hσ
  repeat' (first | (simp -implicitDefEqProofs only [*, contN, contC, Nat.reduceBEq, Bool.or_false, Bool.or_true, Bool.false_or, Bool.true_or, Bool.not_true, Bool.not_false, w_skip, w_ret, w_exit, w_reg, w_dreg, w_seq, SK_n, SK_r, SK_x, w_keep, w_block, w_cond, w_nil, w_cons, w_consg, w_nnil, w_ncons, w_dnil, w_dcons, w_dconsg, HK_app, HD_app, HQ_n, HQ_r, HQ_x, HQ_bn, HQ_br, HQ_bx, HQ_en, HQ_er, HQ_ex, CondB_true, CondB_false, SO1, w_sdv, SDe_alloc, SDe_box, SDe_bslice, SDe_app, true_imp_iff, false_imp_iff, and_false, false_and, not_false_eq_true, not_true_eq_false, addN, mkNames, killT, killD, killO, List.foldl_nil, List.foldl_cons, List.append_nil, List.nil_append, List.cons_append, GuardS_true, GuardS_false, GuardD_true, GuardD_false, DK_true, DK_false, lt_self_add, le_self_add, decide_true, decide_false, Bool.false_eq_true, Bool.true_eq_false, Nat.add_left_cancel_iff, SE, SEalloc, SEbox, SEstore, w_bs, SEbl, SEfz, SEbs0, fzName, osOf, AV.fz1, w_app, w_mk, aev, opd, Fr.get, putO, Fr.norm, List.map_cons, List.map_nil, with1, with2, onInt, AV.lit, entry, ↓reduceIte, Nat.reduceEqDiff, Nat.reduceAdd, reduceCtorEq, true_and, and_true, Option.map_some, Option.map_none, Option.bind_some, Option.bind_none, cond_true, cond_false, binV, unV, fieldV, loadV, sto, cellsAV, newF, newL, Fr.map, Loc.kill, Loc.set, AV.kill, AV.mapN, AV.mapNL, List.filter_nil, List.filter_cons, allP, EndV, retV, resV, resL, frz, dropL, AV.pick, nilV, tupV, imp_self, ne_eq, Int.cast_ofNat_Int, Int.reduceLT, Int.reduceToNat, List.getD_cons_zero, List.getD_cons_succ, bsliceV, buildV, afill, repl, chunk, rvs, AV.rv, RV.nrm, List.getElem?_nil, List.append_assoc, Nat.reduceMul, Nat.reducePow, Nat.zero_lt_succ, Nat.zero_add, Nat.add_zero, List.length_cons, List.length_nil, Nat.reduceLeDiff, Nat.le_refl, List.take_succ_cons, List.take_zero, List.drop_succ_cons, List.drop_zero, indexV, lenV, rowOf_mapD, rowOf_mapI, rowOf_mapA, List.length_map, Int.toNat_natCast, List.getElem?_cons_zero, List.getElem?_cons_succ, and_self, implies_true, if_true, if_false, HQ_zn, HQ_zr, HQ_wn, HQ_wr, AV.nz, AV.nzL, RV.nrm, SEbin, SEnil, nilK, srcV, dstV, appName, List.length_append, Nat.mul_one, take_map_len, take_map_app, List.getElem?_cons_zero, List.map_append, SEmkmap, SEmset, mgetV, kvOf, getM, setM, c69, r69, v69_1, v69_2, u69_3, u69_4, u69_5, u69_6, u69_7, ty3, ty58, ty33, aokB, aokD, aokA, ↓eyO_allN, ↓eyO_kill, y1, y2, y3, y4, y5, prEta]) | (with_reducible refine And.intro ?_ ?_) | (refine call_e0 (d := some 5) (by omega) e24 ( num_L 1 (by decide)) rfl ?_ ?_ hbb ?_ ?_ ?_ ?_ ?_) | (refine call_e1 (d := some 5) (by omega) e24 ( num_L 1 (by decide)) rfl ?_ ?_ hbb ?_ ?_ ?_ ?_ ?_) | (refine call_e2 (d := some 5) (by omega) e24 ( num_L 1 (by decide)) rfl ?_ ?_ hbb ?_ ?_ ?_ ?_ ?_) | (refine EndX.plain ?_) | (refine nil_split (fun hn => ?_) (fun hn => ?_)) | (refine gcall_no not_false ?_) | (refine gdcall_no not_false ?_) | (refine GuardS_of _ _ _ _ _ _ (fun hg => ?_) (fun hg => ?_)) | (refine GuardD_of _ _ _ _ (fun hg => ?_) (fun hg => ?_)) | (refine CondB_of _ _ _ _ _ _ _ ?_ (fun hg => ?_) (fun hg => ?_)))
  repeat' (first | (simp -implicitDefEqProofs only [*, contN, contC, Nat.reduceBEq, Bool.or_false, Bool.or_true, Bool.false_or, Bool.true_or, Bool.not_true, Bool.not_false, w_skip, w_ret, w_exit, w_reg, w_dreg, w_seq, SK_n, SK_r, SK_x, w_keep, w_block, w_cond, w_nil, w_cons, w_consg, w_nnil, w_ncons, w_dnil, w_dcons, w_dconsg, HK_app, HD_app, HQ_n, HQ_r, HQ_x, HQ_bn, HQ_br, HQ_bx, HQ_en, HQ_er, HQ_ex, CondB_true, CondB_false, SO1, w_sdv, SDe_alloc, SDe_box, SDe_bslice, SDe_app, true_imp_iff, false_imp_iff, and_false, false_and, not_false_eq_true, not_true_eq_false, addN, mkNames, killT, killD, killO, List.foldl_nil, List.foldl_cons, List.append_nil, List.nil_append, List.cons_append, GuardS_true, GuardS_false, GuardD_true, GuardD_false, DK_true, DK_false, lt_self_add, le_self_add, decide_true, decide_false, Bool.false_eq_true, Bool.true_eq_false, Nat.add_left_cancel_iff, SE, SEalloc, SEbox, SEstore, w_bs, SEbl, SEfz, SEbs0, fzName, osOf, AV.fz1, w_app, w_mk, aev, opd, Fr.get, putO, Fr.norm, List.map_cons, List.map_nil, with1, with2, onInt, AV.lit, entry, ↓reduceIte, Nat.reduceEqDiff, Nat.reduceAdd, reduceCtorEq, true_and, and_true, Option.map_some, Option.map_none, Option.bind_some, Option.bind_none, cond_true, cond_false, binV, unV, fieldV, loadV, sto, cellsAV, newF, newL, Fr.map, Loc.kill, Loc.set, AV.kill, AV.mapN, AV.mapNL, List.filter_nil, List.filter_cons, allP, EndV, retV, resV, resL, frz, dropL, AV.pick, nilV, tupV, imp_self, ne_eq, Int.cast_ofNat_Int, Int.reduceLT, Int.reduceToNat, List.getD_cons_zero, List.getD_cons_succ, bsliceV, buildV, afill, repl, chunk, rvs, AV.rv, RV.nrm, List.getElem?_nil, List.append_assoc, Nat.reduceMul, Nat.reducePow, Nat.zero_lt_succ, Nat.zero_add, Nat.add_zero, List.length_cons, List.length_nil, Nat.reduceLeDiff, Nat.le_refl, List.take_succ_cons, List.take_zero, List.drop_succ_cons, List.drop_zero, indexV, lenV, rowOf_mapD, rowOf_mapI, rowOf_mapA, List.length_map, Int.toNat_natCast, List.getElem?_cons_zero, List.getElem?_cons_succ, and_self, implies_true, if_true, if_false, HQ_zn, HQ_zr, HQ_wn, HQ_wr, AV.nz, AV.nzL, RV.nrm, SEbin, SEnil, nilK, srcV, dstV, appName, List.length_append, Nat.mul_one, take_map_len, take_map_app, List.getElem?_cons_zero, List.map_append, SEmkmap, SEmset, mgetV, kvOf, getM, setM, c69, r69, v69_1, v69_2, u69_3, u69_4, u69_5, u69_6, u69_7, ty3, ty58, ty33, aokB, aokD, aokA, ↓eyO_allN, ↓eyO_kill, y1, y2, y3, y4, y5, eyO, prEta]) | (with_reducible refine And.intro ?_ ?_) | (refine call_e0 (d := some 5) (by omega) e24 ( num_L 1 (by decide)) rfl ?_ ?_ hbb ?_ ?_ ?_ ?_ ?_) | (refine call_e1 (d := some 5) (by omega) e24 ( num_L 1 (by decide)) rfl ?_ ?_ hbb ?_ ?_ ?_ ?_ ?_) | (refine call_e2 (d := some 5) (by omega) e24 ( num_L 1 (by decide)) rfl ?_ ?_ hbb ?_ ?_ ?_ ?_ ?_) | (refine EndX.plain ?_) | (refine nil_split (fun hn => ?_) (fun hn => ?_)) | (refine gcall_no not_false ?_) | (refine gdcall_no not_false ?_) | (refine GuardS_of _ _ _ _ _ _ (fun hg => ?_) (fun hg => ?_)) | (refine GuardD_of _ _ _ _ (fun hg => ?_) (fun hg => ?_)) | (refine CondB_of _ _ _ _ _ _ _ ?_ (fun hg => ?_) (fun hg => ?_)))
  all_goals first
    | (intro p hp; simp only [List.mem_cons, List.not_mem_nil, or_false] at hp; rcases hp with rfl | rfl <;> simp [y2]; done)
    | (intro p hp; simp only [List.mem_cons, List.not_mem_nil, or_false] at hp; subst hp; simp [y2]; done)
    | (intro p hp; cases hp; done)
    | (exact .inl (by decide))
    | (show List.IsSuffix _ bb; repeat' (first | assumption | refine (takS_suf _ _).trans ?_ | refine (textS_suf _).trans ?_ | refine (bitS_suf _).trans ?_ | refine (intsS_suf _).trans ?_ | refine (itS_suf _ _).trans ?_))
    | trivial
    | (unfold Fr.below; simp [Fr.allN, AV.allN, AV.allNL, y5]; done)
    | (unfold noN; simp [Fr.allN, AV.allN, AV.allNL, AO.allN]; done)
    | (unfold Loc.below; simp [AO.allN, AV.allN, AV.allNL, y5]; done)
    | (unfold Loc.below; simp only [List.all_cons, List.all_nil, eyO_allN, y5]; simp [AO.allN, AV.allN, AV.allNL]; done)
    | (refine rd_end ?_ ?_
       · simp [List.map_cons]
       · intro x z1; simp [z1, hid1])
theorem list_L  : Looks Tryd.prog 48 [] (fun s => .d (ints (intsN s))) (fun s => intsS s) (fun s => True) := by
  intro B σ n bb b e hn hσ hx hbb hp
  refine own_ofL [(n, eyO bb b e)] (hid1_sto hσ) hid1_closed follows Tryd.func48 c48_eq r48 (Nat.le_of_ble_eq_true rfl) fun hcl hsz => ?_
  clear hsz
  have y1 : ∀ s, (n = B + s) = False := fun s => by simp; omega
  have y2 : ∀ s, (B + s = n) = False := fun s => by simp; omega
  have y3 : (n < B) = True := eq_true hn
  have y4 : decide (n < B) = true := by simpa using hn
  have y5 : decide (n < B + 100000) = true := by simp; omega
  have hx0 := (takN_1 (b, e)).1
  have hx1 := (takN_1 (b, e)).2
  obtain ⟨M, hM⟩ : ∃ M, itC (b, e) ((takN (b, e) 1).toNat - 0) 0 = M := ⟨_, rfl⟩
  have hM2 : itM (b, e) = M := hM
  clear hσ hp
  repeat' (first | (simp -implicitDefEqProofs only [*, contN, contC, Nat.reduceBEq, Bool.or_false, Bool.or_true, Bool.false_or, Bool.true_or, Bool.not_true, Bool.not_false, w_skip, w_ret, w_exit, w_reg, w_dreg, w_seq, SK_n, SK_r, SK_x, w_keep, w_block, w_cond, w_nil, w_cons, w_consg, w_nnil, w_ncons, w_dnil, w_dcons, w_dconsg, HK_app, HD_app, HQ_n, HQ_r, HQ_x, HQ_bn, HQ_br, HQ_bx, HQ_en, HQ_er, HQ_ex, CondB_true, CondB_false, SO1, w_sdv, SDe_alloc, SDe_box, SDe_bslice, SDe_app, true_imp_iff, false_imp_iff, and_false, false_and, not_false_eq_true, not_true_eq_false, addN, mkNames, killT, killD, killO, List.foldl_nil, List.foldl_cons, List.append_nil, List.nil_append, List.cons_append, GuardS_true, GuardS_false, GuardD_true, GuardD_false, DK_true, DK_false, lt_self_add, le_self_add, decide_true, decide_false, Bool.false_eq_true, Bool.true_eq_false, Nat.add_left_cancel_iff, SE, SEalloc, SEbox, SEstore, w_bs, SEbl, SEfz, SEbs0, fzName, osOf, AV.fz1, w_app, w_mk, aev, opd, Fr.get, putO, Fr.norm, List.map_cons, List.map_nil, with1, with2, onInt, AV.lit, entry, ↓reduceIte, Nat.reduceEqDiff, Nat.reduceAdd, reduceCtorEq, true_and, and_true, Option.map_some, Option.map_none, Option.bind_some, Option.bind_none, cond_true, cond_false, binV, unV, fieldV, loadV, sto, cellsAV, newF, newL, Fr.map, Loc.kill, Loc.set, AV.kill, AV.mapN, AV.mapNL, List.filter_nil, List.filter_cons, allP, EndV, retV, resV, resL, frz, dropL, AV.pick, nilV, tupV, imp_self, ne_eq, Int.cast_ofNat_Int, Int.reduceLT, Int.reduceToNat, List.getD_cons_zero, List.getD_cons_succ, bsliceV, buildV, afill, repl, chunk, rvs, AV.rv, RV.nrm, List.getElem?_nil, List.append_assoc, Nat.reduceMul, Nat.reducePow, Nat.zero_lt_succ, Nat.zero_add, Nat.add_zero, List.length_cons, List.length_nil, Nat.reduceLeDiff, Nat.le_refl, List.take_succ_cons, List.take_zero, List.drop_succ_cons, List.drop_zero, indexV, lenV, rowOf_mapD, rowOf_mapI, rowOf_mapA, List.length_map, Int.toNat_natCast, List.getElem?_cons_zero, List.getElem?_cons_succ, and_self, implies_true, if_true, if_false, HQ_zn, HQ_zr, HQ_wn, HQ_wr, AV.nz, AV.nzL, RV.nrm, SEbin, SEnil, nilK, srcV, dstV, appName, List.length_append, Nat.mul_one, take_map_len, take_map_app, List.getElem?_cons_zero, List.map_append, SEmkmap, SEmset, mgetV, kvOf, getM, setM, c48, r48, v48_1, v48_2, u48_3, u48_4, u48_5, u48_6, u48_7, u48_8, u48_9, u48_10, u48_11, u48_12, ty3, ty58, ty33, ty24, aokB, aokD, aokA, ↓eyO_allN, ↓eyO_kill, y1, y2, y3, y4, y5, prEta]) | (with_reducible refine And.intro ?_ ?_) | (refine call_e0 (d := some 8) (by omega) e24 ( num_L 1 (by decide)) rfl ?_ ?_ hbb ?_ ?_ ?_ ?_ ?_) | (refine call_e1 (d := some 8) (by omega) e24 ( num_L 1 (by decide)) rfl ?_ ?_ hbb ?_ ?_ ?_ ?_ ?_) | (refine call_e2 (d := some 8) (by omega) e24 ( num_L 1 (by decide)) rfl ?_ ?_ hbb ?_ ?_ ?_ ?_ ?_) | (refine call_e0 (d := some 22) (by omega) e24 ( num_L 1 (by decide)) rfl ?_ ?_ hbb ?_ ?_ ?_ ?_ ?_) | (refine call_e1 (d := some 22) (by omega) e24 ( num_L 1 (by decide)) rfl ?_ ?_ hbb ?_ ?_ ?_ ?_ ?_) | (refine call_e2 (d := some 22) (by omega) e24 ( num_L 1 (by decide)) rfl ?_ ?_ hbb ?_ ?_ ?_ ?_ ?_) | (refine loop_nat ((takN (b, e) 1).toNat) (fun k => itC (b, e) ((takN (b, e) 1).toNat - k) k = M) (fun k => [(0, .lp n 0), (3, I (takN (b, e) 1)), (5, I k), (4, .os (B + 28) (itL (b, e) k).length)]) (fun k => [(B + 28, .arr 1 3 ((itL (b, e) k).map int_)), (n, eyO bb (itS (b, e) k).1 (itS (b, e) k).2)]) ?_ (Wk.trans (Wk.nameF (s := 4) (n := B + 28) (k := 1) (E := 3) rfl (by omega) (.inl (by omega)) (fun m => AO.kill_below (q := fun m => decide (m < B)) (by simp) _ (hcl m).1)) (Wk.keep hcl ?_ ?_ ?_)) fun k hk hF => ?_; rotate_left 1; (focus (simp [Fr.get, newF, Fr.map, AV.kill, AV.mapN, aokB, aokD, aokA, ↓eyO_allN, ↓eyO_kill, y1, y2, y3, y4, y5, prEta] <;> fail)); (focus (simp [sto, newL, Loc.kill, Loc.set, AO.kill, AV.kill, AV.mapN, aokB, aokD, aokA, ↓eyO_allN, ↓eyO_kill, y1, y2, y3, y4, y5, prEta] <;> fail)); (focus (simp [newL, Loc.kill, Loc.set, aokB, aokD, aokA, ↓eyO_allN, ↓eyO_kill, y1, y2, y3, y4, y5, prEta] <;> fail)); (try have hw : IntKind.i64.wrap ((k : Int) + 1) = (k : Int) + 1 := IntWalk.i64_in _ (by omega))) | (refine EndX.plain ?_) | (refine nil_split (fun hn => ?_) (fun hn => ?_)) | (refine gcall_no not_false ?_) | (refine gdcall_no not_false ?_) | (refine GuardS_of _ _ _ _ _ _ (fun hg => ?_) (fun hg => ?_)) | (refine GuardD_of _ _ _ _ (fun hg => ?_) (fun hg => ?_)) | (refine CondB_of _ _ _ _ _ _ _ ?_ (fun hg => ?_) (fun hg => ?_)))
  repeat' (first | (simp -implicitDefEqProofs only [*, contN, contC, Nat.reduceBEq, Bool.or_false, Bool.or_true, Bool.false_or, Bool.true_or, Bool.not_true, Bool.not_false, w_skip, w_ret, w_exit, w_reg, w_dreg, w_seq, SK_n, SK_r, SK_x, w_keep, w_block, w_cond, w_nil, w_cons, w_consg, w_nnil, w_ncons, w_dnil, w_dcons, w_dconsg, HK_app, HD_app, HQ_n, HQ_r, HQ_x, HQ_bn, HQ_br, HQ_bx, HQ_en, HQ_er, HQ_ex, CondB_true, CondB_false, SO1, w_sdv, SDe_alloc, SDe_box, SDe_bslice, SDe_app, true_imp_iff, false_imp_iff, and_false, false_and, not_false_eq_true, not_true_eq_false, addN, mkNames, killT, killD, killO, List.foldl_nil, List.foldl_cons, List.append_nil, List.nil_append, List.cons_append, GuardS_true, GuardS_false, GuardD_true, GuardD_false, DK_true, DK_false, lt_self_add, le_self_add, decide_true, decide_false, Bool.false_eq_true, Bool.true_eq_false, Nat.add_left_cancel_iff, SE, SEalloc, SEbox, SEstore, w_bs, SEbl, SEfz, SEbs0, fzName, osOf, AV.fz1, w_app, w_mk, aev, opd, Fr.get, putO, Fr.norm, List.map_cons, List.map_nil, with1, with2, onInt, AV.lit, entry, ↓reduceIte, Nat.reduceEqDiff, Nat.reduceAdd, reduceCtorEq, true_and, and_true, Option.map_some, Option.map_none, Option.bind_some, Option.bind_none, cond_true, cond_false, binV, unV, fieldV, loadV, sto, cellsAV, newF, newL, Fr.map, Loc.kill, Loc.set, AV.kill, AV.mapN, AV.mapNL, List.filter_nil, List.filter_cons, allP, EndV, retV, resV, resL, frz, dropL, AV.pick, nilV, tupV, imp_self, ne_eq, Int.cast_ofNat_Int, Int.reduceLT, Int.reduceToNat, List.getD_cons_zero, List.getD_cons_succ, bsliceV, buildV, afill, repl, chunk, rvs, AV.rv, RV.nrm, List.getElem?_nil, List.append_assoc, Nat.reduceMul, Nat.reducePow, Nat.zero_lt_succ, Nat.zero_add, Nat.add_zero, List.length_cons, List.length_nil, Nat.reduceLeDiff, Nat.le_refl, List.take_succ_cons, List.take_zero, List.drop_succ_cons, List.drop_zero, indexV, lenV, rowOf_mapD, rowOf_mapI, rowOf_mapA, List.length_map, Int.toNat_natCast, List.getElem?_cons_zero, List.getElem?_cons_succ, and_self, implies_true, if_true, if_false, HQ_zn, HQ_zr, HQ_wn, HQ_wr, AV.nz, AV.nzL, RV.nrm, SEbin, SEnil, nilK, srcV, dstV, appName, List.length_append, Nat.mul_one, take_map_len, take_map_app, List.getElem?_cons_zero, List.map_append, SEmkmap, SEmset, mgetV, kvOf, getM, setM, c48, r48, v48_1, v48_2, u48_3, u48_4, u48_5, u48_6, u48_7, u48_8, u48_9, u48_10, u48_11, u48_12, ty3, ty58, ty33, ty24, aokB, aokD, aokA, ↓eyO_allN, ↓eyO_kill, y1, y2, y3, y4, y5, eyO, prEta, ints, int_, itS_0, itL_0]) | (with_reducible refine And.intro ?_ ?_) | (refine call_e0 (d := some 8) (by omega) e24 ( num_L 1 (by decide)) rfl ?_ ?_ hbb ?_ ?_ ?_ ?_ ?_) | (refine call_e1 (d := some 8) (by omega) e24 ( num_L 1 (by decide)) rfl ?_ ?_ hbb ?_ ?_ ?_ ?_ ?_) | (refine call_e2 (d := some 8) (by omega) e24 ( num_L 1 (by decide)) rfl ?_ ?_ hbb ?_ ?_ ?_ ?_ ?_) | (refine call_e0 (d := some 22) (by omega) e24 ( num_L 1 (by decide)) rfl ?_ ?_ hbb ?_ ?_ ?_ ?_ ?_) | (refine call_e1 (d := some 22) (by omega) e24 ( num_L 1 (by decide)) rfl ?_ ?_ hbb ?_ ?_ ?_ ?_ ?_) | (refine call_e2 (d := some 22) (by omega) e24 ( num_L 1 (by decide)) rfl ?_ ?_ hbb ?_ ?_ ?_ ?_ ?_) | (refine loop_nat ((takN (b, e) 1).toNat) (fun k => itC (b, e) ((takN (b, e) 1).toNat - k) k = M) (fun k => [(0, .lp n 0), (3, I (takN (b, e) 1)), (5, I k), (4, .os (B + 28) (itL (b, e) k).length)]) (fun k => [(B + 28, .arr 1 3 ((itL (b, e) k).map int_)), (n, eyO bb (itS (b, e) k).1 (itS (b, e) k).2)]) ?_ (Wk.trans (Wk.nameF (s := 4) (n := B + 28) (k := 1) (E := 3) rfl (by omega) (.inl (by omega)) (fun m => AO.kill_below (q := fun m => decide (m < B)) (by simp) _ (hcl m).1)) (Wk.keep hcl ?_ ?_ ?_)) fun k hk hF => ?_; rotate_left 1; (focus (simp [Fr.get, newF, Fr.map, AV.kill, AV.mapN, aokB, aokD, aokA, ↓eyO_allN, ↓eyO_kill, y1, y2, y3, y4, y5, eyO, prEta, ints, int_, itS_0, itL_0] <;> fail)); (focus (simp [sto, newL, Loc.kill, Loc.set, AO.kill, AV.kill, AV.mapN, aokB, aokD, aokA, ↓eyO_allN, ↓eyO_kill, y1, y2, y3, y4, y5, eyO, prEta, ints, int_, itS_0, itL_0] <;> fail)); (focus (simp [newL, Loc.kill, Loc.set, aokB, aokD, aokA, ↓eyO_allN, ↓eyO_kill, y1, y2, y3, y4, y5, eyO, prEta, ints, int_, itS_0, itL_0] <;> fail)); (try have hw : IntKind.i64.wrap ((k : Int) + 1) = (k : Int) + 1 := IntWalk.i64_in _ (by omega))) | (refine EndX.plain ?_) | (refine nil_split (fun hn => ?_) (fun hn => ?_)) | (refine gcall_no not_false ?_) | (refine gdcall_no not_false ?_) | (refine GuardS_of _ _ _ _ _ _ (fun hg => ?_) (fun hg => ?_)) | (refine GuardD_of _ _ _ _ (fun hg => ?_) (fun hg => ?_)) | (refine CondB_of _ _ _ _ _ _ _ ?_ (fun hg => ?_) (fun hg => ?_)))
  all_goals first
    | (intro p hp; simp only [List.mem_cons, List.not_mem_nil, or_false] at hp; rcases hp with rfl | rfl <;> simp [y2]; done)
    | (intro p hp; simp only [List.mem_cons, List.not_mem_nil, or_false] at hp; subst hp; simp [y2]; done)
    | (intro p hp; cases hp; done)
    | (exact .inl (by decide))
    | (show List.IsSuffix _ bb; repeat' (first | assumption | refine (takS_suf _ _).trans ?_ | refine (textS_suf _).trans ?_ | refine (bitS_suf _).trans ?_ | refine (intsS_suf _).trans ?_ | refine (itS_suf _ _).trans ?_))
    | trivial
    | (unfold Fr.below; simp [Fr.allN, AV.allN, AV.allNL, y5]; done)
    | (unfold noN; simp [Fr.allN, AV.allN, AV.allNL, AO.allN]; done)
    | (unfold Loc.below; simp [AO.allN, AV.allN, AV.allNL, y5]; done)
    | (unfold Loc.below; simp only [List.all_cons, List.all_nil, eyO_allN, y5]; simp [AO.allN, AV.allN, AV.allNL]; done)
    | (have hlt := of_decide_eq_true (by assumption : decide ((k : Int) < takN (b, e) 1) = true)
       have h0 := (by assumption : ((itS (b, e) k).2 == 0) = true)
       have hlt : k < (takN (b, e) 1).toNat := by omega
       first
       | exact hlt
       | exact itC_go hF hlt h0
       | (rw [itL_len]; omega)
       | (rw [show (k : Int) + 1 = ((k + 1 : Nat) : Int) by omega, ← itS_next, ← itL_next, List.map_append, List.length_append]
          refine Wk.keep hcl ?_ ?_ ?_ <;> simp [Fr.get, sto, eyO, int_, y1, y2]))
    | (have hk3 : k = M := by
         first
         | (have hle := of_decide_eq_false (by assumption : decide ((k : Int) < takN (b, e) 1) = false)
            exact itC_end hF (by omega))
         | exact itC_no hF (by assumption)
       first
       | (unfold intsN; rw [hM2, ← hk3])
       | (funext x
          by_cases z1 : x = n
          · subst z1; simp only [if_true]; unfold intsS; rw [hM2, ← hk3]
          · simp only [if_neg z1]; simp [hid1, z1]))
    | (refine rd_end ?_ ?_
       · simp [intsS, intsN]
       · intro x z1; simp [z1, hid1])
end Go.Proofs.YtijpmidnclbhpaaDoor
