/- code.bare: has a record just what its kind has? -/
import Derived.Test.YtckjgipcephmfaaDoorKRec
import Derived.Test.YtckjgipcephmfaaDoorTypes
namespace Go.Proofs.YtckjgipcephmfaaDoor
open Go.RowKit
set_option maxRecDepth 100000
def o14_1 : List SO := ((SO.mk (some 3) (.alloc 51) none) :: (SO.mk none (.store 51 (.tmp 3) (.tmp 7)) none) :: [])
theorem v14_1 : type_of% (@swl _ _ o14_1.eq_1) := @swl _ _ o14_1.eq_1
def o14_2 : List SO := ((SO.mk (some 2) (.move (.tmp 107)) none) :: [])
theorem v14_2 : type_of% (@swl _ _ o14_2.eq_1) := @swl _ _ o14_2.eq_1
def o14_3 : List SO := ((SO.mk (some 104) (.load 3 (.tmp 103)) (some (102 , false))) :: (SO.mk (some 105) (.bin .eql 3 (.tmp 104) (.const (Value.int .i64 0))) (some (102 , false))) :: (SO.mk (some 106) (.pick (.tmp 102) (.const (Value.bool true)) (.tmp 105)) (some (99 , true))) :: (SO.mk (some 107) (.pick (.tmp 99) (.tmp 106) (.const (Value.bool false))) none) :: o14_2)
theorem v14_3 : type_of% (@swl _ _ o14_3.eq_1) := @swl _ _ o14_3.eq_1
def o14_4 : List SO := ((SO.mk (some 100) (.faddr 51 (.tmp 3) 10) (some (99 , true))) :: (SO.mk (some 101) (.load 4 (.tmp 100)) (some (99 , true))) :: (SO.mk (some 102) (.move (.tmp 101)) (some (99 , true))) :: (SO.mk (some 103) (.faddr 42 (.tmp 1) 11) (some (102 , false))) :: o14_3)
theorem v14_4 : type_of% (@swl _ _ o14_4.eq_1) := @swl _ _ o14_4.eq_1
def o14_5 : List SO := ((SO.mk (some 96) (.bin .eql 3 (.tmp 95) (.const (Value.int .i64 0))) (some (93 , false))) :: (SO.mk (some 97) (.pick (.tmp 93) (.const (Value.bool true)) (.tmp 96)) (some (90 , true))) :: (SO.mk (some 98) (.pick (.tmp 90) (.tmp 97) (.const (Value.bool false))) none) :: (SO.mk (some 99) (.move (.tmp 98)) none) :: o14_4)
theorem v14_5 : type_of% (@swl _ _ o14_5.eq_1) := @swl _ _ o14_5.eq_1
def o14_6 : List SO := ((SO.mk (some 92) (.load 4 (.tmp 91)) (some (90 , true))) :: (SO.mk (some 93) (.move (.tmp 92)) (some (90 , true))) :: (SO.mk (some 94) (.faddr 42 (.tmp 1) 10) (some (93 , false))) :: (SO.mk (some 95) (.load 3 (.tmp 94)) (some (93 , false))) :: o14_5)
theorem v14_6 : type_of% (@swl _ _ o14_6.eq_1) := @swl _ _ o14_6.eq_1
def o14_7 : List SO := ((SO.mk (some 88) (.pick (.tmp 83) (.const (Value.bool true)) (.tmp 87)) (some (80 , true))) :: (SO.mk (some 89) (.pick (.tmp 80) (.tmp 88) (.const (Value.bool false))) none) :: (SO.mk (some 90) (.move (.tmp 89)) none) :: (SO.mk (some 91) (.faddr 51 (.tmp 3) 9) (some (90 , true))) :: o14_6)
theorem v14_7 : type_of% (@swl _ _ o14_7.eq_1) := @swl _ _ o14_7.eq_1
def o14_8 : List SO := ((SO.mk (some 84) (.faddr 42 (.tmp 1) 9) (some (83 , false))) :: (SO.mk (some 85) (.load 34 (.tmp 84)) (some (83 , false))) :: (SO.mk (some 86) (.len 34 (.tmp 85)) (some (83 , false))) :: (SO.mk (some 87) (.bin .eql 3 (.tmp 86) (.const (Value.int .i64 0))) (some (83 , false))) :: o14_7)
theorem v14_8 : type_of% (@swl _ _ o14_8.eq_1) := @swl _ _ o14_8.eq_1
def o14_9 : List SO := ((SO.mk (some 80) (.move (.tmp 79)) none) :: (SO.mk (some 81) (.faddr 51 (.tmp 3) 8) (some (80 , true))) :: (SO.mk (some 82) (.load 4 (.tmp 81)) (some (80 , true))) :: (SO.mk (some 83) (.move (.tmp 82)) (some (80 , true))) :: o14_8)
theorem v14_9 : type_of% (@swl _ _ o14_9.eq_1) := @swl _ _ o14_9.eq_1
def o14_10 : List SO := ((SO.mk (some 76) (.load 40 (.tmp 75)) (some (74 , false))) :: (SO.mk (some 77) (.call 36 [(.tmp 76)]) (some (74 , false))) :: (SO.mk (some 78) (.pick (.tmp 74) (.const (Value.bool true)) (.tmp 77)) (some (71 , true))) :: (SO.mk (some 79) (.pick (.tmp 71) (.tmp 78) (.const (Value.bool false))) none) :: o14_9)
theorem v14_10 : type_of% (@swl _ _ o14_10.eq_1) := @swl _ _ o14_10.eq_1
def o14_11 : List SO := ((SO.mk (some 72) (.faddr 51 (.tmp 3) 7) (some (71 , true))) :: (SO.mk (some 73) (.load 4 (.tmp 72)) (some (71 , true))) :: (SO.mk (some 74) (.move (.tmp 73)) (some (71 , true))) :: (SO.mk (some 75) (.faddr 42 (.tmp 1) 8) (some (74 , false))) :: o14_10)
theorem v14_11 : type_of% (@swl _ _ o14_11.eq_1) := @swl _ _ o14_11.eq_1
def o14_12 : List SO := ((SO.mk (some 68) (.bin .eql 38 (.tmp 66) (.tmp 67)) (some (64 , false))) :: (SO.mk (some 69) (.pick (.tmp 64) (.const (Value.bool true)) (.tmp 68)) (some (61 , true))) :: (SO.mk (some 70) (.pick (.tmp 61) (.tmp 69) (.const (Value.bool false))) none) :: (SO.mk (some 71) (.move (.tmp 70)) none) :: o14_11)
theorem v14_12 : type_of% (@swl _ _ o14_12.eq_1) := @swl _ _ o14_12.eq_1
def o14_13 : List SO := ((SO.mk (some 64) (.move (.tmp 63)) (some (61 , true))) :: (SO.mk (some 65) (.faddr 42 (.tmp 1) 7) (some (64 , false))) :: (SO.mk (some 66) (.load 38 (.tmp 65)) (some (64 , false))) :: (SO.mk (some 67) (.build 38 []) (some (64 , false))) :: o14_12)
theorem v14_13 : type_of% (@swl _ _ o14_13.eq_1) := @swl _ _ o14_13.eq_1
def o14_14 : List SO := ((SO.mk (some 60) (.pick (.tmp 52) (.tmp 59) (.const (Value.bool false))) none) :: (SO.mk (some 61) (.move (.tmp 60)) none) :: (SO.mk (some 62) (.faddr 51 (.tmp 3) 6) (some (61 , true))) :: (SO.mk (some 63) (.load 4 (.tmp 62)) (some (61 , true))) :: o14_13)
theorem v14_14 : type_of% (@swl _ _ o14_14.eq_1) := @swl _ _ o14_14.eq_1
def o14_15 : List SO := ((SO.mk (some 56) (.faddr 42 (.tmp 1) 6) (some (55 , false))) :: (SO.mk (some 57) (.load 36 (.tmp 56)) (some (55 , false))) :: (SO.mk (some 58) (.call 35 [(.tmp 57)]) (some (55 , false))) :: (SO.mk (some 59) (.pick (.tmp 55) (.const (Value.bool true)) (.tmp 58)) (some (52 , true))) :: o14_14)
theorem v14_15 : type_of% (@swl _ _ o14_15.eq_1) := @swl _ _ o14_15.eq_1
def o14_16 : List SO := ((SO.mk (some 52) (.move (.tmp 51)) none) :: (SO.mk (some 53) (.faddr 51 (.tmp 3) 5) (some (52 , true))) :: (SO.mk (some 54) (.load 4 (.tmp 53)) (some (52 , true))) :: (SO.mk (some 55) (.move (.tmp 54)) (some (52 , true))) :: o14_15)
theorem v14_16 : type_of% (@swl _ _ o14_16.eq_1) := @swl _ _ o14_16.eq_1
def o14_17 : List SO := ((SO.mk (some 48) (.build 33 []) (some (45 , false))) :: (SO.mk (some 49) (.bin .eql 33 (.tmp 47) (.tmp 48)) (some (45 , false))) :: (SO.mk (some 50) (.pick (.tmp 45) (.const (Value.bool true)) (.tmp 49)) (some (42 , true))) :: (SO.mk (some 51) (.pick (.tmp 42) (.tmp 50) (.const (Value.bool false))) none) :: o14_16)
theorem v14_17 : type_of% (@swl _ _ o14_17.eq_1) := @swl _ _ o14_17.eq_1
def o14_18 : List SO := ((SO.mk (some 44) (.load 4 (.tmp 43)) (some (42 , true))) :: (SO.mk (some 45) (.move (.tmp 44)) (some (42 , true))) :: (SO.mk (some 46) (.faddr 42 (.tmp 1) 5) (some (45 , false))) :: (SO.mk (some 47) (.load 33 (.tmp 46)) (some (45 , false))) :: o14_17)
theorem v14_18 : type_of% (@swl _ _ o14_18.eq_1) := @swl _ _ o14_18.eq_1
def o14_19 : List SO := ((SO.mk (some 40) (.pick (.tmp 36) (.const (Value.bool true)) (.tmp 39)) (some (33 , true))) :: (SO.mk (some 41) (.pick (.tmp 33) (.tmp 40) (.const (Value.bool false))) none) :: (SO.mk (some 42) (.move (.tmp 41)) none) :: (SO.mk (some 43) (.faddr 51 (.tmp 3) 4) (some (42 , true))) :: o14_18)
theorem v14_19 : type_of% (@swl _ _ o14_19.eq_1) := @swl _ _ o14_19.eq_1
def o14_20 : List SO := ((SO.mk (some 36) (.move (.tmp 35)) (some (33 , true))) :: (SO.mk (some 37) (.faddr 42 (.tmp 1) 4) (some (36 , false))) :: (SO.mk (some 38) (.load 9 (.tmp 37)) (some (36 , false))) :: (SO.mk (some 39) (.bin .eql 9 (.tmp 38) (.const (Value.string ⟨#[]⟩))) (some (36 , false))) :: o14_19)
theorem v14_20 : type_of% (@swl _ _ o14_20.eq_1) := @swl _ _ o14_20.eq_1
def o14_21 : List SO := ((SO.mk (some 32) (.pick (.tmp 24) (.tmp 31) (.const (Value.bool false))) none) :: (SO.mk (some 33) (.move (.tmp 32)) none) :: (SO.mk (some 34) (.faddr 51 (.tmp 3) 3) (some (33 , true))) :: (SO.mk (some 35) (.load 4 (.tmp 34)) (some (33 , true))) :: o14_20)
theorem v14_21 : type_of% (@swl _ _ o14_21.eq_1) := @swl _ _ o14_21.eq_1
def o14_22 : List SO := ((SO.mk (some 28) (.faddr 42 (.tmp 1) 3) (some (27 , false))) :: (SO.mk (some 29) (.load 9 (.tmp 28)) (some (27 , false))) :: (SO.mk (some 30) (.bin .eql 9 (.tmp 29) (.const (Value.string ⟨#[]⟩))) (some (27 , false))) :: (SO.mk (some 31) (.pick (.tmp 27) (.const (Value.bool true)) (.tmp 30)) (some (24 , true))) :: o14_21)
theorem v14_22 : type_of% (@swl _ _ o14_22.eq_1) := @swl _ _ o14_22.eq_1
def o14_23 : List SO := ((SO.mk (some 24) (.move (.tmp 23)) none) :: (SO.mk (some 25) (.faddr 51 (.tmp 3) 2) (some (24 , true))) :: (SO.mk (some 26) (.load 4 (.tmp 25)) (some (24 , true))) :: (SO.mk (some 27) (.move (.tmp 26)) (some (24 , true))) :: o14_22)
theorem v14_23 : type_of% (@swl _ _ o14_23.eq_1) := @swl _ _ o14_23.eq_1
def o14_24 : List SO := ((SO.mk (some 20) (.load 3 (.tmp 19)) (some (18 , false))) :: (SO.mk (some 21) (.bin .eql 3 (.tmp 20) (.const (Value.int .i64 0))) (some (18 , false))) :: (SO.mk (some 22) (.pick (.tmp 18) (.const (Value.bool true)) (.tmp 21)) (some (15 , true))) :: (SO.mk (some 23) (.pick (.tmp 15) (.tmp 22) (.const (Value.bool false))) none) :: o14_23)
theorem v14_24 : type_of% (@swl _ _ o14_24.eq_1) := @swl _ _ o14_24.eq_1
def o14_25 : List SO := ((SO.mk (some 16) (.faddr 51 (.tmp 3) 1) (some (15 , true))) :: (SO.mk (some 17) (.load 4 (.tmp 16)) (some (15 , true))) :: (SO.mk (some 18) (.move (.tmp 17)) (some (15 , true))) :: (SO.mk (some 19) (.faddr 42 (.tmp 1) 2) (some (18 , false))) :: o14_24)
theorem v14_25 : type_of% (@swl _ _ o14_25.eq_1) := @swl _ _ o14_25.eq_1
def o14_26 : List SO := ((SO.mk (some 12) (.load 3 (.tmp 11)) (some (10 , false))) :: (SO.mk (some 13) (.bin .eql 3 (.tmp 12) (.const (Value.int .i64 0))) (some (10 , false))) :: (SO.mk (some 14) (.pick (.tmp 10) (.const (Value.bool true)) (.tmp 13)) none) :: (SO.mk (some 15) (.move (.tmp 14)) none) :: o14_25)
theorem v14_26 : type_of% (@swl _ _ o14_26.eq_1) := @swl _ _ o14_26.eq_1
def c14_27 : SC := (.seq (.reg ((SO.mk (some 8) (.faddr 51 (.tmp 3) 0) none) :: (SO.mk (some 9) (.load 4 (.tmp 8)) none) :: (SO.mk (some 10) (.move (.tmp 9)) none) :: (SO.mk (some 11) (.faddr 42 (.tmp 1) 1) (some (10 , false))) :: o14_26)) (.keep [2] .ret))
theorem u14_27 : type_of% (@swc _ _ c14_27.eq_1) := @swc _ _ c14_27.eq_1
def c14_28 : SC := (.seq (.reg ((SO.mk (some 4) (.faddr 42 (.tmp 1) 0) none) :: (SO.mk (some 5) (.load 3 (.tmp 4)) none) :: (SO.mk (some 6) (.iaddr 52 (.global 0) (.tmp 5)) none) :: (SO.mk (some 7) (.load 51 (.tmp 6)) none) :: o14_1)) (.keep [3, 1] c14_27))
theorem u14_28 : type_of% (@swc _ _ c14_28.eq_1) := @swc _ _ c14_28.eq_1
def c14 : SC := (.seq (.reg [SO.mk (some 1) (.box 42 (.tmp 0)) none, SO.mk (some 2) (.move (.const (Value.bool false))) none]) (.keep [1] c14_28))
theorem c14_eq : annC Tryd.f14 = some c14 := by kernel_rfl
theorem r14 : Tryd.f14.results.toList = [.tmp 2] := by kernel_rfl
theorem e14 : enters Tryd.prog 14 = true := by kernel_rfl
end Go.Proofs.YtckjgipcephmfaaDoor
namespace Go.Proofs.YtckjgipcephmfaaDoor
open Go.RowKit
set_option maxHeartbeats 4000000
set_option maxRecDepth 20000
attribute [local irreducible] SW SWL SWLn SWD SEcall SEcallv SDv SE SO1 SOg ACalls ACallv Wk EndV
set_option linter.unusedSimpArgs false
set_option linter.unusedVariables false
theorem feqR (a : ByteArray) (x y : Int) (b : ByteArray) (z w : Int) : feq Tryd.prog 20 33 [.d (.v (.string a)), .d (.v (.int .i64 x)), .d (.v (.int .i64 y))] [.d (.v (.string b)), .d (.v (.int .i64 z)), .d (.v (.int .i64 w))] = some (True, (a.toList == b.toList && (x == z && (y == w && true)))) := by
  have h : ∃ q, feq Tryd.prog 20 33 [.d (.v (.string a)), .d (.v (.int .i64 x)), .d (.v (.int .i64 y))] [.d (.v (.string b)), .d (.v (.int .i64 z)), .d (.v (.int .i64 w))] = some (q, (a.toList == b.toList && (x == z && (y == w && true)))) ∧ q := by
    refine ⟨True ∧ IntKind.i64 = IntKind.i64 ∧ IntKind.i64 = IntKind.i64 ∧ True, ?_, by simp⟩
    kernel_rfl
  obtain ⟨q, h1, h2⟩ := h
  rw [h1, eq_true h2]
theorem feqK (x y u z w v : Int) : feq Tryd.prog 20 38 [.d (.v (.int .i64 x)), .d (.v (.int .i64 y)), .d (.v (.int .i64 u))] [.d (.v (.int .i64 z)), .d (.v (.int .i64 w)), .d (.v (.int .i64 v))] = some (True, (x == z && (y == w && (u == v && true)))) := by
  have h : ∃ q, feq Tryd.prog 20 38 [.d (.v (.int .i64 x)), .d (.v (.int .i64 y)), .d (.v (.int .i64 u))] [.d (.v (.int .i64 z)), .d (.v (.int .i64 w)), .d (.v (.int .i64 v))] = some (q, (x == z && (y == w && (u == v && true)))) ∧ q := by
    refine ⟨IntKind.i64 = IntKind.i64 ∧ IntKind.i64 = IntKind.i64 ∧ IntKind.i64 = IntKind.i64 ∧ True, ?_, by simp⟩
    kernel_rfl
  obtain ⟨q, h1, h2⟩ := h
  rw [h1, eq_true h2]
theorem feqR0 (a : ByteArray) (x y : Int) : feq Tryd.prog 20 33 [.d (.v (.string a)), .d (.v (.int .i64 x)), .d (.v (.int .i64 y))] [.d (.v (.string ⟨#[]⟩)), .d (.v (.int .i64 0)), .d (.v (.int .i64 0))] = some (True, ruleZ a x y) := feqR a x y _ 0 0
theorem feqK0 (x y u : Int) : feq Tryd.prog 20 38 [.d (.v (.int .i64 x)), .d (.v (.int .i64 y)), .d (.v (.int .i64 u))] [.d (.v (.int .i64 0)), .d (.v (.int .i64 0)), .d (.v (.int .i64 0))] = some (True, askZ x y u) := feqK x y u 0 0 0
theorem bare_p (r : RecD) (h1 : 1 ≤ r.kind) (h2 : r.kind ≤ 14) : Pure Tryd.prog 14 [r.av] (Bo (bareF r)) := by
  refine pure_of follows Tryd.func14 c14_eq r14 (Nat.le_of_ble_eq_true rfl) fun B σ hcl _ => ?_
  have hk : r.kind = 1 ∨ r.kind = 2 ∨ r.kind = 3 ∨ r.kind = 4 ∨ r.kind = 5 ∨ r.kind = 6 ∨ r.kind = 7 ∨ r.kind = 8 ∨ r.kind = 9 ∨ r.kind = 10 ∨ r.kind = 11 ∨ r.kind = 12 ∨ r.kind = 13 ∨ r.kind = 14 := by omega
  clear h1 h2
  rcases hk with hk | hk | hk | hk | hk | hk | hk | hk | hk | hk | hk | hk | hk | hk
  repeat' (first | (simp -implicitDefEqProofs only [*, contN, contC, Nat.reduceBEq, Bool.or_false, Bool.or_true, Bool.false_or, Bool.true_or, Bool.not_true, Bool.not_false, SEconv, w_skip, w_ret, w_exit, w_reg, w_dreg, w_seq, SK_n, SK_r, SK_x, w_keep, w_block, w_cond, w_nil, w_cons, w_consg, w_nnil, w_ncons, w_dnil, w_dcons, w_dconsg, HK_app, HD_app, HQ_n, HQ_r, HQ_x, HQ_bn, HQ_br, HQ_bx, HQ_en, HQ_er, HQ_ex, CondB_true, CondB_false, SO1, w_sdv, SDe_alloc, SDe_box, SDe_bslice, SDe_app, true_imp_iff, false_imp_iff, and_false, false_and, not_false_eq_true, not_true_eq_false, addN, mkNames, killT, killD, killO, List.foldl_nil, List.foldl_cons, List.append_nil, List.nil_append, List.cons_append, GuardS_true, GuardS_false, GuardD_true, GuardD_false, DK_true, DK_false, lt_self_add, le_self_add, decide_true, decide_false, Bool.false_eq_true, Bool.true_eq_false, Nat.add_left_cancel_iff, SE, SEalloc, SEbox, SEstore, w_bs, SEbl, SEfz, SEbs0, fzName, osOf, AV.fz1, w_app, w_mk, aev, opd, Fr.get, putO, Fr.norm, List.map_cons, List.map_nil, with1, with2, onInt, AV.lit, entry, ↓reduceIte, Nat.reduceEqDiff, Nat.reduceAdd, reduceCtorEq, true_and, and_true, Option.map_some, Option.map_none, Option.bind_some, Option.bind_none, cond_true, cond_false, binV, unV, fieldV, loadV, sto, cellsAV, newF, newL, Fr.map, Loc.kill, Loc.set, AO.kill, AV.kill, AV.mapN, AV.mapNL, List.filter_nil, List.filter_cons, allP, EndV, retV, resV, resL, frz, dropL, AV.pick, nilV, tupV, imp_self, ne_eq, Int.cast_ofNat_Int, Int.reduceLT, Int.reduceToNat, List.getD_cons_zero, List.getD_cons_succ, bsliceV, buildV, afill, repl, chunk, rvs, AV.rv, RV.nrm, List.getElem?_nil, List.append_assoc, Nat.reduceMul, Nat.reducePow, Nat.zero_lt_succ, Nat.zero_add, Nat.add_zero, List.length_cons, List.length_nil, Nat.reduceLeDiff, Nat.le_refl, List.take_succ_cons, List.take_zero, List.drop_succ_cons, List.drop_zero, indexV, lenV, rowOf_mapD, rowOf_mapI, rowOf_mapA, List.length_map, Int.toNat_natCast, List.getElem?_cons_zero, List.getElem?_cons_succ, and_self, implies_true, if_true, if_false, HQ_zn, HQ_zr, HQ_wn, HQ_wr, AV.nz, AV.nzL, RV.nrm, SEbin, SEnil, nilK, srcV, dstV, appName, List.length_append, Nat.mul_one, take_map_len, take_map_app, List.getElem?_cons_zero, List.map_append, SEmkmap, SEmset, mgetV, kvOf, getM, setM, c14, r14, v14_1, v14_2, v14_3, v14_4, v14_5, v14_6, v14_7, v14_8, v14_9, v14_10, v14_11, v14_12, v14_13, v14_14, v14_15, v14_16, v14_17, v14_18, v14_19, v14_20, v14_21, v14_22, v14_23, v14_24, v14_25, v14_26, u14_27, u14_28, ty42, ty3, ty52, ty51, ty4, ty9, ty33, ty36, ty38, ty40, ty34, RecD.av, RecD.row, ints, VerD.av, VerD.row, PartD.av, PartD.row, indexV, globD, globR_1, globR_2, globR_3, globR_4, globR_5, globR_6, globR_7, globR_8, globR_9, globR_10, globR_11, globR_12, globR_13, globR_14, feqR0, feqK0]) | (with_reducible refine And.intro ?_ ?_) | (refine call_ro e35 ( empty_p r.ver) rfl ?_ ?_ ?_ ?_) | (refine gcall_ro e35 ( empty_p r.ver) rfl ?_ ?_ ?_ ?_) | (refine dcall_ro e35 ( empty_p r.ver) rfl ?_ ?_ ?_ ?_) | (refine gdcall_ro rfl e35 ( empty_p r.ver) rfl ?_ ?_ ?_ ?_) | (refine call_ro e36 ( nothing_p r.part) rfl ?_ ?_ ?_ ?_) | (refine gcall_ro e36 ( nothing_p r.part) rfl ?_ ?_ ?_ ?_) | (refine dcall_ro e36 ( nothing_p r.part) rfl ?_ ?_ ?_ ?_) | (refine gdcall_ro rfl e36 ( nothing_p r.part) rfl ?_ ?_ ?_ ?_) | (refine EndX.plain ?_) | (refine nil_split (fun hn => ?_) (fun hn => ?_)) | (refine gcall_no not_false ?_) | (refine gdcall_no not_false ?_) | (refine GuardS_of _ _ _ _ _ _ (fun hg => ?_) (fun hg => ?_)) | (refine GuardD_of _ _ _ _ (fun hg => ?_) (fun hg => ?_)) | (refine CondB_of _ _ _ _ _ _ _ ?_ (fun hg => ?_) (fun hg => ?_)))
  all_goals (try (first | ((first | unfold noN | unfold Fr.below | unfold Loc.below); simp [Fr.allN, AV.allN, AV.allNL, AO.allN]; done) | rfl | trivial | assumption | (intro row hrow; simp only [List.mem_map] at hrow; obtain ⟨x, _, rfl⟩ := hrow; rfl) | (refine Wk.keep hcl ?_ ?_ ?_; (focus (simp [Fr.get, RecD.av, RecD.row, ints, VerD.av, VerD.row, PartD.av, PartD.row, indexV, globD, globR_1, globR_2, globR_3, globR_4, globR_5, globR_6, globR_7, globR_8, globR_9, globR_10, globR_11, globR_12, globR_13, globR_14, feqR0, feqK0] <;> fail)); (focus (simp [sto, RecD.av, RecD.row, ints, VerD.av, VerD.row, PartD.av, PartD.row, indexV, globD, globR_1, globR_2, globR_3, globR_4, globR_5, globR_6, globR_7, globR_8, globR_9, globR_10, globR_11, globR_12, globR_13, globR_14, feqR0, feqK0] <;> fail)); (focus (simp <;> fail))) | (simp [allP, opd, Fr.get, Fr.below, Fr.allN, AV.allN, AV.allNL, Loc.below, AO.allN, noN, killO, killT, killD, mkNames, AO.kill, AV.kill, AV.mapN, AV.mapNL]; done) | (with_reducible exact ltD (by assumption)) | omega | (simp only [decide_eq_true_eq, decide_eq_false_iff_not] at *; omega)))
  all_goals (simp only [bareF, kId, kN, kName, kVol, rule0, ask0, noT, *, Int.reduceBEq, Bool.false_or, Bool.true_or, Bool.or_true, Bool.or_false, Bool.and_true, Bool.true_and, Bool.false_and, Bool.and_false, Bool.not_true, Bool.not_false, cond_true, cond_false]; done)
end Go.Proofs.YtckjgipcephmfaaDoor
