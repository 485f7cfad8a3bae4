/- The reader's calls. -/
import Derived.Test.YtijpmidnclbhpaaDoorKUD
import Derived.Test.YtijpmidnclbhpaaDoorTypes
namespace Go.Proofs.YtijpmidnclbhpaaDoor
open Go.RowKit
set_option maxRecDepth 100000
def o68_1 : List SO := ((SO.mk (some 14) (.pick (.tmp 8) (.tmp 13) (.const (Value.bool false))) none) :: [])
theorem v68_1 : type_of% (@swl _ _ o68_1.eq_1) := @swl _ _ o68_1.eq_1
def o68_2 : List SO := ((SO.mk (some 10) (.nilCheck (.tmp 9)) (some (8 , true))) :: (SO.mk (some 11) (.faddr 52 (.tmp 10) 1) (some (8 , true))) :: (SO.mk (some 12) (.load 33 (.tmp 11)) (some (8 , true))) :: (SO.mk (some 13) (.bin .eql 33 (.tmp 12) (.const (Value.int .i64 0))) (some (8 , true))) :: o68_1)
theorem v68_2 : type_of% (@swl _ _ o68_2.eq_1) := @swl _ _ o68_2.eq_1
def c68_3 : SC := (.reg [SO.mk (some 15) (.move (.tmp 0)) none, SO.mk (some 16) (.nilCheck (.tmp 15)) none, SO.mk (some 17) (.faddr 52 (.tmp 16) 1) none, SO.mk none (.store 33 (.tmp 17) (.const (Value.int .i64 4))) none])
theorem u68_3 : type_of% (@swc _ _ c68_3.eq_1) := @swc _ _ c68_3.eq_1
def c68_4 : SC := (.cond (.tmp 14) c68_3 .skip)
theorem u68_4 : type_of% (@swc _ _ c68_4.eq_1) := @swc _ _ c68_4.eq_1
def c68_5 : SC := (.seq (.reg [SO.mk (some 18) (.move (.tmp 3)) none, SO.mk (some 19) (.bin .eql 3 (.tmp 18) (.const (Value.int .i64 1))) none, SO.mk (some 2) (.move (.tmp 19)) none]) (.keep [2] .ret))
theorem u68_5 : type_of% (@swc _ _ c68_5.eq_1) := @swc _ _ c68_5.eq_1
def c68_6 : SC := (.seq (.seq (.reg ((SO.mk (some 6) (.move (.tmp 3)) none) :: (SO.mk (some 7) (.bin .gtr 3 (.tmp 6) (.const (Value.int .i64 1))) none) :: (SO.mk (some 8) (.move (.tmp 7)) none) :: (SO.mk (some 9) (.move (.tmp 0)) (some (8 , true))) :: o68_2)) (.keep [14, 0, 3] c68_4)) (.keep [3] c68_5))
theorem u68_6 : type_of% (@swc _ _ c68_6.eq_1) := @swc _ _ c68_6.eq_1
def c68_7 : SC := (.seq (.reg [SO.mk (some 4) (.move (.tmp 0)) none, SO.mk (some 5) (.call 21 [(.tmp 4), (.const (Value.int .i64 1))]) none, SO.mk (some 3) (.move (.tmp 5)) none]) (.keep [0, 3] c68_6))
theorem u68_7 : type_of% (@swc _ _ c68_7.eq_1) := @swc _ _ c68_7.eq_1
def c68 : SC := (.seq (.reg [SO.mk (some 2) (.move (.const (Value.bool false))) none]) (.keep [0] c68_7))
theorem c68_eq : annC Tryd.f68 = some c68 := by kernel_rfl
theorem r68 : Tryd.f68.results.toList = [.tmp 2] := by kernel_rfl
theorem e68 : enters Tryd.prog 68 = true := by kernel_rfl
def o37_1 : List SO := ((SO.mk (some 11) (.load 36 (.tmp 10)) none) :: (SO.mk (some 12) (.len 36 (.tmp 11)) none) :: (SO.mk (some 13) (.bin .gtr 3 (.tmp 7) (.tmp 12)) none) :: [])
theorem v37_1 : type_of% (@swl _ _ o37_1.eq_1) := @swl _ _ o37_1.eq_1
def c37_2 : SC := (.seq (.reg [SO.mk (some 2) (.move (.const (Value.string ⟨#[]⟩))) none]) (.keep [2] .ret))
theorem u37_2 : type_of% (@swc _ _ c37_2.eq_1) := @swc _ _ c37_2.eq_1
def c37_3 : SC := (.seq (.reg [SO.mk (some 14) (.move (.tmp 0)) none, SO.mk (some 15) (.move (.tmp 3)) none, SO.mk (some 16) (.call 21 [(.tmp 14), (.tmp 15)]) none]) (.keep [] c37_2))
theorem u37_3 : type_of% (@swc _ _ c37_3.eq_1) := @swc _ _ c37_3.eq_1
def c37_4 : SC := (.cond (.tmp 13) c37_3 .skip)
theorem u37_4 : type_of% (@swc _ _ c37_4.eq_1) := @swc _ _ c37_4.eq_1
def o37_5 : List SO := ((SO.mk (some 21) (.move (.tmp 3)) none) :: (SO.mk (some 22) (.slice 36 (.tmp 20) none (some (.tmp 21))) none) :: (SO.mk (some 23) (.conv 36 9 (.tmp 22)) none) :: (SO.mk (some 4) (.move (.tmp 23)) none) :: [])
theorem v37_5 : type_of% (@swl _ _ o37_5.eq_1) := @swl _ _ o37_5.eq_1
def o37_6 : List SO := ((SO.mk (some 32) (.faddr 52 (.tmp 31) 0) none) :: (SO.mk none (.store 36 (.tmp 32) (.tmp 30)) none) :: [])
theorem v37_6 : type_of% (@swl _ _ o37_6.eq_1) := @swl _ _ o37_6.eq_1
def o37_7 : List SO := ((SO.mk (some 28) (.load 36 (.tmp 27)) none) :: (SO.mk (some 29) (.move (.tmp 3)) none) :: (SO.mk (some 30) (.slice 36 (.tmp 28) (some (.tmp 29)) none) none) :: (SO.mk (some 31) (.nilCheck (.tmp 24)) none) :: o37_6)
theorem v37_7 : type_of% (@swl _ _ o37_7.eq_1) := @swl _ _ o37_7.eq_1
def c37_8 : SC := (.seq (.reg [SO.mk (some 33) (.move (.tmp 4)) none, SO.mk (some 2) (.move (.tmp 33)) none]) (.keep [2] .ret))
theorem u37_8 : type_of% (@swc _ _ c37_8.eq_1) := @swc _ _ c37_8.eq_1
def c37_9 : SC := (.seq (.reg ((SO.mk (some 24) (.move (.tmp 0)) none) :: (SO.mk (some 25) (.move (.tmp 0)) none) :: (SO.mk (some 26) (.nilCheck (.tmp 25)) none) :: (SO.mk (some 27) (.faddr 52 (.tmp 26) 0) none) :: o37_7)) (.keep [4] c37_8))
theorem u37_9 : type_of% (@swc _ _ c37_9.eq_1) := @swc _ _ c37_9.eq_1
def c37_10 : SC := (.seq (.reg ((SO.mk (some 17) (.move (.tmp 0)) none) :: (SO.mk (some 18) (.nilCheck (.tmp 17)) none) :: (SO.mk (some 19) (.faddr 52 (.tmp 18) 0) none) :: (SO.mk (some 20) (.load 36 (.tmp 19)) none) :: o37_5)) (.keep [0, 3, 4] c37_9))
theorem u37_10 : type_of% (@swc _ _ c37_10.eq_1) := @swc _ _ c37_10.eq_1
def c37_11 : SC := (.seq (.seq (.reg ((SO.mk (some 7) (.move (.tmp 3)) none) :: (SO.mk (some 8) (.move (.tmp 0)) none) :: (SO.mk (some 9) (.nilCheck (.tmp 8)) none) :: (SO.mk (some 10) (.faddr 52 (.tmp 9) 0) none) :: o37_1)) (.keep [13, 0, 3] c37_4)) (.keep [0, 3] c37_10))
theorem u37_11 : type_of% (@swc _ _ c37_11.eq_1) := @swc _ _ c37_11.eq_1
def c37_12 : SC := (.seq (.reg [SO.mk (some 5) (.move (.tmp 0)) none, SO.mk (some 6) (.call 21 [(.tmp 5), (.const (Value.int .i64 1))]) none, SO.mk (some 3) (.move (.tmp 6)) none]) (.keep [0, 3] c37_11))
theorem u37_12 : type_of% (@swc _ _ c37_12.eq_1) := @swc _ _ c37_12.eq_1
def c37 : SC := (.seq (.reg [SO.mk (some 2) (.move (.const (Value.string ⟨#[]⟩))) none]) (.keep [0] c37_12))
theorem c37_eq : annC Tryd.f37 = some c37 := by kernel_rfl
theorem r37 : Tryd.f37.results.toList = [.tmp 2] := by kernel_rfl
theorem e37 : enters Tryd.prog 37 = true := by kernel_rfl
def o42_1 : List SO := ((SO.mk (some 15) (.pick (.tmp 9) (.tmp 14) (.const (Value.bool false))) none) :: [])
theorem v42_1 : type_of% (@swl _ _ o42_1.eq_1) := @swl _ _ o42_1.eq_1
def o42_2 : List SO := ((SO.mk (some 11) (.nilCheck (.tmp 10)) (some (9 , true))) :: (SO.mk (some 12) (.faddr 52 (.tmp 11) 1) (some (9 , true))) :: (SO.mk (some 13) (.load 33 (.tmp 12)) (some (9 , true))) :: (SO.mk (some 14) (.bin .eql 33 (.tmp 13) (.const (Value.int .i64 0))) (some (9 , true))) :: o42_1)
theorem v42_2 : type_of% (@swl _ _ o42_2.eq_1) := @swl _ _ o42_2.eq_1
def c42_3 : SC := (.cond (.tmp 15) .skip (.exit 0))
theorem u42_3 : type_of% (@swc _ _ c42_3.eq_1) := @swc _ _ c42_3.eq_1
def o42_4 : List SO := ((SO.mk (some 22) (.app 24 24 (.tmp 18) (.tmp 21)) none) :: (SO.mk (some 3) (.move (.tmp 22)) none) :: [])
theorem v42_4 : type_of% (@swl _ _ o42_4.eq_1) := @swl _ _ o42_4.eq_1
def c42_5 : SC := (.reg [SO.mk (some 16) (.move (.tmp 4)) none, SO.mk (some 17) (.bin .sub 3 (.tmp 16) (.const (Value.int .i64 1))) none, SO.mk (some 4) (.move (.tmp 17)) none])
theorem u42_5 : type_of% (@swc _ _ c42_5.eq_1) := @swc _ _ c42_5.eq_1
def c42_6 : SC := (.seq (.block 1 (.reg ((SO.mk (some 18) (.move (.tmp 3)) none) :: (SO.mk (some 19) (.move (.tmp 0)) none) :: (SO.mk (some 20) (.call 21 [(.tmp 19), (.const (Value.int .i64 1))]) none) :: (SO.mk (some 21) (.bslice 24 1 [(0 , (.tmp 20))]) none) :: o42_4))) (.keep [4, 0, 3] c42_5))
theorem u42_6 : type_of% (@swc _ _ c42_6.eq_1) := @swc _ _ c42_6.eq_1
def c42_7 : SC := (.seq (.seq (.reg ((SO.mk (some 7) (.move (.tmp 4)) none) :: (SO.mk (some 8) (.bin .gtr 3 (.tmp 7) (.const (Value.int .i64 0))) none) :: (SO.mk (some 9) (.move (.tmp 8)) none) :: (SO.mk (some 10) (.move (.tmp 0)) (some (9 , true))) :: o42_2)) (.keep [15, 0, 4, 3] c42_3)) (.keep [3, 4, 0] c42_6))
theorem u42_7 : type_of% (@swc _ _ c42_7.eq_1) := @swc _ _ c42_7.eq_1
def c42_8 : SC := (.block 0 (.loop (.keep [0, 4, 3] c42_7)))
theorem u42_8 : type_of% (@swc _ _ c42_8.eq_1) := @swc _ _ c42_8.eq_1
def c42_9 : SC := (.seq (.reg [SO.mk (some 23) (.move (.tmp 3)) none, SO.mk (some 2) (.move (.tmp 23)) none]) (.keep [2] .ret))
theorem u42_9 : type_of% (@swc _ _ c42_9.eq_1) := @swc _ _ c42_9.eq_1
def c42_10 : SC := (.seq (.seq (.reg [SO.mk (some 5) (.move (.tmp 0)) none, SO.mk (some 6) (.call 21 [(.tmp 5), (.const (Value.int .i64 1))]) none, SO.mk (some 4) (.move (.tmp 6)) none]) (.keep [0, 4, 3] c42_8)) (.keep [3] c42_9))
theorem u42_10 : type_of% (@swc _ _ c42_10.eq_1) := @swc _ _ c42_10.eq_1
def c42_11 : SC := (.seq (.reg [SO.mk (some 3) (.move (.const (Value.slice none 0 0))) none]) (.keep [0, 3] c42_10))
theorem u42_11 : type_of% (@swc _ _ c42_11.eq_1) := @swc _ _ c42_11.eq_1
def c42 : SC := (.seq (.reg [SO.mk (some 2) (.move (.const (Value.slice none 0 0))) none]) (.keep [0] c42_11))
theorem c42_eq : annC Tryd.f42 = some c42 := by kernel_rfl
theorem r42 : Tryd.f42.results.toList = [.tmp 2] := by kernel_rfl
theorem e42 : enters Tryd.prog 42 = true := by kernel_rfl
def o38_1 : List SO := ((SO.mk (some 13) (.call 21 [(.tmp 12), (.const (Value.int .i64 4))]) none) :: (SO.mk (some 14) (.bin .sub 3 (.tmp 13) (.const (Value.int .i64 1))) none) :: (SO.mk (some 15) (.build 23 [(0 , (.tmp 9)), (1 , (.tmp 11)), (2 , (.tmp 14))]) none) :: (SO.mk none (.store 23 (.tmp 2) (.tmp 15)) none) :: [])
theorem v38_1 : type_of% (@swl _ _ o38_1.eq_1) := @swl _ _ o38_1.eq_1
def c38_2 : SC := (.seq (.reg ((SO.mk (some 9) (.move (.tmp 3)) none) :: (SO.mk (some 10) (.move (.tmp 4)) none) :: (SO.mk (some 11) (.bin .sub 3 (.tmp 10) (.const (Value.int .i64 1))) none) :: (SO.mk (some 12) (.move (.tmp 0)) none) :: o38_1)) (.keep [2] .ret))
theorem u38_2 : type_of% (@swc _ _ c38_2.eq_1) := @swc _ _ c38_2.eq_1
def c38_3 : SC := (.seq (.reg [SO.mk (some 7) (.move (.tmp 0)) none, SO.mk (some 8) (.call 21 [(.tmp 7), (.const (Value.int .i64 4))]) none, SO.mk (some 4) (.move (.tmp 8)) none]) (.keep [3, 4, 0, 2] c38_2))
theorem u38_3 : type_of% (@swc _ _ c38_3.eq_1) := @swc _ _ c38_3.eq_1
def c38_4 : SC := (.seq (.reg [SO.mk (some 5) (.move (.tmp 0)) none, SO.mk (some 6) (.call 37 [(.tmp 5)]) none, SO.mk (some 3) (.move (.tmp 6)) none]) (.keep [3, 0, 2] c38_3))
theorem u38_4 : type_of% (@swc _ _ c38_4.eq_1) := @swc _ _ c38_4.eq_1
def c38 : SC := (.seq (.reg [SO.mk (some 2) (.alloc 23) none]) (.keep [0, 2] c38_4))
theorem c38_eq : annC Tryd.f38 = some c38 := by kernel_rfl
theorem r38 : Tryd.f38.results.toList = [.cell 2 23] := by kernel_rfl
theorem e38 : enters Tryd.prog 38 = true := by kernel_rfl
def c40_1 : SC := (.seq (.reg [SO.mk (some 13) (.load 28 (.tmp 3)) none, SO.mk none (.store 28 (.tmp 2) (.tmp 13)) none]) (.keep [2] .ret))
theorem u40_1 : type_of% (@swc _ _ c40_1.eq_1) := @swc _ _ c40_1.eq_1
def c40_2 : SC := (.seq (.reg [SO.mk (some 10) (.move (.tmp 0)) none, SO.mk (some 11) (.call 21 [(.tmp 10), (.const (Value.int .i64 1))]) none, SO.mk (some 12) (.faddr 28 (.tmp 3) 2) none, SO.mk none (.store 3 (.tmp 12) (.tmp 11)) none]) (.keep [3, 2] c40_1))
theorem u40_2 : type_of% (@swc _ _ c40_2.eq_1) := @swc _ _ c40_2.eq_1
def c40_3 : SC := (.seq (.reg [SO.mk (some 7) (.move (.tmp 0)) none, SO.mk (some 8) (.call 21 [(.tmp 7), (.const (Value.int .i64 2))]) none, SO.mk (some 9) (.faddr 28 (.tmp 3) 1) none, SO.mk none (.store 3 (.tmp 9) (.tmp 8)) none]) (.keep [0, 3, 2] c40_2))
theorem u40_3 : type_of% (@swc _ _ c40_3.eq_1) := @swc _ _ c40_3.eq_1
def c40_4 : SC := (.seq (.reg [SO.mk (some 4) (.move (.tmp 0)) none, SO.mk (some 5) (.call 21 [(.tmp 4), (.const (Value.int .i64 3))]) none, SO.mk (some 6) (.faddr 28 (.tmp 3) 0) none, SO.mk none (.store 3 (.tmp 6) (.tmp 5)) none]) (.keep [0, 3, 2] c40_3))
theorem u40_4 : type_of% (@swc _ _ c40_4.eq_1) := @swc _ _ c40_4.eq_1
def c40_5 : SC := (.seq (.reg [SO.mk (some 3) (.alloc 28) none]) (.keep [0, 3, 2] c40_4))
theorem u40_5 : type_of% (@swc _ _ c40_5.eq_1) := @swc _ _ c40_5.eq_1
def c40 : SC := (.seq (.reg [SO.mk (some 2) (.alloc 28) none]) (.keep [0, 2] c40_5))
theorem c40_eq : annC Tryd.f40 = some c40 := by kernel_rfl
theorem r40 : Tryd.f40.results.toList = [.cell 2 28] := by kernel_rfl
theorem e40 : enters Tryd.prog 40 = true := by kernel_rfl
def c41_1 : SC := (.seq (.reg [SO.mk (some 13) (.load 30 (.tmp 3)) none, SO.mk none (.store 30 (.tmp 2) (.tmp 13)) none]) (.keep [2] .ret))
theorem u41_1 : type_of% (@swc _ _ c41_1.eq_1) := @swc _ _ c41_1.eq_1
def c41_2 : SC := (.seq (.reg [SO.mk (some 10) (.move (.tmp 0)) none, SO.mk (some 11) (.call 42 [(.tmp 10)]) none, SO.mk (some 12) (.faddr 30 (.tmp 3) 2) none, SO.mk none (.store 24 (.tmp 12) (.tmp 11)) none]) (.keep [3, 2] c41_1))
theorem u41_2 : type_of% (@swc _ _ c41_2.eq_1) := @swc _ _ c41_2.eq_1
def c41_3 : SC := (.seq (.reg [SO.mk (some 7) (.move (.tmp 0)) none, SO.mk (some 8) (.call 21 [(.tmp 7), (.const (Value.int .i64 2))]) none, SO.mk (some 9) (.faddr 30 (.tmp 3) 1) none, SO.mk none (.store 3 (.tmp 9) (.tmp 8)) none]) (.keep [0, 3, 2] c41_2))
theorem u41_3 : type_of% (@swc _ _ c41_3.eq_1) := @swc _ _ c41_3.eq_1
def c41_4 : SC := (.seq (.reg [SO.mk (some 4) (.move (.tmp 0)) none, SO.mk (some 5) (.call 21 [(.tmp 4), (.const (Value.int .i64 1))]) none, SO.mk (some 6) (.faddr 30 (.tmp 3) 0) none, SO.mk none (.store 3 (.tmp 6) (.tmp 5)) none]) (.keep [0, 3, 2] c41_3))
theorem u41_4 : type_of% (@swc _ _ c41_4.eq_1) := @swc _ _ c41_4.eq_1
def c41_5 : SC := (.seq (.reg [SO.mk (some 3) (.alloc 30) none]) (.keep [0, 3, 2] c41_4))
theorem u41_5 : type_of% (@swc _ _ c41_5.eq_1) := @swc _ _ c41_5.eq_1
def c41 : SC := (.seq (.reg [SO.mk (some 2) (.alloc 30) none]) (.keep [0, 2] c41_5))
theorem c41_eq : annC Tryd.f41 = some c41 := by kernel_rfl
theorem r41 : Tryd.f41.results.toList = [.cell 2 30] := by kernel_rfl
theorem e41 : enters Tryd.prog 41 = true := by kernel_rfl
end Go.Proofs.YtijpmidnclbhpaaDoor
namespace Go.Proofs.YtijpmidnclbhpaaDoor
open Go.RowKit
set_option maxHeartbeats 4000000
set_option maxRecDepth 20000
attribute [local irreducible] SW SWL SWLn SWD SEcall SEcallv SDv SE SO1 SOg ACalls ACallv Wk EndV
set_option linter.unusedSimpArgs false
set_option linter.unusedVariables false
theorem bit_R  : Reads Tryd.prog 68 [] (fun s => Bo (bitN s)) (fun s => bitS s) (fun s => True) := by
  intro B σ n b e hn hσ hp
  refine own_ofL [(n, rdO b e)] (hid1_sto hσ) hid1_closed follows Tryd.func68 c68_eq r68 (Nat.le_of_ble_eq_true rfl) fun hcl hsz => ?_
  clear hsz
  have y1 : ∀ s, (n = B + s) = False := fun s => by simp; omega
  have y2 : ∀ s, (B + s = n) = False := fun s => by simp; omega
  have y3 : (n < B) = True := eq_true hn
  have y4 : decide (n < B) = true := by simpa using hn
  have y5 : decide (n < B + 100000) = true := by simp; omega
  have hb1 : bitS (b, e) = bif decide (takN (b, e) 1 > 1) && (takS (b, e) 1).2 == 0 then ((takS (b, e) 1).1, 4) else takS (b, e) 1 := rfl
  have hb2 : bitN (b, e) = (takN (b, e) 1 == 1) := rfl
  clear hσ
  repeat' (first | (simp -implicitDefEqProofs only [*, contN, contC, Nat.reduceBEq, Bool.or_false, Bool.or_true, Bool.false_or, Bool.true_or, Bool.not_true, Bool.not_false, w_skip, w_ret, w_exit, w_reg, w_dreg, w_seq, SK_n, SK_r, SK_x, w_keep, w_block, w_cond, w_nil, w_cons, w_consg, w_nnil, w_ncons, w_dnil, w_dcons, w_dconsg, HK_app, HD_app, HQ_n, HQ_r, HQ_x, HQ_bn, HQ_br, HQ_bx, HQ_en, HQ_er, HQ_ex, CondB_true, CondB_false, SO1, w_sdv, SDe_alloc, SDe_box, SDe_bslice, SDe_app, true_imp_iff, false_imp_iff, and_false, false_and, not_false_eq_true, not_true_eq_false, addN, mkNames, killT, killD, killO, List.foldl_nil, List.foldl_cons, List.append_nil, List.nil_append, List.cons_append, GuardS_true, GuardS_false, GuardD_true, GuardD_false, DK_true, DK_false, lt_self_add, le_self_add, decide_true, decide_false, Bool.false_eq_true, Bool.true_eq_false, Nat.add_left_cancel_iff, SE, SEalloc, SEbox, SEstore, w_bs, SEbl, SEfz, SEbs0, fzName, osOf, AV.fz1, w_app, w_mk, aev, opd, Fr.get, putO, Fr.norm, List.map_cons, List.map_nil, with1, with2, onInt, AV.lit, entry, ↓reduceIte, Nat.reduceEqDiff, Nat.reduceAdd, reduceCtorEq, true_and, and_true, Option.map_some, Option.map_none, Option.bind_some, Option.bind_none, cond_true, cond_false, binV, unV, fieldV, loadV, sto, cellsAV, newF, newL, Fr.map, Loc.kill, Loc.set, AV.kill, AV.mapN, AV.mapNL, List.filter_nil, List.filter_cons, allP, EndV, retV, resV, resL, frz, dropL, AV.pick, nilV, tupV, imp_self, ne_eq, Int.cast_ofNat_Int, Int.reduceLT, Int.reduceToNat, List.getD_cons_zero, List.getD_cons_succ, bsliceV, buildV, afill, repl, chunk, rvs, AV.rv, RV.nrm, List.getElem?_nil, List.append_assoc, Nat.reduceMul, Nat.reducePow, Nat.zero_lt_succ, Nat.zero_add, Nat.add_zero, List.length_cons, List.length_nil, Nat.reduceLeDiff, Nat.le_refl, List.take_succ_cons, List.take_zero, List.drop_succ_cons, List.drop_zero, indexV, lenV, rowOf_mapD, rowOf_mapI, rowOf_mapA, List.length_map, Int.toNat_natCast, List.getElem?_cons_zero, List.getElem?_cons_succ, and_self, implies_true, if_true, if_false, HQ_zn, HQ_zr, HQ_wn, HQ_wr, AV.nz, AV.nzL, RV.nrm, SEbin, SEnil, nilK, srcV, dstV, appName, List.length_append, Nat.mul_one, take_map_len, take_map_app, List.getElem?_cons_zero, List.map_append, SEmkmap, SEmset, mgetV, kvOf, getM, setM, c68, r68, v68_1, v68_2, u68_3, u68_4, u68_5, u68_6, u68_7, ty3, ty52, ty33, aokB, aokD, aokA, ↓rdO_allN, ↓rdO_kill, y1, y2, y3, y4, y5, List.map_cons]) | (with_reducible refine And.intro ?_ ?_) | (refine call_r0 (d := some 5) (by omega) e21 ( take_R 1) rfl ?_ ?_ ?_ ?_ ?_ ?_) | (refine call_r1 (d := some 5) (by omega) e21 ( take_R 1) rfl ?_ ?_ ?_ ?_ ?_ ?_) | (refine call_r2 (d := some 5) (by omega) e21 ( take_R 1) rfl ?_ ?_ ?_ ?_ ?_ ?_) | (refine EndX.plain ?_) | (refine nil_split (fun hn => ?_) (fun hn => ?_)) | (refine gcall_no not_false ?_) | (refine gdcall_no not_false ?_) | (refine GuardS_of _ _ _ _ _ _ (fun hg => ?_) (fun hg => ?_)) | (refine GuardD_of _ _ _ _ (fun hg => ?_) (fun hg => ?_)) | (refine CondB_of _ _ _ _ _ _ _ ?_ (fun hg => ?_) (fun hg => ?_)))
  repeat' (first | (simp -implicitDefEqProofs only [*, contN, contC, Nat.reduceBEq, Bool.or_false, Bool.or_true, Bool.false_or, Bool.true_or, Bool.not_true, Bool.not_false, w_skip, w_ret, w_exit, w_reg, w_dreg, w_seq, SK_n, SK_r, SK_x, w_keep, w_block, w_cond, w_nil, w_cons, w_consg, w_nnil, w_ncons, w_dnil, w_dcons, w_dconsg, HK_app, HD_app, HQ_n, HQ_r, HQ_x, HQ_bn, HQ_br, HQ_bx, HQ_en, HQ_er, HQ_ex, CondB_true, CondB_false, SO1, w_sdv, SDe_alloc, SDe_box, SDe_bslice, SDe_app, true_imp_iff, false_imp_iff, and_false, false_and, not_false_eq_true, not_true_eq_false, addN, mkNames, killT, killD, killO, List.foldl_nil, List.foldl_cons, List.append_nil, List.nil_append, List.cons_append, GuardS_true, GuardS_false, GuardD_true, GuardD_false, DK_true, DK_false, lt_self_add, le_self_add, decide_true, decide_false, Bool.false_eq_true, Bool.true_eq_false, Nat.add_left_cancel_iff, SE, SEalloc, SEbox, SEstore, w_bs, SEbl, SEfz, SEbs0, fzName, osOf, AV.fz1, w_app, w_mk, aev, opd, Fr.get, putO, Fr.norm, List.map_cons, List.map_nil, with1, with2, onInt, AV.lit, entry, ↓reduceIte, Nat.reduceEqDiff, Nat.reduceAdd, reduceCtorEq, true_and, and_true, Option.map_some, Option.map_none, Option.bind_some, Option.bind_none, cond_true, cond_false, binV, unV, fieldV, loadV, sto, cellsAV, newF, newL, Fr.map, Loc.kill, Loc.set, AV.kill, AV.mapN, AV.mapNL, List.filter_nil, List.filter_cons, allP, EndV, retV, resV, resL, frz, dropL, AV.pick, nilV, tupV, imp_self, ne_eq, Int.cast_ofNat_Int, Int.reduceLT, Int.reduceToNat, List.getD_cons_zero, List.getD_cons_succ, bsliceV, buildV, afill, repl, chunk, rvs, AV.rv, RV.nrm, List.getElem?_nil, List.append_assoc, Nat.reduceMul, Nat.reducePow, Nat.zero_lt_succ, Nat.zero_add, Nat.add_zero, List.length_cons, List.length_nil, Nat.reduceLeDiff, Nat.le_refl, List.take_succ_cons, List.take_zero, List.drop_succ_cons, List.drop_zero, indexV, lenV, rowOf_mapD, rowOf_mapI, rowOf_mapA, List.length_map, Int.toNat_natCast, List.getElem?_cons_zero, List.getElem?_cons_succ, and_self, implies_true, if_true, if_false, HQ_zn, HQ_zr, HQ_wn, HQ_wr, AV.nz, AV.nzL, RV.nrm, SEbin, SEnil, nilK, srcV, dstV, appName, List.length_append, Nat.mul_one, take_map_len, take_map_app, List.getElem?_cons_zero, List.map_append, SEmkmap, SEmset, mgetV, kvOf, getM, setM, c68, r68, v68_1, v68_2, u68_3, u68_4, u68_5, u68_6, u68_7, ty3, ty52, ty33, aokB, aokD, aokA, ↓rdO_allN, ↓rdO_kill, y1, y2, y3, y4, y5, rdO]) | (with_reducible refine And.intro ?_ ?_) | (refine call_r0 (d := some 5) (by omega) e21 ( take_R 1) rfl ?_ ?_ ?_ ?_ ?_ ?_) | (refine call_r1 (d := some 5) (by omega) e21 ( take_R 1) rfl ?_ ?_ ?_ ?_ ?_ ?_) | (refine call_r2 (d := some 5) (by omega) e21 ( take_R 1) rfl ?_ ?_ ?_ ?_ ?_ ?_) | (refine EndX.plain ?_) | (refine nil_split (fun hn => ?_) (fun hn => ?_)) | (refine gcall_no not_false ?_) | (refine gdcall_no not_false ?_) | (refine GuardS_of _ _ _ _ _ _ (fun hg => ?_) (fun hg => ?_)) | (refine GuardD_of _ _ _ _ (fun hg => ?_) (fun hg => ?_)) | (refine CondB_of _ _ _ _ _ _ _ ?_ (fun hg => ?_) (fun hg => ?_)))
  all_goals first
    | (intro p hp; simp only [List.mem_cons, List.not_mem_nil, or_false] at hp; rcases hp with rfl | rfl <;> simp [y2]; done)
    | (intro p hp; simp only [List.mem_cons, List.not_mem_nil, or_false] at hp; subst hp; simp [y2]; done)
    | (intro p hp; cases hp; done)
    | (exact .inl (by decide))
    | trivial
    | (unfold Fr.below; simp [Fr.allN, AV.allN, AV.allNL, y5]; done)
    | (unfold Loc.below; simp only [List.all_cons, List.all_nil, rdO_allN, y5]; simp [AO.allN, AV.allN, AV.allNL]; done)
    | (refine rd_end ?_ ?_
       · simp [List.map_cons]
       · intro x z1; simp [z1, hid1])
theorem text_R  : Reads Tryd.prog 37 [] (fun s => .d (.v (.string (textN s)))) (fun s => textS s) (fun s => True) := by
  intro B σ n b e hn hσ hp
  refine own_ofL [(n, rdO b e)] (hid1_sto hσ) hid1_closed follows Tryd.func37 c37_eq r37 (Nat.le_of_ble_eq_true rfl) fun hcl hsz => ?_
  clear hsz
  have y1 : ∀ s, (n = B + s) = False := fun s => by simp; omega
  have y2 : ∀ s, (B + s = n) = False := fun s => by simp; omega
  have y3 : (n < B) = True := eq_true hn
  have y4 : decide (n < B) = true := by simpa using hn
  have y5 : decide (n < B + 100000) = true := by simp; omega
  have hx0 := (takN_1 (b, e)).1
  have hx1 := (takN_1 (b, e)).2
  clear hσ hp
  repeat' (first | (simp -implicitDefEqProofs only [*, contN, contC, Nat.reduceBEq, Bool.or_false, Bool.or_true, Bool.false_or, Bool.true_or, Bool.not_true, Bool.not_false, w_skip, w_ret, w_exit, w_reg, w_dreg, w_seq, SK_n, SK_r, SK_x, w_keep, w_block, w_cond, w_nil, w_cons, w_consg, w_nnil, w_ncons, w_dnil, w_dcons, w_dconsg, HK_app, HD_app, HQ_n, HQ_r, HQ_x, HQ_bn, HQ_br, HQ_bx, HQ_en, HQ_er, HQ_ex, CondB_true, CondB_false, SO1, w_sdv, SDe_alloc, SDe_box, SDe_bslice, SDe_app, true_imp_iff, false_imp_iff, and_false, false_and, not_false_eq_true, not_true_eq_false, addN, mkNames, killT, killD, killO, List.foldl_nil, List.foldl_cons, List.append_nil, List.nil_append, List.cons_append, GuardS_true, GuardS_false, GuardD_true, GuardD_false, DK_true, DK_false, lt_self_add, le_self_add, decide_true, decide_false, Bool.false_eq_true, Bool.true_eq_false, Nat.add_left_cancel_iff, SE, SEalloc, SEbox, SEstore, w_bs, SEbl, SEfz, SEbs0, fzName, osOf, AV.fz1, w_app, w_mk, aev, opd, Fr.get, putO, Fr.norm, List.map_cons, List.map_nil, with1, with2, onInt, AV.lit, entry, ↓reduceIte, Nat.reduceEqDiff, Nat.reduceAdd, reduceCtorEq, true_and, and_true, Option.map_some, Option.map_none, Option.bind_some, Option.bind_none, cond_true, cond_false, binV, unV, fieldV, loadV, sto, cellsAV, newF, newL, Fr.map, Loc.kill, Loc.set, AV.kill, AV.mapN, AV.mapNL, List.filter_nil, List.filter_cons, allP, EndV, retV, resV, resL, frz, dropL, AV.pick, nilV, tupV, imp_self, ne_eq, Int.cast_ofNat_Int, Int.reduceLT, Int.reduceToNat, List.getD_cons_zero, List.getD_cons_succ, bsliceV, buildV, afill, repl, chunk, rvs, AV.rv, RV.nrm, List.getElem?_nil, List.append_assoc, Nat.reduceMul, Nat.reducePow, Nat.zero_lt_succ, Nat.zero_add, Nat.add_zero, List.length_cons, List.length_nil, Nat.reduceLeDiff, Nat.le_refl, List.take_succ_cons, List.take_zero, List.drop_succ_cons, List.drop_zero, indexV, lenV, rowOf_mapD, rowOf_mapI, rowOf_mapA, List.length_map, Int.toNat_natCast, List.getElem?_cons_zero, List.getElem?_cons_succ, and_self, implies_true, if_true, if_false, HQ_zn, HQ_zr, HQ_wn, HQ_wr, AV.nz, AV.nzL, RV.nrm, SEbin, SEnil, nilK, srcV, dstV, appName, List.length_append, Nat.mul_one, take_map_len, take_map_app, List.getElem?_cons_zero, List.map_append, SEmkmap, SEmset, mgetV, kvOf, getM, setM, c37, r37, v37_1, u37_2, u37_3, u37_4, v37_5, v37_6, v37_7, u37_8, u37_9, u37_10, u37_11, u37_12, ty52, ty36, ty3, ty9, ty5, aokB, aokD, aokA, ↓rdO_allN, ↓rdO_kill, y1, y2, y3, y4, y5, prEta]) | (with_reducible refine And.intro ?_ ?_) | (refine call_r0 (d := some 6) (by omega) e21 ( take_R 1) rfl ?_ ?_ ?_ ?_ ?_ ?_) | (refine call_r1 (d := some 6) (by omega) e21 ( take_R 1) rfl ?_ ?_ ?_ ?_ ?_ ?_) | (refine call_r2 (d := some 6) (by omega) e21 ( take_R 1) rfl ?_ ?_ ?_ ?_ ?_ ?_) | (refine call_r0 (d := some 16) (by omega) e21 ( take_Rn _ hx0) rfl ?_ ?_ ?_ ?_ ?_ ?_) | (refine call_r1 (d := some 16) (by omega) e21 ( take_Rn _ hx0) rfl ?_ ?_ ?_ ?_ ?_ ?_) | (refine call_r2 (d := some 16) (by omega) e21 ( take_Rn _ hx0) rfl ?_ ?_ ?_ ?_ ?_ ?_) | (refine EndX.plain ?_) | (refine nil_split (fun hn => ?_) (fun hn => ?_)) | (refine gcall_no not_false ?_) | (refine gdcall_no not_false ?_) | (refine GuardS_of _ _ _ _ _ _ (fun hg => ?_) (fun hg => ?_)) | (refine GuardD_of _ _ _ _ (fun hg => ?_) (fun hg => ?_)) | (refine CondB_of _ _ _ _ _ _ _ ?_ (fun hg => ?_) (fun hg => ?_)))
  repeat' (first | (simp -implicitDefEqProofs only [*, contN, contC, Nat.reduceBEq, Bool.or_false, Bool.or_true, Bool.false_or, Bool.true_or, Bool.not_true, Bool.not_false, w_skip, w_ret, w_exit, w_reg, w_dreg, w_seq, SK_n, SK_r, SK_x, w_keep, w_block, w_cond, w_nil, w_cons, w_consg, w_nnil, w_ncons, w_dnil, w_dcons, w_dconsg, HK_app, HD_app, HQ_n, HQ_r, HQ_x, HQ_bn, HQ_br, HQ_bx, HQ_en, HQ_er, HQ_ex, CondB_true, CondB_false, SO1, w_sdv, SDe_alloc, SDe_box, SDe_bslice, SDe_app, true_imp_iff, false_imp_iff, and_false, false_and, not_false_eq_true, not_true_eq_false, addN, mkNames, killT, killD, killO, List.foldl_nil, List.foldl_cons, List.append_nil, List.nil_append, List.cons_append, GuardS_true, GuardS_false, GuardD_true, GuardD_false, DK_true, DK_false, lt_self_add, le_self_add, decide_true, decide_false, Bool.false_eq_true, Bool.true_eq_false, Nat.add_left_cancel_iff, SE, SEalloc, SEbox, SEstore, w_bs, SEbl, SEfz, SEbs0, fzName, osOf, AV.fz1, w_app, w_mk, aev, opd, Fr.get, putO, Fr.norm, List.map_cons, List.map_nil, with1, with2, onInt, AV.lit, entry, ↓reduceIte, Nat.reduceEqDiff, Nat.reduceAdd, reduceCtorEq, true_and, and_true, Option.map_some, Option.map_none, Option.bind_some, Option.bind_none, cond_true, cond_false, binV, unV, fieldV, loadV, sto, cellsAV, newF, newL, Fr.map, Loc.kill, Loc.set, AV.kill, AV.mapN, AV.mapNL, List.filter_nil, List.filter_cons, allP, EndV, retV, resV, resL, frz, dropL, AV.pick, nilV, tupV, imp_self, ne_eq, Int.cast_ofNat_Int, Int.reduceLT, Int.reduceToNat, List.getD_cons_zero, List.getD_cons_succ, bsliceV, buildV, afill, repl, chunk, rvs, AV.rv, RV.nrm, List.getElem?_nil, List.append_assoc, Nat.reduceMul, Nat.reducePow, Nat.zero_lt_succ, Nat.zero_add, Nat.add_zero, List.length_cons, List.length_nil, Nat.reduceLeDiff, Nat.le_refl, List.take_succ_cons, List.take_zero, List.drop_succ_cons, List.drop_zero, indexV, lenV, rowOf_mapD, rowOf_mapI, rowOf_mapA, List.length_map, Int.toNat_natCast, List.getElem?_cons_zero, List.getElem?_cons_succ, and_self, implies_true, if_true, if_false, HQ_zn, HQ_zr, HQ_wn, HQ_wr, AV.nz, AV.nzL, RV.nrm, SEbin, SEnil, nilK, srcV, dstV, appName, List.length_append, Nat.mul_one, take_map_len, take_map_app, List.getElem?_cons_zero, List.map_append, SEmkmap, SEmset, mgetV, kvOf, getM, setM, c37, r37, v37_1, u37_2, u37_3, u37_4, v37_5, v37_6, v37_7, u37_8, u37_9, u37_10, u37_11, u37_12, ty52, ty36, ty3, ty9, ty5, aokB, aokD, aokA, ↓rdO_allN, ↓rdO_kill, y1, y2, y3, y4, y5, rdO, prEta, convV, txtW, isB_byR, bnd, sliceV, Option.getD_some, Option.getD_none, Rows_byQ, ← List.map_take, ← List.map_drop, Nat.sub_zero]) | (with_reducible refine And.intro ?_ ?_) | (refine call_r0 (d := some 6) (by omega) e21 ( take_R 1) rfl ?_ ?_ ?_ ?_ ?_ ?_) | (refine call_r1 (d := some 6) (by omega) e21 ( take_R 1) rfl ?_ ?_ ?_ ?_ ?_ ?_) | (refine call_r2 (d := some 6) (by omega) e21 ( take_R 1) rfl ?_ ?_ ?_ ?_ ?_ ?_) | (refine call_r0 (d := some 16) (by omega) e21 ( take_Rn _ hx0) rfl ?_ ?_ ?_ ?_ ?_ ?_) | (refine call_r1 (d := some 16) (by omega) e21 ( take_Rn _ hx0) rfl ?_ ?_ ?_ ?_ ?_ ?_) | (refine call_r2 (d := some 16) (by omega) e21 ( take_Rn _ hx0) rfl ?_ ?_ ?_ ?_ ?_ ?_) | (refine EndX.plain ?_) | (refine nil_split (fun hn => ?_) (fun hn => ?_)) | (refine gcall_no not_false ?_) | (refine gdcall_no not_false ?_) | (refine GuardS_of _ _ _ _ _ _ (fun hg => ?_) (fun hg => ?_)) | (refine GuardD_of _ _ _ _ (fun hg => ?_) (fun hg => ?_)) | (refine CondB_of _ _ _ _ _ _ _ ?_ (fun hg => ?_) (fun hg => ?_)))
  all_goals first
    | (intro p hp; simp only [List.mem_cons, List.not_mem_nil, or_false] at hp; rcases hp with rfl | rfl <;> simp [y2]; done)
    | (intro p hp; simp only [List.mem_cons, List.not_mem_nil, or_false] at hp; subst hp; simp [y2]; done)
    | (intro p hp; cases hp; done)
    | (exact .inl (by decide))
    | trivial
    | (unfold Fr.below; simp [Fr.allN, AV.allN, AV.allNL, y5]; done)
    | (unfold Loc.below; simp only [List.all_cons, List.all_nil, rdO_allN, y5]; simp [AO.allN, AV.allN, AV.allNL]; done)
    | (have hb : txBad (b, e) = true := (by assumption : decide (takN (b, e) 1 > ((takS (b, e) 1).1.length : Int)) = true)
       have hb2 := of_decide_eq_true hb
       first
       | (right; show (takS (b, e) 1).1.length < _; omega)
       | (unfold textN; rw [hb]; rfl)
       | (funext x
          by_cases z1 : x = n
          · subst z1; simp only [if_true]; unfold textS; rw [hb]; rfl
          · simp only [if_neg z1]; simp [hid1, z1]))
    | (have hb : txBad (b, e) = false := (by assumption : decide (takN (b, e) 1 > ((takS (b, e) 1).1.length : Int)) = false)
       have hb2 := of_decide_eq_false hb
       first
       | omega
       | exact Int.le_refl _
       | (unfold textN; rw [hb]; rfl)
       | (funext x
          by_cases z1 : x = n
          · subst z1; simp only [if_true]; unfold textS; rw [hb, List.take_of_length_le (by rw [List.length_drop]; omega)]; rfl
          · simp only [if_neg z1]; simp [hid1, z1]))
    | (refine rd_end ?_ ?_
       · simp [textS, textN]
       · intro x z1; simp [z1, hid1])
theorem ints_R  : Reads Tryd.prog 42 [] (fun s => .d (ints (intsN s))) (fun s => intsS s) (fun s => True) := by
  intro B σ n b e hn hσ hp
  refine own_ofL [(n, rdO b e)] (hid1_sto hσ) hid1_closed follows Tryd.func42 c42_eq r42 (Nat.le_of_ble_eq_true rfl) fun hcl hsz => ?_
  clear hsz
  have y1 : ∀ s, (n = B + s) = False := fun s => by simp; omega
  have y2 : ∀ s, (B + s = n) = False := fun s => by simp; omega
  have y3 : (n < B) = True := eq_true hn
  have y4 : decide (n < B) = true := by simpa using hn
  have y5 : decide (n < B + 100000) = true := by simp; omega
  have hx0 := (takN_1 (b, e)).1
  have hx1 := (takN_1 (b, e)).2
  obtain ⟨M, hM⟩ : ∃ M, itC (b, e) ((takN (b, e) 1).toNat - 0) 0 = M := ⟨_, rfl⟩
  have hM2 : itM (b, e) = M := hM
  clear hσ hp
  repeat' (first | (simp -implicitDefEqProofs only [*, contN, contC, Nat.reduceBEq, Bool.or_false, Bool.or_true, Bool.false_or, Bool.true_or, Bool.not_true, Bool.not_false, w_skip, w_ret, w_exit, w_reg, w_dreg, w_seq, SK_n, SK_r, SK_x, w_keep, w_block, w_cond, w_nil, w_cons, w_consg, w_nnil, w_ncons, w_dnil, w_dcons, w_dconsg, HK_app, HD_app, HQ_n, HQ_r, HQ_x, HQ_bn, HQ_br, HQ_bx, HQ_en, HQ_er, HQ_ex, CondB_true, CondB_false, SO1, w_sdv, SDe_alloc, SDe_box, SDe_bslice, SDe_app, true_imp_iff, false_imp_iff, and_false, false_and, not_false_eq_true, not_true_eq_false, addN, mkNames, killT, killD, killO, List.foldl_nil, List.foldl_cons, List.append_nil, List.nil_append, List.cons_append, GuardS_true, GuardS_false, GuardD_true, GuardD_false, DK_true, DK_false, lt_self_add, le_self_add, decide_true, decide_false, Bool.false_eq_true, Bool.true_eq_false, Nat.add_left_cancel_iff, SE, SEalloc, SEbox, SEstore, w_bs, SEbl, SEfz, SEbs0, fzName, osOf, AV.fz1, w_app, w_mk, aev, opd, Fr.get, putO, Fr.norm, List.map_cons, List.map_nil, with1, with2, onInt, AV.lit, entry, ↓reduceIte, Nat.reduceEqDiff, Nat.reduceAdd, reduceCtorEq, true_and, and_true, Option.map_some, Option.map_none, Option.bind_some, Option.bind_none, cond_true, cond_false, binV, unV, fieldV, loadV, sto, cellsAV, newF, newL, Fr.map, Loc.kill, Loc.set, AV.kill, AV.mapN, AV.mapNL, List.filter_nil, List.filter_cons, allP, EndV, retV, resV, resL, frz, dropL, AV.pick, nilV, tupV, imp_self, ne_eq, Int.cast_ofNat_Int, Int.reduceLT, Int.reduceToNat, List.getD_cons_zero, List.getD_cons_succ, bsliceV, buildV, afill, repl, chunk, rvs, AV.rv, RV.nrm, List.getElem?_nil, List.append_assoc, Nat.reduceMul, Nat.reducePow, Nat.zero_lt_succ, Nat.zero_add, Nat.add_zero, List.length_cons, List.length_nil, Nat.reduceLeDiff, Nat.le_refl, List.take_succ_cons, List.take_zero, List.drop_succ_cons, List.drop_zero, indexV, lenV, rowOf_mapD, rowOf_mapI, rowOf_mapA, List.length_map, Int.toNat_natCast, List.getElem?_cons_zero, List.getElem?_cons_succ, and_self, implies_true, if_true, if_false, HQ_zn, HQ_zr, HQ_wn, HQ_wr, AV.nz, AV.nzL, RV.nrm, SEbin, SEnil, nilK, srcV, dstV, appName, List.length_append, Nat.mul_one, take_map_len, take_map_app, List.getElem?_cons_zero, List.map_append, SEmkmap, SEmset, mgetV, kvOf, getM, setM, c42, r42, v42_1, v42_2, u42_3, v42_4, u42_5, u42_6, u42_7, u42_8, u42_9, u42_10, u42_11, ty3, ty52, ty33, ty24, aokB, aokD, aokA, ↓rdO_allN, ↓rdO_kill, y1, y2, y3, y4, y5, prEta]) | (with_reducible refine And.intro ?_ ?_) | (refine call_r0 (d := some 6) (by omega) e21 ( take_R 1) rfl ?_ ?_ ?_ ?_ ?_ ?_) | (refine call_r1 (d := some 6) (by omega) e21 ( take_R 1) rfl ?_ ?_ ?_ ?_ ?_ ?_) | (refine call_r2 (d := some 6) (by omega) e21 ( take_R 1) rfl ?_ ?_ ?_ ?_ ?_ ?_) | (refine call_r0 (d := some 20) (by omega) e21 ( take_R 1) rfl ?_ ?_ ?_ ?_ ?_ ?_) | (refine call_r1 (d := some 20) (by omega) e21 ( take_R 1) rfl ?_ ?_ ?_ ?_ ?_ ?_) | (refine call_r2 (d := some 20) (by omega) e21 ( take_R 1) rfl ?_ ?_ ?_ ?_ ?_ ?_) | (refine loop_nat ((takN (b, e) 1).toNat) (fun k => itC (b, e) ((takN (b, e) 1).toNat - k) k = M) (fun k => [(0, .lp n 0), (4, I (takN (b, e) 1 - k)), (3, .os (B + 22) (itL (b, e) k).length)]) (fun k => [(B + 22, .arr 1 3 ((itL (b, e) k).map int_)), (n, rdO (itS (b, e) k).1 (itS (b, e) k).2)]) ?_ (Wk.trans (Wk.nameF (s := 3) (n := B + 22) (k := 1) (E := 3) rfl (by omega) (.inl (by omega)) (fun m => AO.kill_below (q := fun m => decide (m < B)) (by simp) _ (hcl m).1)) (Wk.keep hcl ?_ ?_ ?_)) fun k hk hF => ?_; rotate_left 1; (focus (simp [Fr.get, newF, Fr.map, AV.kill, AV.mapN, aokB, aokD, aokA, ↓rdO_allN, ↓rdO_kill, y1, y2, y3, y4, y5, prEta] <;> fail)); (focus (simp [sto, newL, Loc.kill, Loc.set, AO.kill, AV.kill, AV.mapN, aokB, aokD, aokA, ↓rdO_allN, ↓rdO_kill, y1, y2, y3, y4, y5, prEta] <;> fail)); (focus (simp [newL, Loc.kill, Loc.set, aokB, aokD, aokA, ↓rdO_allN, ↓rdO_kill, y1, y2, y3, y4, y5, prEta] <;> fail)); (try have hw : IntKind.i64.wrap ((k : Int) + 1) = (k : Int) + 1 := IntWalk.i64_in _ (by omega))) | (refine EndX.plain ?_) | (refine nil_split (fun hn => ?_) (fun hn => ?_)) | (refine gcall_no not_false ?_) | (refine gdcall_no not_false ?_) | (refine GuardS_of _ _ _ _ _ _ (fun hg => ?_) (fun hg => ?_)) | (refine GuardD_of _ _ _ _ (fun hg => ?_) (fun hg => ?_)) | (refine CondB_of _ _ _ _ _ _ _ ?_ (fun hg => ?_) (fun hg => ?_)))
  repeat' (first | (simp -implicitDefEqProofs only [*, contN, contC, Nat.reduceBEq, Bool.or_false, Bool.or_true, Bool.false_or, Bool.true_or, Bool.not_true, Bool.not_false, w_skip, w_ret, w_exit, w_reg, w_dreg, w_seq, SK_n, SK_r, SK_x, w_keep, w_block, w_cond, w_nil, w_cons, w_consg, w_nnil, w_ncons, w_dnil, w_dcons, w_dconsg, HK_app, HD_app, HQ_n, HQ_r, HQ_x, HQ_bn, HQ_br, HQ_bx, HQ_en, HQ_er, HQ_ex, CondB_true, CondB_false, SO1, w_sdv, SDe_alloc, SDe_box, SDe_bslice, SDe_app, true_imp_iff, false_imp_iff, and_false, false_and, not_false_eq_true, not_true_eq_false, addN, mkNames, killT, killD, killO, List.foldl_nil, List.foldl_cons, List.append_nil, List.nil_append, List.cons_append, GuardS_true, GuardS_false, GuardD_true, GuardD_false, DK_true, DK_false, lt_self_add, le_self_add, decide_true, decide_false, Bool.false_eq_true, Bool.true_eq_false, Nat.add_left_cancel_iff, SE, SEalloc, SEbox, SEstore, w_bs, SEbl, SEfz, SEbs0, fzName, osOf, AV.fz1, w_app, w_mk, aev, opd, Fr.get, putO, Fr.norm, List.map_cons, List.map_nil, with1, with2, onInt, AV.lit, entry, ↓reduceIte, Nat.reduceEqDiff, Nat.reduceAdd, reduceCtorEq, true_and, and_true, Option.map_some, Option.map_none, Option.bind_some, Option.bind_none, cond_true, cond_false, binV, unV, fieldV, loadV, sto, cellsAV, newF, newL, Fr.map, Loc.kill, Loc.set, AV.kill, AV.mapN, AV.mapNL, List.filter_nil, List.filter_cons, allP, EndV, retV, resV, resL, frz, dropL, AV.pick, nilV, tupV, imp_self, ne_eq, Int.cast_ofNat_Int, Int.reduceLT, Int.reduceToNat, List.getD_cons_zero, List.getD_cons_succ, bsliceV, buildV, afill, repl, chunk, rvs, AV.rv, RV.nrm, List.getElem?_nil, List.append_assoc, Nat.reduceMul, Nat.reducePow, Nat.zero_lt_succ, Nat.zero_add, Nat.add_zero, List.length_cons, List.length_nil, Nat.reduceLeDiff, Nat.le_refl, List.take_succ_cons, List.take_zero, List.drop_succ_cons, List.drop_zero, indexV, lenV, rowOf_mapD, rowOf_mapI, rowOf_mapA, List.length_map, Int.toNat_natCast, List.getElem?_cons_zero, List.getElem?_cons_succ, and_self, implies_true, if_true, if_false, HQ_zn, HQ_zr, HQ_wn, HQ_wr, AV.nz, AV.nzL, RV.nrm, SEbin, SEnil, nilK, srcV, dstV, appName, List.length_append, Nat.mul_one, take_map_len, take_map_app, List.getElem?_cons_zero, List.map_append, SEmkmap, SEmset, mgetV, kvOf, getM, setM, c42, r42, v42_1, v42_2, u42_3, v42_4, u42_5, u42_6, u42_7, u42_8, u42_9, u42_10, u42_11, ty3, ty52, ty33, ty24, aokB, aokD, aokA, ↓rdO_allN, ↓rdO_kill, y1, y2, y3, y4, y5, rdO, prEta, ints, int_, itS_0, itL_0]) | (with_reducible refine And.intro ?_ ?_) | (refine call_r0 (d := some 6) (by omega) e21 ( take_R 1) rfl ?_ ?_ ?_ ?_ ?_ ?_) | (refine call_r1 (d := some 6) (by omega) e21 ( take_R 1) rfl ?_ ?_ ?_ ?_ ?_ ?_) | (refine call_r2 (d := some 6) (by omega) e21 ( take_R 1) rfl ?_ ?_ ?_ ?_ ?_ ?_) | (refine call_r0 (d := some 20) (by omega) e21 ( take_R 1) rfl ?_ ?_ ?_ ?_ ?_ ?_) | (refine call_r1 (d := some 20) (by omega) e21 ( take_R 1) rfl ?_ ?_ ?_ ?_ ?_ ?_) | (refine call_r2 (d := some 20) (by omega) e21 ( take_R 1) rfl ?_ ?_ ?_ ?_ ?_ ?_) | (refine loop_nat ((takN (b, e) 1).toNat) (fun k => itC (b, e) ((takN (b, e) 1).toNat - k) k = M) (fun k => [(0, .lp n 0), (4, I (takN (b, e) 1 - k)), (3, .os (B + 22) (itL (b, e) k).length)]) (fun k => [(B + 22, .arr 1 3 ((itL (b, e) k).map int_)), (n, rdO (itS (b, e) k).1 (itS (b, e) k).2)]) ?_ (Wk.trans (Wk.nameF (s := 3) (n := B + 22) (k := 1) (E := 3) rfl (by omega) (.inl (by omega)) (fun m => AO.kill_below (q := fun m => decide (m < B)) (by simp) _ (hcl m).1)) (Wk.keep hcl ?_ ?_ ?_)) fun k hk hF => ?_; rotate_left 1; (focus (simp [Fr.get, newF, Fr.map, AV.kill, AV.mapN, aokB, aokD, aokA, ↓rdO_allN, ↓rdO_kill, y1, y2, y3, y4, y5, rdO, prEta, ints, int_, itS_0, itL_0] <;> fail)); (focus (simp [sto, newL, Loc.kill, Loc.set, AO.kill, AV.kill, AV.mapN, aokB, aokD, aokA, ↓rdO_allN, ↓rdO_kill, y1, y2, y3, y4, y5, rdO, prEta, ints, int_, itS_0, itL_0] <;> fail)); (focus (simp [newL, Loc.kill, Loc.set, aokB, aokD, aokA, ↓rdO_allN, ↓rdO_kill, y1, y2, y3, y4, y5, rdO, prEta, ints, int_, itS_0, itL_0] <;> fail)); (try have hw : IntKind.i64.wrap ((k : Int) + 1) = (k : Int) + 1 := IntWalk.i64_in _ (by omega))) | (refine EndX.plain ?_) | (refine nil_split (fun hn => ?_) (fun hn => ?_)) | (refine gcall_no not_false ?_) | (refine gdcall_no not_false ?_) | (refine GuardS_of _ _ _ _ _ _ (fun hg => ?_) (fun hg => ?_)) | (refine GuardD_of _ _ _ _ (fun hg => ?_) (fun hg => ?_)) | (refine CondB_of _ _ _ _ _ _ _ ?_ (fun hg => ?_) (fun hg => ?_)))
  all_goals first
    | (intro p hp; simp only [List.mem_cons, List.not_mem_nil, or_false] at hp; rcases hp with rfl | rfl <;> simp [y2]; done)
    | (intro p hp; simp only [List.mem_cons, List.not_mem_nil, or_false] at hp; subst hp; simp [y2]; done)
    | (intro p hp; cases hp; done)
    | (exact .inl (by decide))
    | trivial
    | (unfold Fr.below; simp [Fr.allN, AV.allN, AV.allNL, y5]; done)
    | (unfold Loc.below; simp only [List.all_cons, List.all_nil, rdO_allN, y5]; simp [AO.allN, AV.allN, AV.allNL]; done)
    | (have hgt := of_decide_eq_true (by assumption : decide (takN (b, e) 1 - (k : Int) > 0) = true)
       have h0 := (by assumption : ((itS (b, e) k).2 == 0) = true)
       have hlt : k < (takN (b, e) 1).toNat := by omega
       first
       | exact hlt
       | exact itC_go hF hlt h0
       | (rw [itL_len]; omega)
       | (rw [IntWalk.i64_in (takN (b, e) 1 - (k : Int) - 1) (by omega), show takN (b, e) 1 - (k : Int) - 1 = takN (b, e) 1 - ((k + 1 : Nat) : Int) by omega, ← itS_next, ← itL_next, List.map_append, List.length_append]
          refine Wk.keep hcl ?_ ?_ ?_ <;> simp [Fr.get, sto, rdO, int_, y1, y2]))
    | (have hk3 : k = M := by
         first
         | (have hle := of_decide_eq_false (by assumption : decide (takN (b, e) 1 - (k : Int) > 0) = false)
            exact itC_end hF (by omega))
         | exact itC_no hF (by assumption)
       first
       | (unfold intsN; rw [hM2, ← hk3])
       | (funext x
          by_cases z1 : x = n
          · subst z1; simp only [if_true]; unfold intsS; rw [hM2, ← hk3]
          · simp only [if_neg z1]; simp [hid1, z1]))
    | (refine rd_end ?_ ?_
       · simp [intsS, intsN]
       · intro x z1; simp [z1, hid1])
theorem rule_R  : Reads Tryd.prog 38 [] (fun s => (ruleN s).av) (fun s => ruleS s) (fun s => True) := by
  intro B σ n b e hn hσ hp
  refine own_ofL [(n, rdO b e)] (hid1_sto hσ) hid1_closed follows Tryd.func38 c38_eq r38 (Nat.le_of_ble_eq_true rfl) fun hcl hsz => ?_
  clear hsz
  have y1 : ∀ s, (n = B + s) = False := fun s => by simp; omega
  have y2 : ∀ s, (B + s = n) = False := fun s => by simp; omega
  have y3 : (n < B) = True := eq_true hn
  have y4 : decide (n < B) = true := by simpa using hn
  have y5 : decide (n < B + 100000) = true := by simp; omega
  repeat' (first | (simp -implicitDefEqProofs only [*, contN, contC, Nat.reduceBEq, Bool.or_false, Bool.or_true, Bool.false_or, Bool.true_or, Bool.not_true, Bool.not_false, w_skip, w_ret, w_exit, w_reg, w_dreg, w_seq, SK_n, SK_r, SK_x, w_keep, w_block, w_cond, w_nil, w_cons, w_consg, w_nnil, w_ncons, w_dnil, w_dcons, w_dconsg, HK_app, HD_app, HQ_n, HQ_r, HQ_x, HQ_bn, HQ_br, HQ_bx, HQ_en, HQ_er, HQ_ex, CondB_true, CondB_false, SO1, w_sdv, SDe_alloc, SDe_box, SDe_bslice, SDe_app, true_imp_iff, false_imp_iff, and_false, false_and, not_false_eq_true, not_true_eq_false, addN, mkNames, killT, killD, killO, List.foldl_nil, List.foldl_cons, List.append_nil, List.nil_append, List.cons_append, GuardS_true, GuardS_false, GuardD_true, GuardD_false, DK_true, DK_false, lt_self_add, le_self_add, decide_true, decide_false, Bool.false_eq_true, Bool.true_eq_false, Nat.add_left_cancel_iff, SE, SEalloc, SEbox, SEstore, w_bs, SEbl, SEfz, SEbs0, fzName, osOf, AV.fz1, w_app, w_mk, aev, opd, Fr.get, putO, Fr.norm, List.map_cons, List.map_nil, with1, with2, onInt, AV.lit, entry, ↓reduceIte, Nat.reduceEqDiff, Nat.reduceAdd, reduceCtorEq, true_and, and_true, Option.map_some, Option.map_none, Option.bind_some, Option.bind_none, cond_true, cond_false, binV, unV, fieldV, loadV, sto, cellsAV, newF, newL, Fr.map, Loc.kill, Loc.set, AV.kill, AV.mapN, AV.mapNL, List.filter_nil, List.filter_cons, allP, EndV, retV, resV, resL, frz, dropL, AV.pick, nilV, tupV, imp_self, ne_eq, Int.cast_ofNat_Int, Int.reduceLT, Int.reduceToNat, List.getD_cons_zero, List.getD_cons_succ, bsliceV, buildV, afill, repl, chunk, rvs, AV.rv, RV.nrm, List.getElem?_nil, List.append_assoc, Nat.reduceMul, Nat.reducePow, Nat.zero_lt_succ, Nat.zero_add, Nat.add_zero, List.length_cons, List.length_nil, Nat.reduceLeDiff, Nat.le_refl, List.take_succ_cons, List.take_zero, List.drop_succ_cons, List.drop_zero, indexV, lenV, rowOf_mapD, rowOf_mapI, rowOf_mapA, List.length_map, Int.toNat_natCast, List.getElem?_cons_zero, List.getElem?_cons_succ, and_self, implies_true, if_true, if_false, HQ_zn, HQ_zr, HQ_wn, HQ_wr, AV.nz, AV.nzL, RV.nrm, SEbin, SEnil, nilK, srcV, dstV, appName, List.length_append, Nat.mul_one, take_map_len, take_map_app, List.getElem?_cons_zero, List.map_append, SEmkmap, SEmset, mgetV, kvOf, getM, setM, c38, r38, v38_1, u38_2, u38_3, u38_4, ty23, ty3, aokB, aokD, aokA, ↓rdO_allN, ↓rdO_kill, y1, y2, y3, y4, y5, RulD.av, ruleN, prEta]) | (with_reducible refine And.intro ?_ ?_) | (refine call_r0 (d := some 6) (by omega) e37 ( text_R) rfl ?_ ?_ ?_ ?_ ?_ ?_) | (refine call_r1 (d := some 6) (by omega) e37 ( text_R) rfl ?_ ?_ ?_ ?_ ?_ ?_) | (refine call_r2 (d := some 6) (by omega) e37 ( text_R) rfl ?_ ?_ ?_ ?_ ?_ ?_) | (refine call_r0 (d := some 8) (by omega) e21 ( take_R 4) rfl ?_ ?_ ?_ ?_ ?_ ?_) | (refine call_r1 (d := some 8) (by omega) e21 ( take_R 4) rfl ?_ ?_ ?_ ?_ ?_ ?_) | (refine call_r2 (d := some 8) (by omega) e21 ( take_R 4) rfl ?_ ?_ ?_ ?_ ?_ ?_) | (refine call_r0 (d := some 13) (by omega) e21 ( take_R 4) rfl ?_ ?_ ?_ ?_ ?_ ?_) | (refine call_r1 (d := some 13) (by omega) e21 ( take_R 4) rfl ?_ ?_ ?_ ?_ ?_ ?_) | (refine call_r2 (d := some 13) (by omega) e21 ( take_R 4) rfl ?_ ?_ ?_ ?_ ?_ ?_) | (refine EndX.plain ?_) | (refine nil_split (fun hn => ?_) (fun hn => ?_)) | (refine gcall_no not_false ?_) | (refine gdcall_no not_false ?_) | (refine GuardS_of _ _ _ _ _ _ (fun hg => ?_) (fun hg => ?_)) | (refine GuardD_of _ _ _ _ (fun hg => ?_) (fun hg => ?_)) | (refine CondB_of _ _ _ _ _ _ _ ?_ (fun hg => ?_) (fun hg => ?_)))
  all_goals first
    | (intro p hp; simp only [List.mem_cons, List.not_mem_nil, or_false] at hp; rcases hp with rfl | rfl <;> simp [y2]; done)
    | (intro p hp; simp only [List.mem_cons, List.not_mem_nil, or_false] at hp; subst hp; simp [y2]; done)
    | (intro p hp; cases hp; done)
    | (exact .inl (by decide))
    | trivial
    | (unfold Fr.below; simp [Fr.allN, AV.allN, AV.allNL, y5]; done)
    | (unfold Loc.below; simp only [List.all_cons, List.all_nil, rdO_allN, y5]; simp [AO.allN, AV.allN, AV.allNL]; done)
    | rfl
    | (refine rd_end ?_ ?_
       · simp only [if_true]; rfl
       · intro x z1; simp [z1, hid1])
    | (refine rd_end ?_ ?_
       · simp [ruleS, rul2]
       · intro x z1; simp [z1, hid1])
theorem ask_R  : Reads Tryd.prog 40 [] (fun s => askV (askN s)) (fun s => askS s) (fun s => True) := by
  intro B σ n b e hn hσ hp
  refine own_ofL [(n, rdO b e)] (hid1_sto hσ) hid1_closed follows Tryd.func40 c40_eq r40 (Nat.le_of_ble_eq_true rfl) fun hcl hsz => ?_
  clear hsz
  have y1 : ∀ s, (n = B + s) = False := fun s => by simp; omega
  have y2 : ∀ s, (B + s = n) = False := fun s => by simp; omega
  have y3 : (n < B) = True := eq_true hn
  have y4 : decide (n < B) = true := by simpa using hn
  have y5 : decide (n < B + 100000) = true := by simp; omega
  repeat' (first | (simp -implicitDefEqProofs only [*, contN, contC, Nat.reduceBEq, Bool.or_false, Bool.or_true, Bool.false_or, Bool.true_or, Bool.not_true, Bool.not_false, w_skip, w_ret, w_exit, w_reg, w_dreg, w_seq, SK_n, SK_r, SK_x, w_keep, w_block, w_cond, w_nil, w_cons, w_consg, w_nnil, w_ncons, w_dnil, w_dcons, w_dconsg, HK_app, HD_app, HQ_n, HQ_r, HQ_x, HQ_bn, HQ_br, HQ_bx, HQ_en, HQ_er, HQ_ex, CondB_true, CondB_false, SO1, w_sdv, SDe_alloc, SDe_box, SDe_bslice, SDe_app, true_imp_iff, false_imp_iff, and_false, false_and, not_false_eq_true, not_true_eq_false, addN, mkNames, killT, killD, killO, List.foldl_nil, List.foldl_cons, List.append_nil, List.nil_append, List.cons_append, GuardS_true, GuardS_false, GuardD_true, GuardD_false, DK_true, DK_false, lt_self_add, le_self_add, decide_true, decide_false, Bool.false_eq_true, Bool.true_eq_false, Nat.add_left_cancel_iff, SE, SEalloc, SEbox, SEstore, w_bs, SEbl, SEfz, SEbs0, fzName, osOf, AV.fz1, w_app, w_mk, aev, opd, Fr.get, putO, Fr.norm, List.map_cons, List.map_nil, with1, with2, onInt, AV.lit, entry, ↓reduceIte, Nat.reduceEqDiff, Nat.reduceAdd, reduceCtorEq, true_and, and_true, Option.map_some, Option.map_none, Option.bind_some, Option.bind_none, cond_true, cond_false, binV, unV, fieldV, loadV, sto, cellsAV, newF, newL, Fr.map, Loc.kill, Loc.set, AV.kill, AV.mapN, AV.mapNL, List.filter_nil, List.filter_cons, allP, EndV, retV, resV, resL, frz, dropL, AV.pick, nilV, tupV, imp_self, ne_eq, Int.cast_ofNat_Int, Int.reduceLT, Int.reduceToNat, List.getD_cons_zero, List.getD_cons_succ, bsliceV, buildV, afill, repl, chunk, rvs, AV.rv, RV.nrm, List.getElem?_nil, List.append_assoc, Nat.reduceMul, Nat.reducePow, Nat.zero_lt_succ, Nat.zero_add, Nat.add_zero, List.length_cons, List.length_nil, Nat.reduceLeDiff, Nat.le_refl, List.take_succ_cons, List.take_zero, List.drop_succ_cons, List.drop_zero, indexV, lenV, rowOf_mapD, rowOf_mapI, rowOf_mapA, List.length_map, Int.toNat_natCast, List.getElem?_cons_zero, List.getElem?_cons_succ, and_self, implies_true, if_true, if_false, HQ_zn, HQ_zr, HQ_wn, HQ_wr, AV.nz, AV.nzL, RV.nrm, SEbin, SEnil, nilK, srcV, dstV, appName, List.length_append, Nat.mul_one, take_map_len, take_map_app, List.getElem?_cons_zero, List.map_append, SEmkmap, SEmset, mgetV, kvOf, getM, setM, c40, r40, u40_1, u40_2, u40_3, u40_4, u40_5, ty28, ty3, aokB, aokD, aokA, ↓rdO_allN, ↓rdO_kill, y1, y2, y3, y4, y5, askV, AskD.row, askN, prEta]) | (with_reducible refine And.intro ?_ ?_) | (refine call_r0 (d := some 5) (by omega) e21 ( take_R 3) rfl ?_ ?_ ?_ ?_ ?_ ?_) | (refine call_r1 (d := some 5) (by omega) e21 ( take_R 3) rfl ?_ ?_ ?_ ?_ ?_ ?_) | (refine call_r2 (d := some 5) (by omega) e21 ( take_R 3) rfl ?_ ?_ ?_ ?_ ?_ ?_) | (refine call_r0 (d := some 8) (by omega) e21 ( take_R 2) rfl ?_ ?_ ?_ ?_ ?_ ?_) | (refine call_r1 (d := some 8) (by omega) e21 ( take_R 2) rfl ?_ ?_ ?_ ?_ ?_ ?_) | (refine call_r2 (d := some 8) (by omega) e21 ( take_R 2) rfl ?_ ?_ ?_ ?_ ?_ ?_) | (refine call_r0 (d := some 11) (by omega) e21 ( take_R 1) rfl ?_ ?_ ?_ ?_ ?_ ?_) | (refine call_r1 (d := some 11) (by omega) e21 ( take_R 1) rfl ?_ ?_ ?_ ?_ ?_ ?_) | (refine call_r2 (d := some 11) (by omega) e21 ( take_R 1) rfl ?_ ?_ ?_ ?_ ?_ ?_) | (refine EndX.plain ?_) | (refine nil_split (fun hn => ?_) (fun hn => ?_)) | (refine gcall_no not_false ?_) | (refine gdcall_no not_false ?_) | (refine GuardS_of _ _ _ _ _ _ (fun hg => ?_) (fun hg => ?_)) | (refine GuardD_of _ _ _ _ (fun hg => ?_) (fun hg => ?_)) | (refine CondB_of _ _ _ _ _ _ _ ?_ (fun hg => ?_) (fun hg => ?_)))
  all_goals first
    | (intro p hp; simp only [List.mem_cons, List.not_mem_nil, or_false] at hp; rcases hp with rfl | rfl <;> simp [y2]; done)
    | (intro p hp; simp only [List.mem_cons, List.not_mem_nil, or_false] at hp; subst hp; simp [y2]; done)
    | (intro p hp; cases hp; done)
    | (exact .inl (by decide))
    | trivial
    | (unfold Fr.below; simp [Fr.allN, AV.allN, AV.allNL, y5]; done)
    | (unfold Loc.below; simp only [List.all_cons, List.all_nil, rdO_allN, y5]; simp [AO.allN, AV.allN, AV.allNL]; done)
    | rfl
    | (refine rd_end ?_ ?_
       · simp only [if_true]; rfl
       · intro x z1; simp [z1, hid1])
    | (refine rd_end ?_ ?_
       · simp [askS, ask2]
       · intro x z1; simp [z1, hid1])
theorem part_R  : Reads Tryd.prog 41 [] (fun s => partV (partN s)) (fun s => partS s) (fun s => True) := by
  intro B σ n b e hn hσ hp
  refine own_ofL [(n, rdO b e)] (hid1_sto hσ) hid1_closed follows Tryd.func41 c41_eq r41 (Nat.le_of_ble_eq_true rfl) fun hcl hsz => ?_
  clear hsz
  have y1 : ∀ s, (n = B + s) = False := fun s => by simp; omega
  have y2 : ∀ s, (B + s = n) = False := fun s => by simp; omega
  have y3 : (n < B) = True := eq_true hn
  have y4 : decide (n < B) = true := by simpa using hn
  have y5 : decide (n < B + 100000) = true := by simp; omega
  repeat' (first | (simp -implicitDefEqProofs only [*, contN, contC, Nat.reduceBEq, Bool.or_false, Bool.or_true, Bool.false_or, Bool.true_or, Bool.not_true, Bool.not_false, w_skip, w_ret, w_exit, w_reg, w_dreg, w_seq, SK_n, SK_r, SK_x, w_keep, w_block, w_cond, w_nil, w_cons, w_consg, w_nnil, w_ncons, w_dnil, w_dcons, w_dconsg, HK_app, HD_app, HQ_n, HQ_r, HQ_x, HQ_bn, HQ_br, HQ_bx, HQ_en, HQ_er, HQ_ex, CondB_true, CondB_false, SO1, w_sdv, SDe_alloc, SDe_box, SDe_bslice, SDe_app, true_imp_iff, false_imp_iff, and_false, false_and, not_false_eq_true, not_true_eq_false, addN, mkNames, killT, killD, killO, List.foldl_nil, List.foldl_cons, List.append_nil, List.nil_append, List.cons_append, GuardS_true, GuardS_false, GuardD_true, GuardD_false, DK_true, DK_false, lt_self_add, le_self_add, decide_true, decide_false, Bool.false_eq_true, Bool.true_eq_false, Nat.add_left_cancel_iff, SE, SEalloc, SEbox, SEstore, w_bs, SEbl, SEfz, SEbs0, fzName, osOf, AV.fz1, w_app, w_mk, aev, opd, Fr.get, putO, Fr.norm, List.map_cons, List.map_nil, with1, with2, onInt, AV.lit, entry, ↓reduceIte, Nat.reduceEqDiff, Nat.reduceAdd, reduceCtorEq, true_and, and_true, Option.map_some, Option.map_none, Option.bind_some, Option.bind_none, cond_true, cond_false, binV, unV, fieldV, loadV, sto, cellsAV, newF, newL, Fr.map, Loc.kill, Loc.set, AV.kill, AV.mapN, AV.mapNL, List.filter_nil, List.filter_cons, allP, EndV, retV, resV, resL, frz, dropL, AV.pick, nilV, tupV, imp_self, ne_eq, Int.cast_ofNat_Int, Int.reduceLT, Int.reduceToNat, List.getD_cons_zero, List.getD_cons_succ, bsliceV, buildV, afill, repl, chunk, rvs, AV.rv, RV.nrm, List.getElem?_nil, List.append_assoc, Nat.reduceMul, Nat.reducePow, Nat.zero_lt_succ, Nat.zero_add, Nat.add_zero, List.length_cons, List.length_nil, Nat.reduceLeDiff, Nat.le_refl, List.take_succ_cons, List.take_zero, List.drop_succ_cons, List.drop_zero, indexV, lenV, rowOf_mapD, rowOf_mapI, rowOf_mapA, List.length_map, Int.toNat_natCast, List.getElem?_cons_zero, List.getElem?_cons_succ, and_self, implies_true, if_true, if_false, HQ_zn, HQ_zr, HQ_wn, HQ_wr, AV.nz, AV.nzL, RV.nrm, SEbin, SEnil, nilK, srcV, dstV, appName, List.length_append, Nat.mul_one, take_map_len, take_map_app, List.getElem?_cons_zero, List.map_append, SEmkmap, SEmset, mgetV, kvOf, getM, setM, c41, r41, u41_1, u41_2, u41_3, u41_4, u41_5, ty30, ty3, ty24, aokB, aokD, aokA, ↓rdO_allN, ↓rdO_kill, y1, y2, y3, y4, y5, partV, PartD.row, partN, ints, prEta]) | (with_reducible refine And.intro ?_ ?_) | (refine call_r0 (d := some 5) (by omega) e21 ( take_R 1) rfl ?_ ?_ ?_ ?_ ?_ ?_) | (refine call_r1 (d := some 5) (by omega) e21 ( take_R 1) rfl ?_ ?_ ?_ ?_ ?_ ?_) | (refine call_r2 (d := some 5) (by omega) e21 ( take_R 1) rfl ?_ ?_ ?_ ?_ ?_ ?_) | (refine call_r0 (d := some 8) (by omega) e21 ( take_R 2) rfl ?_ ?_ ?_ ?_ ?_ ?_) | (refine call_r1 (d := some 8) (by omega) e21 ( take_R 2) rfl ?_ ?_ ?_ ?_ ?_ ?_) | (refine call_r2 (d := some 8) (by omega) e21 ( take_R 2) rfl ?_ ?_ ?_ ?_ ?_ ?_) | (refine call_r0 (d := some 11) (by omega) e42 ( ints_R) rfl ?_ ?_ ?_ ?_ ?_ ?_) | (refine call_r1 (d := some 11) (by omega) e42 ( ints_R) rfl ?_ ?_ ?_ ?_ ?_ ?_) | (refine call_r2 (d := some 11) (by omega) e42 ( ints_R) rfl ?_ ?_ ?_ ?_ ?_ ?_) | (refine EndX.plain ?_) | (refine nil_split (fun hn => ?_) (fun hn => ?_)) | (refine gcall_no not_false ?_) | (refine gdcall_no not_false ?_) | (refine GuardS_of _ _ _ _ _ _ (fun hg => ?_) (fun hg => ?_)) | (refine GuardD_of _ _ _ _ (fun hg => ?_) (fun hg => ?_)) | (refine CondB_of _ _ _ _ _ _ _ ?_ (fun hg => ?_) (fun hg => ?_)))
  all_goals first
    | (intro p hp; simp only [List.mem_cons, List.not_mem_nil, or_false] at hp; rcases hp with rfl | rfl <;> simp [y2]; done)
    | (intro p hp; simp only [List.mem_cons, List.not_mem_nil, or_false] at hp; subst hp; simp [y2]; done)
    | (intro p hp; cases hp; done)
    | (exact .inl (by decide))
    | trivial
    | (unfold Fr.below; simp [Fr.allN, AV.allN, AV.allNL, y5]; done)
    | (unfold Loc.below; simp only [List.all_cons, List.all_nil, rdO_allN, y5]; simp [AO.allN, AV.allN, AV.allNL]; done)
    | rfl
    | (refine rd_end ?_ ?_
       · simp only [if_true]; rfl
       · intro x z1; simp [z1, hid1])
    | (refine rd_end ?_ ?_
       · simp [partS, part2]
       · intro x z1; simp [z1, hid1])
end Go.Proofs.YtijpmidnclbhpaaDoor
