/- Devices that may be: the program's check, whole, and the reference's. -/
import Derived.Test.YtelciiooegiikaaDevC
import Derived.Test.YtelciiooegiikaaTypes
namespace Go.Proofs.Ytelciiooegiikaa
open Go.RowKit
set_option maxRecDepth 100000
def o17_1 : List SO := ((SO.mk (some 21) (.len 57 (.tmp 20)) none) :: (SO.mk (some 22) (.move (.const (Value.int .i64 0))) none) :: [])
theorem v17_1 : type_of% (@swl _ _ o17_1.eq_1) := @swl _ _ o17_1.eq_1
def o17_2 : List SO := ((SO.mk (some 17) (.faddr 23 (.tmp 1) 4) none) :: (SO.mk (some 18) (.load 3 (.tmp 17)) none) :: (SO.mk (some 19) (.build 56 [(0 , (.tmp 18)), (1 , (.const (Value.int .i64 1))), (2 , (.const (Value.int .i64 8)))]) none) :: (SO.mk (some 20) (.bslice 57 5 [(0 , (.tmp 7)), (1 , (.tmp 10)), (2 , (.tmp 13)), (3 , (.tmp 16)), (4 , (.tmp 19))]) none) :: o17_1)
theorem v17_2 : type_of% (@swl _ _ o17_2.eq_1) := @swl _ _ o17_2.eq_1
def o17_3 : List SO := ((SO.mk (some 13) (.build 56 [(0 , (.tmp 12)), (1 , (.const (Value.int .i64 2))), (2 , (.const (Value.int .i64 200)))]) none) :: (SO.mk (some 14) (.faddr 23 (.tmp 1) 3) none) :: (SO.mk (some 15) (.load 3 (.tmp 14)) none) :: (SO.mk (some 16) (.build 56 [(0 , (.tmp 15)), (1 , (.const (Value.int .i64 100))), (2 , (.const (Value.int .i64 4000)))]) none) :: o17_2)
theorem v17_3 : type_of% (@swl _ _ o17_3.eq_1) := @swl _ _ o17_3.eq_1
def o17_4 : List SO := ((SO.mk (some 9) (.load 3 (.tmp 8)) none) :: (SO.mk (some 10) (.build 56 [(0 , (.tmp 9)), (1 , (.const (Value.int .i64 2))), (2 , (.const (Value.int .i64 80)))]) none) :: (SO.mk (some 11) (.faddr 23 (.tmp 1) 2) none) :: (SO.mk (some 12) (.load 3 (.tmp 11)) none) :: o17_3)
theorem v17_4 : type_of% (@swl _ _ o17_4.eq_1) := @swl _ _ o17_4.eq_1
def o17_5 : List SO := ((SO.mk (some 34) (.iaddr 56 (.tmp 4) (.const (Value.int .i64 2))) (some (31 , false))) :: (SO.mk (some 35) (.load 3 (.tmp 34)) (some (31 , false))) :: (SO.mk (some 36) (.bin .gtr 3 (.tmp 33) (.tmp 35)) (some (31 , false))) :: (SO.mk (some 37) (.pick (.tmp 31) (.const (Value.bool true)) (.tmp 36)) none) :: [])
theorem v17_5 : type_of% (@swl _ _ o17_5.eq_1) := @swl _ _ o17_5.eq_1
def o17_6 : List SO := ((SO.mk (some 30) (.bin .lss 3 (.tmp 27) (.tmp 29)) none) :: (SO.mk (some 31) (.move (.tmp 30)) none) :: (SO.mk (some 32) (.iaddr 56 (.tmp 4) (.const (Value.int .i64 0))) (some (31 , false))) :: (SO.mk (some 33) (.load 3 (.tmp 32)) (some (31 , false))) :: o17_5)
theorem v17_6 : type_of% (@swl _ _ o17_6.eq_1) := @swl _ _ o17_6.eq_1
def c17_7 : SC := (.seq (.reg [SO.mk (some 2) (.move (.const (Value.int .i64 2))) none]) (.keep [2] .ret))
theorem u17_7 : type_of% (@swc _ _ c17_7.eq_1) := @swc _ _ c17_7.eq_1
def c17_8 : SC := (.cond (.tmp 37) c17_7 .skip)
theorem u17_8 : type_of% (@swc _ _ c17_8.eq_1) := @swc _ _ c17_8.eq_1
def c17_9 : SC := (.seq (.reg ((SO.mk (some 26) (.iaddr 56 (.tmp 4) (.const (Value.int .i64 0))) none) :: (SO.mk (some 27) (.load 3 (.tmp 26)) none) :: (SO.mk (some 28) (.iaddr 56 (.tmp 4) (.const (Value.int .i64 1))) none) :: (SO.mk (some 29) (.load 3 (.tmp 28)) none) :: o17_6)) (.keep [37, 22, 21, 20] c17_8))
theorem u17_9 : type_of% (@swc _ _ c17_9.eq_1) := @swc _ _ c17_9.eq_1
def c17_10 : SC := (.reg [SO.mk (some 38) (.bin .add 3 (.tmp 22) (.const (Value.int .i64 1))) none, SO.mk (some 22) (.move (.tmp 38)) none])
theorem u17_10 : type_of% (@swc _ _ c17_10.eq_1) := @swc _ _ c17_10.eq_1
def c17_11 : SC := (.seq (.block 1 (.seq (.reg [SO.mk (some 24) (.iaddr 57 (.tmp 20) (.tmp 22)) none, SO.mk (some 25) (.load 56 (.tmp 24)) none, SO.mk (some 4) (.alloc 56) none, SO.mk none (.store 56 (.tmp 4) (.tmp 25)) none]) (.keep [4, 22, 21, 20] c17_9))) (.keep [22, 21, 20] c17_10))
theorem u17_11 : type_of% (@swc _ _ c17_11.eq_1) := @swc _ _ c17_11.eq_1
def c17_12 : SC := (.seq (.cond (.tmp 23) .skip (.exit 0)) (.keep [22, 21, 20] c17_11))
theorem u17_12 : type_of% (@swc _ _ c17_12.eq_1) := @swc _ _ c17_12.eq_1
def c17_13 : SC := (.seq (.reg [SO.mk (some 23) (.bin .lss 3 (.tmp 22) (.tmp 21)) none]) (.keep [23, 20, 21, 22] c17_12))
theorem u17_13 : type_of% (@swc _ _ c17_13.eq_1) := @swc _ _ c17_13.eq_1
def c17_14 : SC := (.block 0 (.loop (.keep [20, 21, 22] c17_13)))
theorem u17_14 : type_of% (@swc _ _ c17_14.eq_1) := @swc _ _ c17_14.eq_1
def c17_15 : SC := (.seq (.reg [SO.mk (some 2) (.move (.const (Value.int .i64 0))) none]) (.keep [2] .ret))
theorem u17_15 : type_of% (@swc _ _ c17_15.eq_1) := @swc _ _ c17_15.eq_1
def c17_16 : SC := (.seq (.seq (.reg ((SO.mk (some 5) (.faddr 23 (.tmp 1) 0) none) :: (SO.mk (some 6) (.load 3 (.tmp 5)) none) :: (SO.mk (some 7) (.build 56 [(0 , (.tmp 6)), (1 , (.const (Value.int .i64 4))), (2 , (.const (Value.int .i64 60)))]) none) :: (SO.mk (some 8) (.faddr 23 (.tmp 1) 1) none) :: o17_4)) (.keep [20, 21, 22] c17_14)) (.keep [] c17_15))
theorem u17_16 : type_of% (@swc _ _ c17_16.eq_1) := @swc _ _ c17_16.eq_1
def c17 : SC := (.seq (.reg [SO.mk (some 1) (.box 23 (.tmp 0)) none, SO.mk (some 2) (.move (.const (Value.int .i64 0))) none]) (.keep [1] c17_16))
theorem c17_eq : annC Try.f17 = some c17 := by kernel_rfl
theorem r17 : Try.f17.results.toList = [.tmp 2] := by kernel_rfl
theorem e17 : enters Try.prog 17 = true := by kernel_rfl
def c10_1 : SC := (.seq (.reg [SO.mk (some 10) (.move (.tmp 5)) none, SO.mk (some 4) (.move (.tmp 10)) none]) (.keep [4] .ret))
theorem u10_1 : type_of% (@swc _ _ c10_1.eq_1) := @swc _ _ c10_1.eq_1
def c10_2 : SC := (.cond (.tmp 9) c10_1 .skip)
theorem u10_2 : type_of% (@swc _ _ c10_2.eq_1) := @swc _ _ c10_2.eq_1
def c10_3 : SC := (.seq (.reg [SO.mk (some 8) (.move (.tmp 5)) none, SO.mk (some 9) (.bin .neq 31 (.tmp 8) (.const (Value.int .i64 0))) none]) (.keep [9, 5, 3, 2] c10_2))
theorem u10_3 : type_of% (@swc _ _ c10_3.eq_1) := @swc _ _ c10_3.eq_1
def o10_4 : List SO := ((SO.mk (some 39) (.bin .gtr 3 (.tmp 38) (.const (Value.int .i64 1048576))) (some (36 , false))) :: (SO.mk (some 40) (.pick (.tmp 36) (.const (Value.bool true)) (.tmp 39)) none) :: [])
theorem v10_4 : type_of% (@swd _ _ o10_4.eq_1) := @swd _ _ o10_4.eq_1
def o10_5 : List SO := ((SO.mk (some 35) (.pick (.tmp 31) (.const (Value.bool true)) (.tmp 34)) none) :: (SO.mk (some 36) (.move (.tmp 35)) none) :: (SO.mk (some 37) (.faddr 28 (.tmp 3) 3) (some (36 , false))) :: (SO.mk (some 38) (.load 3 (.tmp 37)) (some (36 , false))) :: o10_4)
theorem v10_5 : type_of% (@swd _ _ o10_5.eq_1) := @swd _ _ o10_5.eq_1
def o10_6 : List SO := ((SO.mk (some 31) (.move (.tmp 30)) none) :: (SO.mk (some 32) (.faddr 28 (.tmp 3) 3) (some (31 , false))) :: (SO.mk (some 33) (.load 3 (.tmp 32)) (some (31 , false))) :: (SO.mk (some 34) (.bin .lss 3 (.tmp 33) (.const (Value.int .i64 (-1)))) (some (31 , false))) :: o10_5)
theorem v10_6 : type_of% (@swd _ _ o10_6.eq_1) := @swd _ _ o10_6.eq_1
def o10_7 : List SO := ((SO.mk (some 27) (.faddr 23 (.tmp 2) 4) (some (23 , false))) :: (SO.mk (some 28) (.load 3 (.tmp 27)) (some (23 , false))) :: (SO.mk (some 29) (.bin .gtr 3 (.tmp 26) (.tmp 28)) (some (23 , false))) :: (SO.mk (some 30) (.pick (.tmp 23) (.const (Value.bool true)) (.tmp 29)) none) :: o10_6)
theorem v10_7 : type_of% (@swd _ _ o10_7.eq_1) := @swd _ _ o10_7.eq_1
def o10_8 : List SO := ((SO.mk (some 23) (.move (.tmp 22)) none) :: (SO.mk (some 24) (.faddr 28 (.tmp 3) 2) (some (23 , false))) :: (SO.mk (some 25) (.load 26 (.tmp 24)) (some (23 , false))) :: (SO.mk (some 26) (.len 26 (.tmp 25)) (some (23 , false))) :: o10_7)
theorem v10_8 : type_of% (@swd _ _ o10_8.eq_1) := @swd _ _ o10_8.eq_1
def o10_9 : List SO := ((SO.mk (some 19) (.load 25 (.tmp 18)) (some (17 , false))) :: (SO.mk (some 20) (.len 25 (.tmp 19)) (some (17 , false))) :: (SO.mk (some 21) (.bin .gtr 3 (.tmp 20) (.const (Value.int .i64 2000))) (some (17 , false))) :: (SO.mk (some 22) (.pick (.tmp 17) (.const (Value.bool true)) (.tmp 21)) none) :: o10_8)
theorem v10_9 : type_of% (@swd _ _ o10_9.eq_1) := @swd _ _ o10_9.eq_1
def o10_10 : List SO := ((SO.mk (some 15) (.call 18 [(.tmp 14)]) none) :: (SO.mk (some 16) (.bin .neq 3 (.tmp 13) (.tmp 15)) none) :: (SO.mk (some 17) (.move (.tmp 16)) none) :: (SO.mk (some 18) (.faddr 28 (.tmp 3) 1) (some (17 , false))) :: o10_9)
theorem v10_10 : type_of% (@swd _ _ o10_10.eq_1) := @swd _ _ o10_10.eq_1
def o10_11 : List SO := ((SO.mk (some 11) (.faddr 28 (.tmp 3) 0) none) :: (SO.mk (some 12) (.load 24 (.tmp 11)) none) :: (SO.mk (some 13) (.len 24 (.tmp 12)) none) :: (SO.mk (some 14) (.load 23 (.tmp 2)) none) :: o10_10)
theorem v10_11 : type_of% (@swd _ _ o10_11.eq_1) := @swd _ _ o10_11.eq_1
theorem m10_11 (B : Nat) : mkNames B o10_11 = [] := (rfl)
def c10_12 : SC := (.seq (.reg [SO.mk (some 4) (.move (.const (Value.int .i64 9))) none]) (.keep [4] .ret))
theorem u10_12 : type_of% (@swc _ _ c10_12.eq_1) := @swc _ _ c10_12.eq_1
def c10_13 : SC := (.cond (.tmp 40) c10_12 .skip)
theorem u10_13 : type_of% (@swc _ _ c10_13.eq_1) := @swc _ _ c10_13.eq_1
def c10_14 : SC := (.seq (.reg [SO.mk (some 4) (.move (.const (Value.int .i64 9))) none]) (.keep [4] .ret))
theorem u10_14 : type_of% (@swc _ _ c10_14.eq_1) := @swc _ _ c10_14.eq_1
def c10_15 : SC := (.cond (.tmp 43) c10_14 .skip)
theorem u10_15 : type_of% (@swc _ _ c10_15.eq_1) := @swc _ _ c10_15.eq_1
def c10_16 : SC := (.seq (.reg [SO.mk (some 4) (.move (.const (Value.int .i64 9))) none]) (.keep [4] .ret))
theorem u10_16 : type_of% (@swc _ _ c10_16.eq_1) := @swc _ _ c10_16.eq_1
def c10_17 : SC := (.cond (.tmp 47) c10_16 .skip)
theorem u10_17 : type_of% (@swc _ _ c10_17.eq_1) := @swc _ _ c10_17.eq_1
def c10_18 : SC := (.seq (.reg [SO.mk (some 4) (.move (.const (Value.int .i64 9))) none]) (.keep [4] .ret))
theorem u10_18 : type_of% (@swc _ _ c10_18.eq_1) := @swc _ _ c10_18.eq_1
def c10_19 : SC := (.cond (.tmp 51) c10_18 .skip)
theorem u10_19 : type_of% (@swc _ _ c10_19.eq_1) := @swc _ _ c10_19.eq_1
def c10_20 : SC := (.seq (.reg [SO.mk (some 4) (.move (.const (Value.int .i64 0))) none]) (.keep [4] .ret))
theorem u10_20 : type_of% (@swc _ _ c10_20.eq_1) := @swc _ _ c10_20.eq_1
def c10_21 : SC := (.seq (.seq (.reg [SO.mk (some 48) (.faddr 28 (.tmp 3) 2) none, SO.mk (some 49) (.load 26 (.tmp 48)) none, SO.mk (some 50) (.mkfn (.func 24) [] [(.tmp 2)]) none, SO.mk (some 51) (.call 23 [(.tmp 49), (.tmp 50)]) none]) (.keep [51] c10_19)) (.keep [] c10_20))
theorem u10_21 : type_of% (@swc _ _ c10_21.eq_1) := @swc _ _ c10_21.eq_1
def c10_22 : SC := (.seq (.seq (.reg [SO.mk (some 44) (.faddr 28 (.tmp 3) 1) none, SO.mk (some 45) (.load 25 (.tmp 44)) none, SO.mk (some 46) (.mkfn (.func 22) [] [(.tmp 3)]) none, SO.mk (some 47) (.call 21 [(.tmp 45), (.tmp 46)]) none]) (.keep [47, 3, 2] c10_17)) (.keep [3, 2] c10_21))
theorem u10_22 : type_of% (@swc _ _ c10_22.eq_1) := @swc _ _ c10_22.eq_1
def c10_23 : SC := (.seq (.seq (.reg [SO.mk (some 41) (.faddr 28 (.tmp 3) 0) none, SO.mk (some 42) (.load 24 (.tmp 41)) none, SO.mk (some 43) (.call 19 [(.tmp 42), (.func 20)]) none]) (.keep [43, 3, 2] c10_15)) (.keep [3, 2] c10_22))
theorem u10_23 : type_of% (@swc _ _ c10_23.eq_1) := @swc _ _ c10_23.eq_1
def c10_24 : SC := (.seq (.seq (.dreg false o10_11 []) (.keep [40, 3, 2] c10_13)) (.keep [3, 2] c10_23))
theorem u10_24 : type_of% (@swc _ _ c10_24.eq_1) := @swc _ _ c10_24.eq_1
def c10_25 : SC := (.seq (.seq (.reg [SO.mk (some 6) (.load 23 (.tmp 2)) none, SO.mk (some 7) (.call 17 [(.tmp 6)]) none, SO.mk (some 5) (.move (.tmp 7)) none]) (.keep [5, 3, 2] c10_3)) (.keep [3, 2] c10_24))
theorem u10_25 : type_of% (@swc _ _ c10_25.eq_1) := @swc _ _ c10_25.eq_1
def c10 : SC := (.seq (.reg [SO.mk (some 2) (.box 23 (.tmp 0)) none, SO.mk (some 3) (.box 28 (.tmp 1)) none, SO.mk (some 4) (.move (.const (Value.int .i64 0))) none]) (.keep [3, 2] c10_25))
theorem c10_eq : annC Try.f10 = some c10 := by kernel_rfl
theorem r10 : Try.f10.results.toList = [.tmp 4] := by kernel_rfl
theorem e10 : enters Try.prog 10 = true := by kernel_rfl
end Go.Proofs.Ytelciiooegiikaa
namespace Go.Proofs.Ytelciiooegiikaa
open Go.RowKit
set_option maxHeartbeats 4000000
set_option maxRecDepth 20000
attribute [local irreducible] SW OSW SWL SWLn SWD SEcall SEcallv SDv SE SO1 SOg ACalls ACallv Wk EndV
set_option linter.unusedSimpArgs false
set_option linter.unusedVariables false
def geo5 (g : GeoD) : List (List RV) := [[.v (.int .i64 g.ring), .v (.int .i64 4), .v (.int .i64 60)], [.v (.int .i64 g.area), .v (.int .i64 2), .v (.int .i64 80)], [.v (.int .i64 g.hot), .v (.int .i64 2), .v (.int .i64 200)],
  [.v (.int .i64 g.volume), .v (.int .i64 100), .v (.int .i64 4000)], [.v (.int .i64 g.volumes), .v (.int .i64 1), .v (.int .i64 8)]]
def geoT (g : GeoD) : List Bool := [inR g.ring 4 60, inR g.area 2 80, inR g.hot 2 200, inR g.volume 100 4000, inR g.volumes 1 8]
theorem checkGeo_p (g : GeoD) : Pure Try.prog 17 [g.av] (I (geoF g)) := by
  refine pure_of follows Try.func17 c17_eq r17 (Nat.le_of_ble_eq_true rfl) fun B σ hcl _ => ?_
  simp -implicitDefEqProofs only [contN, contC, Nat.reduceBEq, Bool.or_false, Bool.or_true, Bool.false_or, Bool.true_or, Bool.not_true, Bool.not_false, SEconv, w_skip, w_ret, w_exit, w_reg, w_dreg, w_oreg, HO_app, w_odone, w_onil, w_ofst, w_obr, w_seq, SK_n, SK_r, SK_x, w_keep, w_block, w_cond, w_nil, w_cons, w_consg, w_nnil, w_ncons, w_dnil, w_dcons, w_dconsg, HK_app, HD_app, HQ_n, HQ_r, HQ_x, HQ_bn, HQ_br, HQ_bx, HQ_en, HQ_er, HQ_ex, CondB_true, CondB_false, SO1, w_sdv, SDe_alloc, SDe_box, SDe_bslice, SDe_app, true_imp_iff, false_imp_iff, and_false, false_and, not_false_eq_true, not_true_eq_false, addN, mkNames, killT, killD, killO, List.foldl_nil, List.foldl_cons, List.append_nil, List.nil_append, List.cons_append, GuardS_true, GuardS_false, GuardD_true, GuardD_false, DK_true, DK_false, lt_self_add, le_self_add, decide_true, decide_false, Bool.false_eq_true, Bool.true_eq_false, Nat.add_left_cancel_iff, SE, SEalloc, SEbox, SEstore, w_bs, SEbl, SEfz, SEbs0, fzName, osOf, AV.fz1, w_app, w_mk, aev, opd, Fr.get, putO, Fr.norm, List.map_cons, List.map_nil, with1, with2, onInt, AV.lit, entry, ↓reduceIte, Nat.reduceEqDiff, Nat.reduceAdd, reduceCtorEq, true_and, and_true, Option.map_some, Option.map_none, Option.bind_some, Option.bind_none, cond_true, cond_false, binV, unV, fieldV, loadV, sto, cellsAV, newF, newL, Fr.map, Loc.kill, Loc.set, AO.kill, AV.kill, AV.mapN, AV.mapNL, List.filter_nil, List.filter_cons, allP, EndV, retV, resV, resL, frz, dropL, AV.pick, nilV, tupV, imp_self, ne_eq, Int.cast_ofNat_Int, Int.reduceLT, Int.reduceToNat, List.getD_cons_zero, List.getD_cons_succ, bsliceV, buildV, afill, repl, chunk, rvs, AV.rv, RV.nrm, List.getElem?_nil, List.append_assoc, Nat.reduceMul, Nat.reducePow, Nat.zero_lt_succ, Nat.zero_add, Nat.add_zero, List.length_cons, List.length_nil, Nat.reduceLeDiff, Nat.le_refl, List.take_succ_cons, List.take_zero, List.drop_succ_cons, List.drop_zero, indexV, lenV, rowOf_mapD, rowOf_mapI, rowOf_mapA, List.length_map, Int.toNat_natCast, List.getElem?_cons_zero, List.getElem?_cons_succ, and_self, implies_true, if_true, if_false, HQ_zn, HQ_zr, HQ_wn, HQ_wr, AV.nz, AV.nzL, RV.nrm, SEbin, SEnil, nilK, srcV, dstV, appName, List.length_append, Nat.mul_one, take_map_len, take_map_app, List.getElem?_cons_zero, List.map_append, SEmkmap, SEmset, mgetV, kvOf, getM, setM, w_bsH, SEapA, SEapB, bsliceA, c17, r17, v17_1, v17_2, v17_3, v17_4, v17_5, v17_6, u17_7, u17_8, u17_9, u17_10, u17_11, u17_12, u17_13, u17_14, u17_15, u17_16, ty23, ty3, ty56, ty57, GeoD.av]
  refine loop_nat 5 (fun k => ∀ i, i < k → (geoT g)[i]! = true) (fun k => [(20, .d (.ro (geo5 g))), (21, I 5), (22, I k)]) (fun k => [(B + 1, .box g.cells)]) (by simp) (Wk.keep hcl (by simp [Fr.get, geo5]) (by simp [sto, GeoD.cells]) (by simp)) fun k hk hF => ?_
  have h5 : k = 0 ∨ k = 1 ∨ k = 2 ∨ k = 3 ∨ k = 4 ∨ k = 5 := by omega
  rcases h5 with rfl | rfl | rfl | rfl | rfl | rfl
  repeat' (first | (simp -implicitDefEqProofs only [*, contN, contC, Nat.reduceBEq, Bool.or_false, Bool.or_true, Bool.false_or, Bool.true_or, Bool.not_true, Bool.not_false, SEconv, w_skip, w_ret, w_exit, w_reg, w_dreg, w_oreg, HO_app, w_odone, w_onil, w_ofst, w_obr, w_seq, SK_n, SK_r, SK_x, w_keep, w_block, w_cond, w_nil, w_cons, w_consg, w_nnil, w_ncons, w_dnil, w_dcons, w_dconsg, HK_app, HD_app, HQ_n, HQ_r, HQ_x, HQ_bn, HQ_br, HQ_bx, HQ_en, HQ_er, HQ_ex, CondB_true, CondB_false, SO1, w_sdv, SDe_alloc, SDe_box, SDe_bslice, SDe_app, true_imp_iff, false_imp_iff, and_false, false_and, not_false_eq_true, not_true_eq_false, addN, mkNames, killT, killD, killO, List.foldl_nil, List.foldl_cons, List.append_nil, List.nil_append, List.cons_append, GuardS_true, GuardS_false, GuardD_true, GuardD_false, DK_true, DK_false, lt_self_add, le_self_add, decide_true, decide_false, Bool.false_eq_true, Bool.true_eq_false, Nat.add_left_cancel_iff, SE, SEalloc, SEbox, SEstore, w_bs, SEbl, SEfz, SEbs0, fzName, osOf, AV.fz1, w_app, w_mk, aev, opd, Fr.get, putO, Fr.norm, List.map_cons, List.map_nil, with1, with2, onInt, AV.lit, entry, ↓reduceIte, Nat.reduceEqDiff, Nat.reduceAdd, reduceCtorEq, true_and, and_true, Option.map_some, Option.map_none, Option.bind_some, Option.bind_none, cond_true, cond_false, binV, unV, fieldV, loadV, sto, cellsAV, newF, newL, Fr.map, Loc.kill, Loc.set, AO.kill, AV.kill, AV.mapN, AV.mapNL, List.filter_nil, List.filter_cons, allP, EndV, retV, resV, resL, frz, dropL, AV.pick, nilV, tupV, imp_self, ne_eq, Int.cast_ofNat_Int, Int.reduceLT, Int.reduceToNat, List.getD_cons_zero, List.getD_cons_succ, bsliceV, buildV, afill, repl, chunk, rvs, AV.rv, RV.nrm, List.getElem?_nil, List.append_assoc, Nat.reduceMul, Nat.reducePow, Nat.zero_lt_succ, Nat.zero_add, Nat.add_zero, List.length_cons, List.length_nil, Nat.reduceLeDiff, Nat.le_refl, List.take_succ_cons, List.take_zero, List.drop_succ_cons, List.drop_zero, indexV, lenV, rowOf_mapD, rowOf_mapI, rowOf_mapA, List.length_map, Int.toNat_natCast, List.getElem?_cons_zero, List.getElem?_cons_succ, and_self, implies_true, if_true, if_false, HQ_zn, HQ_zr, HQ_wn, HQ_wr, AV.nz, AV.nzL, RV.nrm, SEbin, SEnil, nilK, srcV, dstV, appName, List.length_append, Nat.mul_one, take_map_len, take_map_app, List.getElem?_cons_zero, List.map_append, SEmkmap, SEmset, mgetV, kvOf, getM, setM, w_bsH, SEapA, SEapB, bsliceA, c17, r17, v17_1, v17_2, v17_3, v17_4, v17_5, v17_6, u17_7, u17_8, u17_9, u17_10, u17_11, u17_12, u17_13, u17_14, u17_15, u17_16, ty23, ty3, ty56, ty57, geo5, rowOf, GeoD.cells]) | (with_reducible refine And.intro ?_ ?_) | (refine EndX.plain ?_) | (refine nil_split (fun hn => ?_) (fun hn => ?_)) | (refine gcall_no not_false ?_) | (refine gdcall_no not_false ?_) | (refine GuardS_of _ _ _ _ _ _ (fun hg => ?_) (fun hg => ?_)) | (refine GuardD_of _ _ _ _ (fun hg => ?_) (fun hg => ?_)) | (refine CondB_of _ _ _ _ _ _ _ ?_ (fun hg => ?_) (fun hg => ?_)))
  all_goals (try (first | ((first | unfold noN | unfold Fr.below | unfold Loc.below); simp [Fr.allN, AV.allN, AV.allNL, AO.allN]; done) | rfl | trivial | assumption | (intro row hrow; simp only [List.mem_map] at hrow; obtain ⟨x, _, rfl⟩ := hrow; rfl) | (refine Wk.keep hcl ?_ ?_ ?_; (focus (simp [Fr.get, geo5, rowOf, GeoD.cells] <;> fail)); (focus (simp [sto, geo5, rowOf, GeoD.cells] <;> fail)); (focus (simp <;> fail))) | (simp [allP, opd, Fr.get, Fr.below, Fr.allN, AV.allN, AV.allNL, Loc.below, AO.allN, noN, killO, killT, killD, mkNames, AO.kill, AV.kill, AV.mapN, AV.mapNL]; done) | (with_reducible exact ltD (by assumption)) | omega | (simp only [decide_eq_true_eq, decide_eq_false_iff_not] at *; omega)))
  all_goals (try (first | omega | rfl | exact Wk.keep hcl (by simp [Fr.get, geo5, IntWalk.i64_in]) (by simp [sto, GeoD.cells]) (by simp)))
  all_goals (try (simp only [decide_eq_true_eq, decide_eq_false_iff_not] at *))
  all_goals (try (
    have hb : geoOk g = false := by
      simp only [geoOk, inR, Bool.and_eq_false_iff, decide_eq_false_iff_not]
      omega
    simp [geoF, hb]; done))
  all_goals (try (
    intro i hi
    rcases Nat.lt_or_eq_of_le (Nat.le_of_lt_succ hi) with h | rfl
    · exact hF i h
    · simp [geoT, inR]; omega))
  · have h0 := hF 0 (by omega)
    have h1 := hF 1 (by omega)
    have h2 := hF 2 (by omega)
    have h3 := hF 3 (by omega)
    have h4 := hF 4 (by omega)
    simp [geoT] at h0 h1 h2 h3 h4
    simp [geoF, geoOk, h0, h1, h2, h3, h4]
theorem geoOk_of (g : GeoD) : (geoF g != 0) = !geoOk g := by unfold geoF; cases geoOk g <;> rfl
def badD (g : GeoD) (d : DevD) : Bool := ((d.safe.length : Int) != sec1 g) || (decide ((d.cache.length : Int) > 2000) || (decide ((d.vols.length : Int) > g.volumes) || (decide (d.fuel < -1) || decide (d.fuel > 1048576))))
def devF (g : GeoD) (d : DevD) : Int := bif geoOk g then bif badD g d || (d.safe.any badS || (d.cache.any (badW d.safe.length) || d.vols.any (badV g))) then 9 else 0 else 2
theorem check_p (g : GeoD) (d : DevD) : Pure Try.prog 10 [g.av, d.av] (I (devF g d)) := by
  refine pure_of follows Try.func10 c10_eq r10 (Nat.le_of_ble_eq_true rfl) fun B σ hcl _ => ?_
  have a1 := containsS_p d.safe 20 [] badS (fun _ => True) (fun _ _ _ _ => rfl) (fun i _ => PureC.clo e20 (chk1_p _).c)
  have a2 := containsW_p d.cache 22 [.lp (B + 3) 0] (badW d.safe.length) (fun σ => σ (B + 3) = .box d.cells) (fun B σ h1 h2 => capt1 B σ h1 h2) (fun i _ => PureC.clo e22 (chk2_p d _ _))
  have a3 := containsV_p d.vols 24 [.lp (B + 2) 0] (badV g) (fun σ => σ (B + 2) = .box g.cells) (fun B σ h1 h2 => capt1 B σ h1 h2) (fun i _ => PureC.clo e24 (chk3_p g _ _))
  repeat' (first | (simp -implicitDefEqProofs only [*, contN, contC, Nat.reduceBEq, Bool.or_false, Bool.or_true, Bool.false_or, Bool.true_or, Bool.not_true, Bool.not_false, SEconv, w_skip, w_ret, w_exit, w_reg, w_dreg, w_oreg, HO_app, w_odone, w_onil, w_ofst, w_obr, w_seq, SK_n, SK_r, SK_x, w_keep, w_block, w_cond, w_nil, w_cons, w_consg, w_nnil, w_ncons, w_dnil, w_dcons, w_dconsg, HK_app, HD_app, HQ_n, HQ_r, HQ_x, HQ_bn, HQ_br, HQ_bx, HQ_en, HQ_er, HQ_ex, CondB_true, CondB_false, SO1, w_sdv, SDe_alloc, SDe_box, SDe_bslice, SDe_app, true_imp_iff, false_imp_iff, and_false, false_and, not_false_eq_true, not_true_eq_false, addN, mkNames, killT, killD, killO, List.foldl_nil, List.foldl_cons, List.append_nil, List.nil_append, List.cons_append, GuardS_true, GuardS_false, GuardD_true, GuardD_false, DK_true, DK_false, lt_self_add, le_self_add, decide_true, decide_false, Bool.false_eq_true, Bool.true_eq_false, Nat.add_left_cancel_iff, SE, SEalloc, SEbox, SEstore, w_bs, SEbl, SEfz, SEbs0, fzName, osOf, AV.fz1, w_app, w_mk, aev, opd, Fr.get, putO, Fr.norm, List.map_cons, List.map_nil, with1, with2, onInt, AV.lit, entry, ↓reduceIte, Nat.reduceEqDiff, Nat.reduceAdd, reduceCtorEq, true_and, and_true, Option.map_some, Option.map_none, Option.bind_some, Option.bind_none, cond_true, cond_false, binV, unV, fieldV, loadV, sto, cellsAV, newF, newL, Fr.map, Loc.kill, Loc.set, AO.kill, AV.kill, AV.mapN, AV.mapNL, List.filter_nil, List.filter_cons, allP, EndV, retV, resV, resL, frz, dropL, AV.pick, nilV, tupV, imp_self, ne_eq, Int.cast_ofNat_Int, Int.reduceLT, Int.reduceToNat, List.getD_cons_zero, List.getD_cons_succ, bsliceV, buildV, afill, repl, chunk, rvs, AV.rv, RV.nrm, List.getElem?_nil, List.append_assoc, Nat.reduceMul, Nat.reducePow, Nat.zero_lt_succ, Nat.zero_add, Nat.add_zero, List.length_cons, List.length_nil, Nat.reduceLeDiff, Nat.le_refl, List.take_succ_cons, List.take_zero, List.drop_succ_cons, List.drop_zero, indexV, lenV, rowOf_mapD, rowOf_mapI, rowOf_mapA, List.length_map, Int.toNat_natCast, List.getElem?_cons_zero, List.getElem?_cons_succ, and_self, implies_true, if_true, if_false, HQ_zn, HQ_zr, HQ_wn, HQ_wr, AV.nz, AV.nzL, RV.nrm, SEbin, SEnil, nilK, srcV, dstV, appName, List.length_append, Nat.mul_one, take_map_len, take_map_app, List.getElem?_cons_zero, List.map_append, SEmkmap, SEmset, mgetV, kvOf, getM, setM, w_bsH, SEapA, SEapB, bsliceA, c10, r10, u10_1, u10_2, u10_3, v10_4, v10_5, v10_6, v10_7, v10_8, v10_9, v10_10, v10_11, m10_11, u10_12, u10_13, u10_14, u10_15, u10_16, u10_17, u10_18, u10_19, u10_20, u10_21, u10_22, u10_23, u10_24, u10_25, ty23, ty28, ty31, ty24, ty3, ty25, ty26, ty29, ty39, ty41, GeoD.av, DevD.av, noN, geoOk_of]) | (with_reducible refine And.intro ?_ ?_) | (refine call_ro e17 ( checkGeo_p g) rfl ?_ ?_ ?_ ?_) | (refine gcall_ro e17 ( checkGeo_p g) rfl ?_ ?_ ?_ ?_) | (refine dcall_ro e17 ( checkGeo_p g) rfl ?_ ?_ ?_ ?_) | (refine gdcall_ro rfl e17 ( checkGeo_p g) rfl ?_ ?_ ?_ ?_) | (refine call_ro e18 ( sectors_p g) rfl ?_ ?_ ?_ ?_) | (refine gcall_ro e18 ( sectors_p g) rfl ?_ ?_ ?_ ?_) | (refine dcall_ro e18 ( sectors_p g) rfl ?_ ?_ ?_ ?_) | (refine gdcall_ro rfl e18 ( sectors_p g) rfl ?_ ?_ ?_ ?_) | (refine call_roC e19 ( a1) rfl ?_ ?_ ?_ ?_ ?_) | (refine call_roC e21 ( a2) rfl ?_ ?_ ?_ ?_ ?_) | (refine call_roC e23 ( a3) rfl ?_ ?_ ?_ ?_ ?_) | (refine EndX.plain ?_) | (refine nil_split (fun hn => ?_) (fun hn => ?_)) | (refine gcall_no not_false ?_) | (refine gdcall_no not_false ?_) | (refine GuardS_of _ _ _ _ _ _ (fun hg => ?_) (fun hg => ?_)) | (refine GuardD_of _ _ _ _ (fun hg => ?_) (fun hg => ?_)) | (refine CondB_of _ _ _ _ _ _ _ ?_ (fun hg => ?_) (fun hg => ?_)))
  all_goals (try (first | ((first | unfold noN | unfold Fr.below | unfold Loc.below); simp [Fr.allN, AV.allN, AV.allNL, AO.allN]; done) | rfl | trivial | assumption | (intro row hrow; simp only [List.mem_map] at hrow; obtain ⟨x, _, rfl⟩ := hrow; rfl) | (refine Wk.keep hcl ?_ ?_ ?_; (focus (simp [Fr.get, GeoD.av, DevD.av, noN, geoOk_of] <;> fail)); (focus (simp [sto, GeoD.av, DevD.av, noN, geoOk_of] <;> fail)); (focus (simp <;> fail))) | (simp [allP, opd, Fr.get, Fr.below, Fr.allN, AV.allN, AV.allNL, Loc.below, AO.allN, noN, killO, killT, killD, mkNames, AO.kill, AV.kill, AV.mapN, AV.mapNL]; done) | (with_reducible exact ltD (by assumption)) | omega | (simp only [decide_eq_true_eq, decide_eq_false_iff_not] at *; omega)))
  clear a1 a2 a3
  all_goals (try (simp only [Bool.not_eq_true', Bool.not_eq_false'] at *))
  all_goals (try (simp only [devF, badD, geoF, *, Bool.false_or, Bool.true_or, Bool.or_true, Bool.or_false, Bool.and_true, Bool.true_and, Bool.false_and, Bool.and_false, Bool.not_true, Bool.not_false, cond_true, cond_false, reduceIte]; done))
end Go.Proofs.Ytelciiooegiikaa
