/- Devices that may be: the program's check, whole, and the reference's. -/
import Derived.Test.YtalhjhmphdgaoaaDevC
import Derived.Test.YtalhjhmphdgaoaaTypes
namespace Go.Proofs.Ytalhjhmphdgaoaa
open Go.RowKit
set_option maxRecDepth 100000
def o45_1 : List SO := ((SO.mk (some 21) (.len 102 (.tmp 20)) none) :: (SO.mk (some 22) (.move (.const (Value.int .i64 0))) none) :: [])
theorem v45_1 : type_of% (@swl _ _ o45_1.eq_1) := @swl _ _ o45_1.eq_1
def o45_2 : List SO := ((SO.mk (some 17) (.faddr 23 (.tmp 1) 4) none) :: (SO.mk (some 18) (.load 3 (.tmp 17)) none) :: (SO.mk (some 19) (.build 101 [(0 , (.tmp 18)), (1 , (.const (Value.int .i64 1))), (2 , (.const (Value.int .i64 8)))]) none) :: (SO.mk (some 20) (.bslice 102 5 [(0 , (.tmp 7)), (1 , (.tmp 10)), (2 , (.tmp 13)), (3 , (.tmp 16)), (4 , (.tmp 19))]) none) :: o45_1)
theorem v45_2 : type_of% (@swl _ _ o45_2.eq_1) := @swl _ _ o45_2.eq_1
def o45_3 : List SO := ((SO.mk (some 13) (.build 101 [(0 , (.tmp 12)), (1 , (.const (Value.int .i64 2))), (2 , (.const (Value.int .i64 200)))]) none) :: (SO.mk (some 14) (.faddr 23 (.tmp 1) 3) none) :: (SO.mk (some 15) (.load 3 (.tmp 14)) none) :: (SO.mk (some 16) (.build 101 [(0 , (.tmp 15)), (1 , (.const (Value.int .i64 100))), (2 , (.const (Value.int .i64 4000)))]) none) :: o45_2)
theorem v45_3 : type_of% (@swl _ _ o45_3.eq_1) := @swl _ _ o45_3.eq_1
def o45_4 : List SO := ((SO.mk (some 9) (.load 3 (.tmp 8)) none) :: (SO.mk (some 10) (.build 101 [(0 , (.tmp 9)), (1 , (.const (Value.int .i64 2))), (2 , (.const (Value.int .i64 80)))]) none) :: (SO.mk (some 11) (.faddr 23 (.tmp 1) 2) none) :: (SO.mk (some 12) (.load 3 (.tmp 11)) none) :: o45_3)
theorem v45_4 : type_of% (@swl _ _ o45_4.eq_1) := @swl _ _ o45_4.eq_1
def o45_5 : List SO := ((SO.mk (some 34) (.iaddr 101 (.tmp 4) (.const (Value.int .i64 2))) (some (31 , false))) :: (SO.mk (some 35) (.load 3 (.tmp 34)) (some (31 , false))) :: (SO.mk (some 36) (.bin .gtr 3 (.tmp 33) (.tmp 35)) (some (31 , false))) :: (SO.mk (some 37) (.pick (.tmp 31) (.const (Value.bool true)) (.tmp 36)) none) :: [])
theorem v45_5 : type_of% (@swl _ _ o45_5.eq_1) := @swl _ _ o45_5.eq_1
def o45_6 : List SO := ((SO.mk (some 30) (.bin .lss 3 (.tmp 27) (.tmp 29)) none) :: (SO.mk (some 31) (.move (.tmp 30)) none) :: (SO.mk (some 32) (.iaddr 101 (.tmp 4) (.const (Value.int .i64 0))) (some (31 , false))) :: (SO.mk (some 33) (.load 3 (.tmp 32)) (some (31 , false))) :: o45_5)
theorem v45_6 : type_of% (@swl _ _ o45_6.eq_1) := @swl _ _ o45_6.eq_1
def c45_7 : SC := (.seq (.reg [SO.mk (some 2) (.move (.const (Value.int .i64 2))) none]) (.keep [2] .ret))
theorem u45_7 : type_of% (@swc _ _ c45_7.eq_1) := @swc _ _ c45_7.eq_1
def c45_8 : SC := (.cond (.tmp 37) c45_7 .skip)
theorem u45_8 : type_of% (@swc _ _ c45_8.eq_1) := @swc _ _ c45_8.eq_1
def c45_9 : SC := (.seq (.reg ((SO.mk (some 26) (.iaddr 101 (.tmp 4) (.const (Value.int .i64 0))) none) :: (SO.mk (some 27) (.load 3 (.tmp 26)) none) :: (SO.mk (some 28) (.iaddr 101 (.tmp 4) (.const (Value.int .i64 1))) none) :: (SO.mk (some 29) (.load 3 (.tmp 28)) none) :: o45_6)) (.keep [37, 22, 21, 20] c45_8))
theorem u45_9 : type_of% (@swc _ _ c45_9.eq_1) := @swc _ _ c45_9.eq_1
def c45_10 : SC := (.reg [SO.mk (some 38) (.bin .add 3 (.tmp 22) (.const (Value.int .i64 1))) none, SO.mk (some 22) (.move (.tmp 38)) none])
theorem u45_10 : type_of% (@swc _ _ c45_10.eq_1) := @swc _ _ c45_10.eq_1
def c45_11 : SC := (.seq (.block 1 (.seq (.reg [SO.mk (some 24) (.iaddr 102 (.tmp 20) (.tmp 22)) none, SO.mk (some 25) (.load 101 (.tmp 24)) none, SO.mk (some 4) (.alloc 101) none, SO.mk none (.store 101 (.tmp 4) (.tmp 25)) none]) (.keep [4, 22, 21, 20] c45_9))) (.keep [22, 21, 20] c45_10))
theorem u45_11 : type_of% (@swc _ _ c45_11.eq_1) := @swc _ _ c45_11.eq_1
def c45_12 : SC := (.seq (.cond (.tmp 23) .skip (.exit 0)) (.keep [22, 21, 20] c45_11))
theorem u45_12 : type_of% (@swc _ _ c45_12.eq_1) := @swc _ _ c45_12.eq_1
def c45_13 : SC := (.seq (.reg [SO.mk (some 23) (.bin .lss 3 (.tmp 22) (.tmp 21)) none]) (.keep [23, 20, 21, 22] c45_12))
theorem u45_13 : type_of% (@swc _ _ c45_13.eq_1) := @swc _ _ c45_13.eq_1
def c45_14 : SC := (.block 0 (.loop (.keep [20, 21, 22] c45_13)))
theorem u45_14 : type_of% (@swc _ _ c45_14.eq_1) := @swc _ _ c45_14.eq_1
def c45_15 : SC := (.seq (.reg [SO.mk (some 2) (.move (.const (Value.int .i64 0))) none]) (.keep [2] .ret))
theorem u45_15 : type_of% (@swc _ _ c45_15.eq_1) := @swc _ _ c45_15.eq_1
def c45_16 : SC := (.seq (.seq (.reg ((SO.mk (some 5) (.faddr 23 (.tmp 1) 0) none) :: (SO.mk (some 6) (.load 3 (.tmp 5)) none) :: (SO.mk (some 7) (.build 101 [(0 , (.tmp 6)), (1 , (.const (Value.int .i64 4))), (2 , (.const (Value.int .i64 60)))]) none) :: (SO.mk (some 8) (.faddr 23 (.tmp 1) 1) none) :: o45_4)) (.keep [20, 21, 22] c45_14)) (.keep [] c45_15))
theorem u45_16 : type_of% (@swc _ _ c45_16.eq_1) := @swc _ _ c45_16.eq_1
def c45 : SC := (.seq (.reg [SO.mk (some 1) (.box 23 (.tmp 0)) none, SO.mk (some 2) (.move (.const (Value.int .i64 0))) none]) (.keep [1] c45_16))
theorem c45_eq : annC Try.f45 = some c45 := by kernel_rfl
theorem r45 : Try.f45.results.toList = [.tmp 2] := by kernel_rfl
theorem e45 : enters Try.prog 45 = true := by kernel_rfl
def c20_1 : SC := (.seq (.reg [SO.mk (some 10) (.move (.tmp 5)) none, SO.mk (some 4) (.move (.tmp 10)) none]) (.keep [4] .ret))
theorem u20_1 : type_of% (@swc _ _ c20_1.eq_1) := @swc _ _ c20_1.eq_1
def c20_2 : SC := (.cond (.tmp 9) c20_1 .skip)
theorem u20_2 : type_of% (@swc _ _ c20_2.eq_1) := @swc _ _ c20_2.eq_1
def c20_3 : SC := (.seq (.reg [SO.mk (some 8) (.move (.tmp 5)) none, SO.mk (some 9) (.bin .neq 30 (.tmp 8) (.const (Value.int .i64 0))) none]) (.keep [9, 5, 3, 2] c20_2))
theorem u20_3 : type_of% (@swc _ _ c20_3.eq_1) := @swc _ _ c20_3.eq_1
def o20_4 : List SO := ((SO.mk (some 39) (.bin .gtr 3 (.tmp 38) (.const (Value.int .i64 1048576))) (some (36 , false))) :: (SO.mk (some 40) (.pick (.tmp 36) (.const (Value.bool true)) (.tmp 39)) none) :: [])
theorem v20_4 : type_of% (@swd _ _ o20_4.eq_1) := @swd _ _ o20_4.eq_1
def o20_5 : List SO := ((SO.mk (some 35) (.pick (.tmp 31) (.const (Value.bool true)) (.tmp 34)) none) :: (SO.mk (some 36) (.move (.tmp 35)) none) :: (SO.mk (some 37) (.faddr 28 (.tmp 3) 3) (some (36 , false))) :: (SO.mk (some 38) (.load 3 (.tmp 37)) (some (36 , false))) :: o20_4)
theorem v20_5 : type_of% (@swd _ _ o20_5.eq_1) := @swd _ _ o20_5.eq_1
def o20_6 : List SO := ((SO.mk (some 31) (.move (.tmp 30)) none) :: (SO.mk (some 32) (.faddr 28 (.tmp 3) 3) (some (31 , false))) :: (SO.mk (some 33) (.load 3 (.tmp 32)) (some (31 , false))) :: (SO.mk (some 34) (.bin .lss 3 (.tmp 33) (.const (Value.int .i64 (-1)))) (some (31 , false))) :: o20_5)
theorem v20_6 : type_of% (@swd _ _ o20_6.eq_1) := @swd _ _ o20_6.eq_1
def o20_7 : List SO := ((SO.mk (some 27) (.faddr 23 (.tmp 2) 4) (some (23 , false))) :: (SO.mk (some 28) (.load 3 (.tmp 27)) (some (23 , false))) :: (SO.mk (some 29) (.bin .gtr 3 (.tmp 26) (.tmp 28)) (some (23 , false))) :: (SO.mk (some 30) (.pick (.tmp 23) (.const (Value.bool true)) (.tmp 29)) none) :: o20_6)
theorem v20_7 : type_of% (@swd _ _ o20_7.eq_1) := @swd _ _ o20_7.eq_1
def o20_8 : List SO := ((SO.mk (some 23) (.move (.tmp 22)) none) :: (SO.mk (some 24) (.faddr 28 (.tmp 3) 2) (some (23 , false))) :: (SO.mk (some 25) (.load 26 (.tmp 24)) (some (23 , false))) :: (SO.mk (some 26) (.len 26 (.tmp 25)) (some (23 , false))) :: o20_7)
theorem v20_8 : type_of% (@swd _ _ o20_8.eq_1) := @swd _ _ o20_8.eq_1
def o20_9 : List SO := ((SO.mk (some 19) (.load 25 (.tmp 18)) (some (17 , false))) :: (SO.mk (some 20) (.len 25 (.tmp 19)) (some (17 , false))) :: (SO.mk (some 21) (.bin .gtr 3 (.tmp 20) (.const (Value.int .i64 2000))) (some (17 , false))) :: (SO.mk (some 22) (.pick (.tmp 17) (.const (Value.bool true)) (.tmp 21)) none) :: o20_8)
theorem v20_9 : type_of% (@swd _ _ o20_9.eq_1) := @swd _ _ o20_9.eq_1
def o20_10 : List SO := ((SO.mk (some 15) (.call 46 [(.tmp 14)]) none) :: (SO.mk (some 16) (.bin .neq 3 (.tmp 13) (.tmp 15)) none) :: (SO.mk (some 17) (.move (.tmp 16)) none) :: (SO.mk (some 18) (.faddr 28 (.tmp 3) 1) (some (17 , false))) :: o20_9)
theorem v20_10 : type_of% (@swd _ _ o20_10.eq_1) := @swd _ _ o20_10.eq_1
def o20_11 : List SO := ((SO.mk (some 11) (.faddr 28 (.tmp 3) 0) none) :: (SO.mk (some 12) (.load 24 (.tmp 11)) none) :: (SO.mk (some 13) (.len 24 (.tmp 12)) none) :: (SO.mk (some 14) (.load 23 (.tmp 2)) none) :: o20_10)
theorem v20_11 : type_of% (@swd _ _ o20_11.eq_1) := @swd _ _ o20_11.eq_1
theorem m20_11 (B : Nat) : mkNames B o20_11 = [] := (rfl)
def c20_12 : SC := (.seq (.reg [SO.mk (some 4) (.move (.const (Value.int .i64 9))) none]) (.keep [4] .ret))
theorem u20_12 : type_of% (@swc _ _ c20_12.eq_1) := @swc _ _ c20_12.eq_1
def c20_13 : SC := (.cond (.tmp 40) c20_12 .skip)
theorem u20_13 : type_of% (@swc _ _ c20_13.eq_1) := @swc _ _ c20_13.eq_1
def c20_14 : SC := (.seq (.reg [SO.mk (some 4) (.move (.const (Value.int .i64 9))) none]) (.keep [4] .ret))
theorem u20_14 : type_of% (@swc _ _ c20_14.eq_1) := @swc _ _ c20_14.eq_1
def c20_15 : SC := (.cond (.tmp 43) c20_14 .skip)
theorem u20_15 : type_of% (@swc _ _ c20_15.eq_1) := @swc _ _ c20_15.eq_1
def c20_16 : SC := (.seq (.reg [SO.mk (some 4) (.move (.const (Value.int .i64 9))) none]) (.keep [4] .ret))
theorem u20_16 : type_of% (@swc _ _ c20_16.eq_1) := @swc _ _ c20_16.eq_1
def c20_17 : SC := (.cond (.tmp 47) c20_16 .skip)
theorem u20_17 : type_of% (@swc _ _ c20_17.eq_1) := @swc _ _ c20_17.eq_1
def c20_18 : SC := (.seq (.reg [SO.mk (some 4) (.move (.const (Value.int .i64 9))) none]) (.keep [4] .ret))
theorem u20_18 : type_of% (@swc _ _ c20_18.eq_1) := @swc _ _ c20_18.eq_1
def c20_19 : SC := (.cond (.tmp 51) c20_18 .skip)
theorem u20_19 : type_of% (@swc _ _ c20_19.eq_1) := @swc _ _ c20_19.eq_1
def c20_20 : SC := (.seq (.reg [SO.mk (some 4) (.move (.const (Value.int .i64 0))) none]) (.keep [4] .ret))
theorem u20_20 : type_of% (@swc _ _ c20_20.eq_1) := @swc _ _ c20_20.eq_1
def c20_21 : SC := (.seq (.seq (.reg [SO.mk (some 48) (.faddr 28 (.tmp 3) 2) none, SO.mk (some 49) (.load 26 (.tmp 48)) none, SO.mk (some 50) (.mkfn (.func 52) [] [(.tmp 2)]) none, SO.mk (some 51) (.call 51 [(.tmp 49), (.tmp 50)]) none]) (.keep [51] c20_19)) (.keep [] c20_20))
theorem u20_21 : type_of% (@swc _ _ c20_21.eq_1) := @swc _ _ c20_21.eq_1
def c20_22 : SC := (.seq (.seq (.reg [SO.mk (some 44) (.faddr 28 (.tmp 3) 1) none, SO.mk (some 45) (.load 25 (.tmp 44)) none, SO.mk (some 46) (.mkfn (.func 50) [] [(.tmp 3)]) none, SO.mk (some 47) (.call 49 [(.tmp 45), (.tmp 46)]) none]) (.keep [47, 3, 2] c20_17)) (.keep [3, 2] c20_21))
theorem u20_22 : type_of% (@swc _ _ c20_22.eq_1) := @swc _ _ c20_22.eq_1
def c20_23 : SC := (.seq (.seq (.reg [SO.mk (some 41) (.faddr 28 (.tmp 3) 0) none, SO.mk (some 42) (.load 24 (.tmp 41)) none, SO.mk (some 43) (.call 47 [(.tmp 42), (.func 48)]) none]) (.keep [43, 3, 2] c20_15)) (.keep [3, 2] c20_22))
theorem u20_23 : type_of% (@swc _ _ c20_23.eq_1) := @swc _ _ c20_23.eq_1
def c20_24 : SC := (.seq (.seq (.dreg false o20_11 []) (.keep [40, 3, 2] c20_13)) (.keep [3, 2] c20_23))
theorem u20_24 : type_of% (@swc _ _ c20_24.eq_1) := @swc _ _ c20_24.eq_1
def c20_25 : SC := (.seq (.seq (.reg [SO.mk (some 6) (.load 23 (.tmp 2)) none, SO.mk (some 7) (.call 45 [(.tmp 6)]) none, SO.mk (some 5) (.move (.tmp 7)) none]) (.keep [5, 3, 2] c20_3)) (.keep [3, 2] c20_24))
theorem u20_25 : type_of% (@swc _ _ c20_25.eq_1) := @swc _ _ c20_25.eq_1
def c20 : SC := (.seq (.reg [SO.mk (some 2) (.box 23 (.tmp 0)) none, SO.mk (some 3) (.box 28 (.tmp 1)) none, SO.mk (some 4) (.move (.const (Value.int .i64 0))) none]) (.keep [3, 2] c20_25))
theorem c20_eq : annC Try.f20 = some c20 := by kernel_rfl
theorem r20 : Try.f20.results.toList = [.tmp 4] := by kernel_rfl
theorem e20 : enters Try.prog 20 = true := by kernel_rfl
end Go.Proofs.Ytalhjhmphdgaoaa
namespace Go.Proofs.Ytalhjhmphdgaoaa
open Go.RowKit
set_option maxHeartbeats 4000000
set_option maxRecDepth 20000
attribute [local irreducible] SW SWL SWLn SWD SEcall SEcallv SDv SE SO1 SOg ACalls ACallv Wk EndV
set_option linter.unusedSimpArgs false
set_option linter.unusedVariables false
def geo5 (g : GeoD) : List (List RV) := [[.v (.int .i64 g.ring), .v (.int .i64 4), .v (.int .i64 60)], [.v (.int .i64 g.area), .v (.int .i64 2), .v (.int .i64 80)], [.v (.int .i64 g.hot), .v (.int .i64 2), .v (.int .i64 200)],
  [.v (.int .i64 g.volume), .v (.int .i64 100), .v (.int .i64 4000)], [.v (.int .i64 g.volumes), .v (.int .i64 1), .v (.int .i64 8)]]
def geoT (g : GeoD) : List Bool := [inR g.ring 4 60, inR g.area 2 80, inR g.hot 2 200, inR g.volume 100 4000, inR g.volumes 1 8]
theorem checkGeo_p (g : GeoD) : Pure Try.prog 45 [g.av] (I (geoF g)) := by
  refine pure_of follows Try.func45 c45_eq r45 (Nat.le_of_ble_eq_true rfl) fun B σ hcl _ => ?_
  simp -implicitDefEqProofs only [contN, contC, Nat.reduceBEq, Bool.or_false, Bool.or_true, Bool.false_or, Bool.true_or, Bool.not_true, Bool.not_false, w_skip, w_ret, w_exit, w_reg, w_dreg, w_seq, SK_n, SK_r, SK_x, w_keep, w_block, w_cond, w_nil, w_cons, w_consg, w_nnil, w_ncons, w_dnil, w_dcons, w_dconsg, HK_app, HD_app, HQ_n, HQ_r, HQ_x, HQ_bn, HQ_br, HQ_bx, HQ_en, HQ_er, HQ_ex, CondB_true, CondB_false, SO1, w_sdv, SDe_alloc, SDe_box, SDe_bslice, SDe_app, true_imp_iff, false_imp_iff, and_false, false_and, not_false_eq_true, not_true_eq_false, addN, mkNames, killT, killD, killO, List.foldl_nil, List.foldl_cons, List.append_nil, List.nil_append, List.cons_append, GuardS_true, GuardS_false, GuardD_true, GuardD_false, DK_true, DK_false, lt_self_add, le_self_add, decide_true, decide_false, Bool.false_eq_true, Bool.true_eq_false, Nat.add_left_cancel_iff, SE, SEalloc, SEbox, SEstore, w_bs, SEbl, SEfz, SEbs0, fzName, osOf, AV.fz1, w_app, w_mk, aev, opd, Fr.get, putO, Fr.norm, List.map_cons, List.map_nil, with1, with2, onInt, AV.lit, entry, ↓reduceIte, Nat.reduceEqDiff, Nat.reduceAdd, reduceCtorEq, true_and, and_true, Option.map_some, Option.map_none, Option.bind_some, Option.bind_none, cond_true, cond_false, binV, unV, fieldV, loadV, sto, cellsAV, newF, newL, Fr.map, Loc.kill, Loc.set, AO.kill, AV.kill, AV.mapN, AV.mapNL, List.filter_nil, List.filter_cons, allP, EndV, retV, resV, resL, frz, dropL, AV.pick, nilV, tupV, imp_self, ne_eq, Int.cast_ofNat_Int, Int.reduceLT, Int.reduceToNat, List.getD_cons_zero, List.getD_cons_succ, bsliceV, buildV, afill, repl, chunk, rvs, AV.rv, RV.nrm, List.getElem?_nil, List.append_assoc, Nat.reduceMul, Nat.reducePow, Nat.zero_lt_succ, Nat.zero_add, Nat.add_zero, List.length_cons, List.length_nil, Nat.reduceLeDiff, Nat.le_refl, List.take_succ_cons, List.take_zero, List.drop_succ_cons, List.drop_zero, indexV, lenV, rowOf_mapD, rowOf_mapI, rowOf_mapA, List.length_map, Int.toNat_natCast, List.getElem?_cons_zero, List.getElem?_cons_succ, and_self, implies_true, if_true, if_false, HQ_zn, HQ_zr, HQ_wn, HQ_wr, AV.nz, AV.nzL, RV.nrm, SEbin, SEnil, nilK, srcV, dstV, appName, List.length_append, Nat.mul_one, take_map_len, take_map_app, List.getElem?_cons_zero, List.map_append, SEmkmap, SEmset, mgetV, kvOf, getM, setM, c45, r45, v45_1, v45_2, v45_3, v45_4, v45_5, v45_6, u45_7, u45_8, u45_9, u45_10, u45_11, u45_12, u45_13, u45_14, u45_15, u45_16, ty23, ty3, ty101, ty102, GeoD.av]
  refine loop_nat 5 (fun k => ∀ i, i < k → (geoT g)[i]! = true) (fun k => [(20, .d (.ro (geo5 g))), (21, I 5), (22, I k)]) (fun k => [(B + 1, .box g.cells)]) (by simp) (Wk.keep hcl (by simp [Fr.get, geo5]) (by simp [sto, GeoD.cells]) (by simp)) fun k hk hF => ?_
  have h5 : k = 0 ∨ k = 1 ∨ k = 2 ∨ k = 3 ∨ k = 4 ∨ k = 5 := by omega
  rcases h5 with rfl | rfl | rfl | rfl | rfl | rfl
  repeat' (first | (simp -implicitDefEqProofs only [*, contN, contC, Nat.reduceBEq, Bool.or_false, Bool.or_true, Bool.false_or, Bool.true_or, Bool.not_true, Bool.not_false, w_skip, w_ret, w_exit, w_reg, w_dreg, w_seq, SK_n, SK_r, SK_x, w_keep, w_block, w_cond, w_nil, w_cons, w_consg, w_nnil, w_ncons, w_dnil, w_dcons, w_dconsg, HK_app, HD_app, HQ_n, HQ_r, HQ_x, HQ_bn, HQ_br, HQ_bx, HQ_en, HQ_er, HQ_ex, CondB_true, CondB_false, SO1, w_sdv, SDe_alloc, SDe_box, SDe_bslice, SDe_app, true_imp_iff, false_imp_iff, and_false, false_and, not_false_eq_true, not_true_eq_false, addN, mkNames, killT, killD, killO, List.foldl_nil, List.foldl_cons, List.append_nil, List.nil_append, List.cons_append, GuardS_true, GuardS_false, GuardD_true, GuardD_false, DK_true, DK_false, lt_self_add, le_self_add, decide_true, decide_false, Bool.false_eq_true, Bool.true_eq_false, Nat.add_left_cancel_iff, SE, SEalloc, SEbox, SEstore, w_bs, SEbl, SEfz, SEbs0, fzName, osOf, AV.fz1, w_app, w_mk, aev, opd, Fr.get, putO, Fr.norm, List.map_cons, List.map_nil, with1, with2, onInt, AV.lit, entry, ↓reduceIte, Nat.reduceEqDiff, Nat.reduceAdd, reduceCtorEq, true_and, and_true, Option.map_some, Option.map_none, Option.bind_some, Option.bind_none, cond_true, cond_false, binV, unV, fieldV, loadV, sto, cellsAV, newF, newL, Fr.map, Loc.kill, Loc.set, AO.kill, AV.kill, AV.mapN, AV.mapNL, List.filter_nil, List.filter_cons, allP, EndV, retV, resV, resL, frz, dropL, AV.pick, nilV, tupV, imp_self, ne_eq, Int.cast_ofNat_Int, Int.reduceLT, Int.reduceToNat, List.getD_cons_zero, List.getD_cons_succ, bsliceV, buildV, afill, repl, chunk, rvs, AV.rv, RV.nrm, List.getElem?_nil, List.append_assoc, Nat.reduceMul, Nat.reducePow, Nat.zero_lt_succ, Nat.zero_add, Nat.add_zero, List.length_cons, List.length_nil, Nat.reduceLeDiff, Nat.le_refl, List.take_succ_cons, List.take_zero, List.drop_succ_cons, List.drop_zero, indexV, lenV, rowOf_mapD, rowOf_mapI, rowOf_mapA, List.length_map, Int.toNat_natCast, List.getElem?_cons_zero, List.getElem?_cons_succ, and_self, implies_true, if_true, if_false, HQ_zn, HQ_zr, HQ_wn, HQ_wr, AV.nz, AV.nzL, RV.nrm, SEbin, SEnil, nilK, srcV, dstV, appName, List.length_append, Nat.mul_one, take_map_len, take_map_app, List.getElem?_cons_zero, List.map_append, SEmkmap, SEmset, mgetV, kvOf, getM, setM, c45, r45, v45_1, v45_2, v45_3, v45_4, v45_5, v45_6, u45_7, u45_8, u45_9, u45_10, u45_11, u45_12, u45_13, u45_14, u45_15, u45_16, ty23, ty3, ty101, ty102, geo5, rowOf, GeoD.cells]) | (with_reducible refine And.intro ?_ ?_) | (refine EndX.plain ?_) | (refine nil_split (fun hn => ?_) (fun hn => ?_)) | (refine gcall_no not_false ?_) | (refine gdcall_no not_false ?_) | (refine GuardS_of _ _ _ _ _ _ (fun hg => ?_) (fun hg => ?_)) | (refine GuardD_of _ _ _ _ (fun hg => ?_) (fun hg => ?_)) | (refine CondB_of _ _ _ _ _ _ _ ?_ (fun hg => ?_) (fun hg => ?_)))
  all_goals (try (first | ((first | unfold noN | unfold Fr.below | unfold Loc.below); simp [Fr.allN, AV.allN, AV.allNL, AO.allN]; done) | rfl | trivial | assumption | (intro row hrow; simp only [List.mem_map] at hrow; obtain ⟨x, _, rfl⟩ := hrow; rfl) | (refine Wk.keep hcl ?_ ?_ ?_; (focus (simp [Fr.get, geo5, rowOf, GeoD.cells] <;> fail)); (focus (simp [sto, geo5, rowOf, GeoD.cells] <;> fail)); (focus (simp <;> fail))) | (simp [allP, opd, Fr.get, Fr.below, Fr.allN, AV.allN, AV.allNL, Loc.below, AO.allN, noN, killO, killT, killD, mkNames, AO.kill, AV.kill, AV.mapN, AV.mapNL]; done) | (with_reducible exact ltD (by assumption)) | omega | (simp only [decide_eq_true_eq, decide_eq_false_iff_not] at *; omega)))
  all_goals (try (first | omega | rfl | exact Wk.keep hcl (by simp [Fr.get, geo5, IntWalk.i64_in]) (by simp [sto, GeoD.cells]) (by simp)))
  all_goals (try (simp only [decide_eq_true_eq, decide_eq_false_iff_not] at *))
  all_goals (try (
    have hb : geoOk g = false := by
      simp only [geoOk, inR, Bool.and_eq_false_iff, decide_eq_false_iff_not]
      omega
    simp [geoF, hb]; done))
  all_goals (try (
    intro i hi
    rcases Nat.lt_or_eq_of_le (Nat.le_of_lt_succ hi) with h | rfl
    · exact hF i h
    · simp [geoT, inR]; omega))
  · have h0 := hF 0 (by omega)
    have h1 := hF 1 (by omega)
    have h2 := hF 2 (by omega)
    have h3 := hF 3 (by omega)
    have h4 := hF 4 (by omega)
    simp [geoT] at h0 h1 h2 h3 h4
    simp [geoF, geoOk, h0, h1, h2, h3, h4]
theorem geoOk_of (g : GeoD) : (geoF g != 0) = !geoOk g := by unfold geoF; cases geoOk g <;> rfl
def badD (g : GeoD) (d : DevD) : Bool := ((d.safe.length : Int) != sec1 g) || (decide ((d.cache.length : Int) > 2000) || (decide ((d.vols.length : Int) > g.volumes) || (decide (d.fuel < -1) || decide (d.fuel > 1048576))))
def devF (g : GeoD) (d : DevD) : Int := bif geoOk g then bif badD g d || (d.safe.any badS || (d.cache.any (badW d.safe.length) || d.vols.any (badV g))) then 9 else 0 else 2
theorem check_p (g : GeoD) (d : DevD) : Pure Try.prog 20 [g.av, d.av] (I (devF g d)) := by
  refine pure_of follows Try.func20 c20_eq r20 (Nat.le_of_ble_eq_true rfl) fun B σ hcl _ => ?_
  have a1 := containsS_p d.safe 48 [] badS (fun _ => True) (fun _ _ _ _ => rfl) (fun i _ => PureC.clo e48 (chk1_p _).c)
  have a2 := containsW_p d.cache 50 [.lp (B + 3) 0] (badW d.safe.length) (fun σ => σ (B + 3) = .box d.cells) (fun B σ h1 h2 => capt1 B σ h1 h2) (fun i _ => PureC.clo e50 (chk2_p d _ _))
  have a3 := containsV_p d.vols 52 [.lp (B + 2) 0] (badV g) (fun σ => σ (B + 2) = .box g.cells) (fun B σ h1 h2 => capt1 B σ h1 h2) (fun i _ => PureC.clo e52 (chk3_p g _ _))
  repeat' (first | (simp -implicitDefEqProofs only [*, contN, contC, Nat.reduceBEq, Bool.or_false, Bool.or_true, Bool.false_or, Bool.true_or, Bool.not_true, Bool.not_false, w_skip, w_ret, w_exit, w_reg, w_dreg, w_seq, SK_n, SK_r, SK_x, w_keep, w_block, w_cond, w_nil, w_cons, w_consg, w_nnil, w_ncons, w_dnil, w_dcons, w_dconsg, HK_app, HD_app, HQ_n, HQ_r, HQ_x, HQ_bn, HQ_br, HQ_bx, HQ_en, HQ_er, HQ_ex, CondB_true, CondB_false, SO1, w_sdv, SDe_alloc, SDe_box, SDe_bslice, SDe_app, true_imp_iff, false_imp_iff, and_false, false_and, not_false_eq_true, not_true_eq_false, addN, mkNames, killT, killD, killO, List.foldl_nil, List.foldl_cons, List.append_nil, List.nil_append, List.cons_append, GuardS_true, GuardS_false, GuardD_true, GuardD_false, DK_true, DK_false, lt_self_add, le_self_add, decide_true, decide_false, Bool.false_eq_true, Bool.true_eq_false, Nat.add_left_cancel_iff, SE, SEalloc, SEbox, SEstore, w_bs, SEbl, SEfz, SEbs0, fzName, osOf, AV.fz1, w_app, w_mk, aev, opd, Fr.get, putO, Fr.norm, List.map_cons, List.map_nil, with1, with2, onInt, AV.lit, entry, ↓reduceIte, Nat.reduceEqDiff, Nat.reduceAdd, reduceCtorEq, true_and, and_true, Option.map_some, Option.map_none, Option.bind_some, Option.bind_none, cond_true, cond_false, binV, unV, fieldV, loadV, sto, cellsAV, newF, newL, Fr.map, Loc.kill, Loc.set, AO.kill, AV.kill, AV.mapN, AV.mapNL, List.filter_nil, List.filter_cons, allP, EndV, retV, resV, resL, frz, dropL, AV.pick, nilV, tupV, imp_self, ne_eq, Int.cast_ofNat_Int, Int.reduceLT, Int.reduceToNat, List.getD_cons_zero, List.getD_cons_succ, bsliceV, buildV, afill, repl, chunk, rvs, AV.rv, RV.nrm, List.getElem?_nil, List.append_assoc, Nat.reduceMul, Nat.reducePow, Nat.zero_lt_succ, Nat.zero_add, Nat.add_zero, List.length_cons, List.length_nil, Nat.reduceLeDiff, Nat.le_refl, List.take_succ_cons, List.take_zero, List.drop_succ_cons, List.drop_zero, indexV, lenV, rowOf_mapD, rowOf_mapI, rowOf_mapA, List.length_map, Int.toNat_natCast, List.getElem?_cons_zero, List.getElem?_cons_succ, and_self, implies_true, if_true, if_false, HQ_zn, HQ_zr, HQ_wn, HQ_wr, AV.nz, AV.nzL, RV.nrm, SEbin, SEnil, nilK, srcV, dstV, appName, List.length_append, Nat.mul_one, take_map_len, take_map_app, List.getElem?_cons_zero, List.map_append, SEmkmap, SEmset, mgetV, kvOf, getM, setM, c20, r20, u20_1, u20_2, u20_3, v20_4, v20_5, v20_6, v20_7, v20_8, v20_9, v20_10, v20_11, m20_11, u20_12, u20_13, u20_14, u20_15, u20_16, u20_17, u20_18, u20_19, u20_20, u20_21, u20_22, u20_23, u20_24, u20_25, ty23, ty28, ty30, ty24, ty3, ty25, ty26, ty29, ty55, ty59, GeoD.av, DevD.av, noN, geoOk_of]) | (with_reducible refine And.intro ?_ ?_) | (refine call_ro e45 ( checkGeo_p g) rfl ?_ ?_ ?_ ?_) | (refine gcall_ro e45 ( checkGeo_p g) rfl ?_ ?_ ?_ ?_) | (refine dcall_ro e45 ( checkGeo_p g) rfl ?_ ?_ ?_ ?_) | (refine gdcall_ro rfl e45 ( checkGeo_p g) rfl ?_ ?_ ?_ ?_) | (refine call_ro e46 ( sectors_p g) rfl ?_ ?_ ?_ ?_) | (refine gcall_ro e46 ( sectors_p g) rfl ?_ ?_ ?_ ?_) | (refine dcall_ro e46 ( sectors_p g) rfl ?_ ?_ ?_ ?_) | (refine gdcall_ro rfl e46 ( sectors_p g) rfl ?_ ?_ ?_ ?_) | (refine call_roC e47 ( a1) rfl ?_ ?_ ?_ ?_ ?_) | (refine call_roC e49 ( a2) rfl ?_ ?_ ?_ ?_ ?_) | (refine call_roC e51 ( a3) rfl ?_ ?_ ?_ ?_ ?_) | (refine EndX.plain ?_) | (refine nil_split (fun hn => ?_) (fun hn => ?_)) | (refine gcall_no not_false ?_) | (refine gdcall_no not_false ?_) | (refine GuardS_of _ _ _ _ _ _ (fun hg => ?_) (fun hg => ?_)) | (refine GuardD_of _ _ _ _ (fun hg => ?_) (fun hg => ?_)) | (refine CondB_of _ _ _ _ _ _ _ ?_ (fun hg => ?_) (fun hg => ?_)))
  all_goals (try (first | ((first | unfold noN | unfold Fr.below | unfold Loc.below); simp [Fr.allN, AV.allN, AV.allNL, AO.allN]; done) | rfl | trivial | assumption | (intro row hrow; simp only [List.mem_map] at hrow; obtain ⟨x, _, rfl⟩ := hrow; rfl) | (refine Wk.keep hcl ?_ ?_ ?_; (focus (simp [Fr.get, GeoD.av, DevD.av, noN, geoOk_of] <;> fail)); (focus (simp [sto, GeoD.av, DevD.av, noN, geoOk_of] <;> fail)); (focus (simp <;> fail))) | (simp [allP, opd, Fr.get, Fr.below, Fr.allN, AV.allN, AV.allNL, Loc.below, AO.allN, noN, killO, killT, killD, mkNames, AO.kill, AV.kill, AV.mapN, AV.mapNL]; done) | (with_reducible exact ltD (by assumption)) | omega | (simp only [decide_eq_true_eq, decide_eq_false_iff_not] at *; omega)))
  clear a1 a2 a3
  all_goals (try (simp only [Bool.not_eq_true', Bool.not_eq_false'] at *))
  all_goals (try (simp only [devF, badD, geoF, *, Bool.false_or, Bool.true_or, Bool.or_true, Bool.or_false, Bool.and_true, Bool.true_and, Bool.false_and, Bool.and_false, Bool.not_true, Bool.not_false, cond_true, cond_false, reduceIte]; done))
end Go.Proofs.Ytalhjhmphdgaoaa
