/- The reference: all sectors that are somebody's. -/
import Derived.Test.YteaojhieghakfaaVMay
import Derived.Test.YteaojhieghakfaaTypes
namespace Go.Proofs.Yteaojhieghakfaa
open Go.RowKit
set_option maxRecDepth 100000
def c33_1 : SC := (.cond (.tmp 13) .skip (.exit 0))
theorem u33_1 : type_of% (@swc _ _ c33_1.eq_1) := @swc _ _ c33_1.eq_1
def o33_2 : List SO := ((SO.mk (some 24) (.bin .lss 3 (.tmp 16) (.tmp 23)) none) :: [])
theorem v33_2 : type_of% (@swl _ _ o33_2.eq_1) := @swl _ _ o33_2.eq_1
def o33_3 : List SO := ((SO.mk (some 20) (.iaddr 25 (.tmp 18) (.tmp 19)) none) :: (SO.mk (some 21) (.faddr 57 (.tmp 20) 8) none) :: (SO.mk (some 22) (.load 28 (.tmp 21)) none) :: (SO.mk (some 23) (.len 28 (.tmp 22)) none) :: o33_2)
theorem v33_3 : type_of% (@swl _ _ o33_3.eq_1) := @swl _ _ o33_3.eq_1
def c33_4 : SC := (.cond (.tmp 24) .skip (.exit 2))
theorem u33_4 : type_of% (@swc _ _ c33_4.eq_1) := @swc _ _ c33_4.eq_1
def o33_5 : List SO := ((SO.mk (some 3) (.move (.tmp 38)) none) :: [])
theorem v33_5 : type_of% (@swl _ _ o33_5.eq_1) := @swl _ _ o33_5.eq_1
def o33_6 : List SO := ((SO.mk (some 35) (.iaddr 28 (.tmp 33) (.tmp 34)) none) :: (SO.mk (some 36) (.load 3 (.tmp 35)) none) :: (SO.mk (some 37) (.bslice 28 1 [(0 , (.tmp 36))]) none) :: (SO.mk (some 38) (.app 28 28 (.tmp 27) (.tmp 37)) none) :: o33_5)
theorem v33_6 : type_of% (@swl _ _ o33_6.eq_1) := @swl _ _ o33_6.eq_1
def o33_7 : List SO := ((SO.mk (some 31) (.iaddr 25 (.tmp 29) (.tmp 30)) none) :: (SO.mk (some 32) (.faddr 57 (.tmp 31) 8) none) :: (SO.mk (some 33) (.load 28 (.tmp 32)) none) :: (SO.mk (some 34) (.move (.tmp 5)) none) :: o33_6)
theorem v33_7 : type_of% (@swl _ _ o33_7.eq_1) := @swl _ _ o33_7.eq_1
def c33_8 : SC := (.reg [SO.mk (some 25) (.move (.tmp 5)) none, SO.mk (some 26) (.bin .add 3 (.tmp 25) (.const (Value.int .i64 1))) none, SO.mk (some 5) (.move (.tmp 26)) none])
theorem u33_8 : type_of% (@swc _ _ c33_8.eq_1) := @swc _ _ c33_8.eq_1
def c33_9 : SC := (.seq (.block 3 (.reg ((SO.mk (some 27) (.move (.tmp 3)) none) :: (SO.mk (some 28) (.faddr 30 (.tmp 1) 3) none) :: (SO.mk (some 29) (.load 25 (.tmp 28)) none) :: (SO.mk (some 30) (.move (.tmp 4)) none) :: o33_7))) (.keep [5, 4, 1, 3] c33_8))
theorem u33_9 : type_of% (@swc _ _ c33_9.eq_1) := @swc _ _ c33_9.eq_1
def c33_10 : SC := (.seq (.seq (.reg ((SO.mk (some 16) (.move (.tmp 5)) none) :: (SO.mk (some 17) (.faddr 30 (.tmp 1) 3) none) :: (SO.mk (some 18) (.load 25 (.tmp 17)) none) :: (SO.mk (some 19) (.move (.tmp 4)) none) :: o33_3)) (.keep [24, 5, 4, 1, 3] c33_4)) (.keep [3, 5, 4, 1] c33_9))
theorem u33_10 : type_of% (@swc _ _ c33_10.eq_1) := @swc _ _ c33_10.eq_1
def c33_11 : SC := (.block 2 (.loop (.keep [5, 4, 1, 3] c33_10)))
theorem u33_11 : type_of% (@swc _ _ c33_11.eq_1) := @swc _ _ c33_11.eq_1
def c33_12 : SC := (.reg [SO.mk (some 14) (.move (.tmp 4)) none, SO.mk (some 15) (.bin .add 3 (.tmp 14) (.const (Value.int .i64 1))) none, SO.mk (some 4) (.move (.tmp 15)) none])
theorem u33_12 : type_of% (@swc _ _ c33_12.eq_1) := @swc _ _ c33_12.eq_1
def c33_13 : SC := (.seq (.block 1 (.seq (.reg [SO.mk (some 5) (.move (.const (Value.int .i64 0))) none]) (.keep [5, 4, 1, 3] c33_11))) (.keep [4, 1, 3] c33_12))
theorem u33_13 : type_of% (@swc _ _ c33_13.eq_1) := @swc _ _ c33_13.eq_1
def c33_14 : SC := (.seq (.seq (.reg [SO.mk (some 9) (.move (.tmp 4)) none, SO.mk (some 10) (.faddr 30 (.tmp 1) 3) none, SO.mk (some 11) (.load 25 (.tmp 10)) none, SO.mk (some 12) (.len 25 (.tmp 11)) none, SO.mk (some 13) (.bin .lss 3 (.tmp 9) (.tmp 12)) none]) (.keep [13, 4, 1, 3] c33_1)) (.keep [4, 1, 3] c33_13))
theorem u33_14 : type_of% (@swc _ _ c33_14.eq_1) := @swc _ _ c33_14.eq_1
def c33_15 : SC := (.block 0 (.loop (.keep [4, 1, 3] c33_14)))
theorem u33_15 : type_of% (@swc _ _ c33_15.eq_1) := @swc _ _ c33_15.eq_1
def c33_16 : SC := (.cond (.tmp 43) .skip (.exit 4))
theorem u33_16 : type_of% (@swc _ _ c33_16.eq_1) := @swc _ _ c33_16.eq_1
def o33_17 : List SO := ((SO.mk (some 54) (.bin .lss 3 (.tmp 46) (.tmp 53)) none) :: [])
theorem v33_17 : type_of% (@swl _ _ o33_17.eq_1) := @swl _ _ o33_17.eq_1
def o33_18 : List SO := ((SO.mk (some 50) (.iaddr 26 (.tmp 48) (.tmp 49)) none) :: (SO.mk (some 51) (.faddr 65 (.tmp 50) 3) none) :: (SO.mk (some 52) (.load 63 (.tmp 51)) none) :: (SO.mk (some 53) (.len 63 (.tmp 52)) none) :: o33_17)
theorem v33_18 : type_of% (@swl _ _ o33_18.eq_1) := @swl _ _ o33_18.eq_1
def c33_19 : SC := (.cond (.tmp 54) .skip (.exit 6))
theorem u33_19 : type_of% (@swc _ _ c33_19.eq_1) := @swc _ _ c33_19.eq_1
def o33_20 : List SO := ((SO.mk (some 69) (.bin .lss 3 (.tmp 57) (.tmp 68)) none) :: [])
theorem v33_20 : type_of% (@swl _ _ o33_20.eq_1) := @swl _ _ o33_20.eq_1
def o33_21 : List SO := ((SO.mk (some 65) (.iaddr 63 (.tmp 63) (.tmp 64)) none) :: (SO.mk (some 66) (.faddr 67 (.tmp 65) 2) none) :: (SO.mk (some 67) (.load 28 (.tmp 66)) none) :: (SO.mk (some 68) (.len 28 (.tmp 67)) none) :: o33_20)
theorem v33_21 : type_of% (@swl _ _ o33_21.eq_1) := @swl _ _ o33_21.eq_1
def o33_22 : List SO := ((SO.mk (some 61) (.iaddr 26 (.tmp 59) (.tmp 60)) none) :: (SO.mk (some 62) (.faddr 65 (.tmp 61) 3) none) :: (SO.mk (some 63) (.load 63 (.tmp 62)) none) :: (SO.mk (some 64) (.move (.tmp 7)) none) :: o33_21)
theorem v33_22 : type_of% (@swl _ _ o33_22.eq_1) := @swl _ _ o33_22.eq_1
def c33_23 : SC := (.cond (.tmp 69) .skip (.exit 8))
theorem u33_23 : type_of% (@swc _ _ c33_23.eq_1) := @swc _ _ c33_23.eq_1
def o33_24 : List SO := ((SO.mk (some 3) (.move (.tmp 87)) none) :: [])
theorem v33_24 : type_of% (@swl _ _ o33_24.eq_1) := @swl _ _ o33_24.eq_1
def o33_25 : List SO := ((SO.mk (some 84) (.iaddr 28 (.tmp 82) (.tmp 83)) none) :: (SO.mk (some 85) (.load 3 (.tmp 84)) none) :: (SO.mk (some 86) (.bslice 28 1 [(0 , (.tmp 85))]) none) :: (SO.mk (some 87) (.app 28 28 (.tmp 72) (.tmp 86)) none) :: o33_24)
theorem v33_25 : type_of% (@swl _ _ o33_25.eq_1) := @swl _ _ o33_25.eq_1
def o33_26 : List SO := ((SO.mk (some 80) (.iaddr 63 (.tmp 78) (.tmp 79)) none) :: (SO.mk (some 81) (.faddr 67 (.tmp 80) 2) none) :: (SO.mk (some 82) (.load 28 (.tmp 81)) none) :: (SO.mk (some 83) (.move (.tmp 8)) none) :: o33_25)
theorem v33_26 : type_of% (@swl _ _ o33_26.eq_1) := @swl _ _ o33_26.eq_1
def o33_27 : List SO := ((SO.mk (some 76) (.iaddr 26 (.tmp 74) (.tmp 75)) none) :: (SO.mk (some 77) (.faddr 65 (.tmp 76) 3) none) :: (SO.mk (some 78) (.load 63 (.tmp 77)) none) :: (SO.mk (some 79) (.move (.tmp 7)) none) :: o33_26)
theorem v33_27 : type_of% (@swl _ _ o33_27.eq_1) := @swl _ _ o33_27.eq_1
def c33_28 : SC := (.reg [SO.mk (some 70) (.move (.tmp 8)) none, SO.mk (some 71) (.bin .add 3 (.tmp 70) (.const (Value.int .i64 1))) none, SO.mk (some 8) (.move (.tmp 71)) none])
theorem u33_28 : type_of% (@swc _ _ c33_28.eq_1) := @swc _ _ c33_28.eq_1
def c33_29 : SC := (.seq (.block 9 (.reg ((SO.mk (some 72) (.move (.tmp 3)) none) :: (SO.mk (some 73) (.faddr 30 (.tmp 1) 4) none) :: (SO.mk (some 74) (.load 26 (.tmp 73)) none) :: (SO.mk (some 75) (.move (.tmp 6)) none) :: o33_27))) (.keep [8, 7, 6, 1, 3] c33_28))
theorem u33_29 : type_of% (@swc _ _ c33_29.eq_1) := @swc _ _ c33_29.eq_1
def c33_30 : SC := (.seq (.seq (.reg ((SO.mk (some 57) (.move (.tmp 8)) none) :: (SO.mk (some 58) (.faddr 30 (.tmp 1) 4) none) :: (SO.mk (some 59) (.load 26 (.tmp 58)) none) :: (SO.mk (some 60) (.move (.tmp 6)) none) :: o33_22)) (.keep [69, 8, 7, 6, 1, 3] c33_23)) (.keep [3, 8, 7, 6, 1] c33_29))
theorem u33_30 : type_of% (@swc _ _ c33_30.eq_1) := @swc _ _ c33_30.eq_1
def c33_31 : SC := (.block 8 (.loop (.keep [8, 7, 6, 1, 3] c33_30)))
theorem u33_31 : type_of% (@swc _ _ c33_31.eq_1) := @swc _ _ c33_31.eq_1
def c33_32 : SC := (.reg [SO.mk (some 55) (.move (.tmp 7)) none, SO.mk (some 56) (.bin .add 3 (.tmp 55) (.const (Value.int .i64 1))) none, SO.mk (some 7) (.move (.tmp 56)) none])
theorem u33_32 : type_of% (@swc _ _ c33_32.eq_1) := @swc _ _ c33_32.eq_1
def c33_33 : SC := (.seq (.block 7 (.seq (.reg [SO.mk (some 8) (.move (.const (Value.int .i64 0))) none]) (.keep [8, 7, 6, 1, 3] c33_31))) (.keep [7, 6, 1, 3] c33_32))
theorem u33_33 : type_of% (@swc _ _ c33_33.eq_1) := @swc _ _ c33_33.eq_1
def c33_34 : SC := (.seq (.seq (.reg ((SO.mk (some 46) (.move (.tmp 7)) none) :: (SO.mk (some 47) (.faddr 30 (.tmp 1) 4) none) :: (SO.mk (some 48) (.load 26 (.tmp 47)) none) :: (SO.mk (some 49) (.move (.tmp 6)) none) :: o33_18)) (.keep [54, 7, 6, 1, 3] c33_19)) (.keep [7, 6, 1, 3] c33_33))
theorem u33_34 : type_of% (@swc _ _ c33_34.eq_1) := @swc _ _ c33_34.eq_1
def c33_35 : SC := (.block 6 (.loop (.keep [7, 6, 1, 3] c33_34)))
theorem u33_35 : type_of% (@swc _ _ c33_35.eq_1) := @swc _ _ c33_35.eq_1
def c33_36 : SC := (.reg [SO.mk (some 44) (.move (.tmp 6)) none, SO.mk (some 45) (.bin .add 3 (.tmp 44) (.const (Value.int .i64 1))) none, SO.mk (some 6) (.move (.tmp 45)) none])
theorem u33_36 : type_of% (@swc _ _ c33_36.eq_1) := @swc _ _ c33_36.eq_1
def c33_37 : SC := (.seq (.block 5 (.seq (.reg [SO.mk (some 7) (.move (.const (Value.int .i64 0))) none]) (.keep [7, 6, 1, 3] c33_35))) (.keep [6, 1, 3] c33_36))
theorem u33_37 : type_of% (@swc _ _ c33_37.eq_1) := @swc _ _ c33_37.eq_1
def c33_38 : SC := (.seq (.seq (.reg [SO.mk (some 39) (.move (.tmp 6)) none, SO.mk (some 40) (.faddr 30 (.tmp 1) 4) none, SO.mk (some 41) (.load 26 (.tmp 40)) none, SO.mk (some 42) (.len 26 (.tmp 41)) none, SO.mk (some 43) (.bin .lss 3 (.tmp 39) (.tmp 42)) none]) (.keep [43, 1, 6, 3] c33_16)) (.keep [6, 1, 3] c33_37))
theorem u33_38 : type_of% (@swc _ _ c33_38.eq_1) := @swc _ _ c33_38.eq_1
def c33_39 : SC := (.block 4 (.loop (.keep [1, 6, 3] c33_38)))
theorem u33_39 : type_of% (@swc _ _ c33_39.eq_1) := @swc _ _ c33_39.eq_1
def c33_40 : SC := (.seq (.reg [SO.mk (some 88) (.move (.tmp 3)) none, SO.mk (some 2) (.move (.tmp 88)) none]) (.keep [2] .ret))
theorem u33_40 : type_of% (@swc _ _ c33_40.eq_1) := @swc _ _ c33_40.eq_1
def c33_41 : SC := (.seq (.seq (.reg [SO.mk (some 6) (.move (.const (Value.int .i64 0))) none]) (.keep [1, 6, 3] c33_39)) (.keep [3] c33_40))
theorem u33_41 : type_of% (@swc _ _ c33_41.eq_1) := @swc _ _ c33_41.eq_1
def c33_42 : SC := (.seq (.seq (.reg [SO.mk (some 4) (.move (.const (Value.int .i64 0))) none]) (.keep [4, 1, 3] c33_15)) (.keep [1, 3] c33_41))
theorem u33_42 : type_of% (@swc _ _ c33_42.eq_1) := @swc _ _ c33_42.eq_1
def c33_43 : SC := (.seq (.reg [SO.mk (some 3) (.move (.const (Value.slice none 0 0))) none]) (.keep [1, 3] c33_42))
theorem u33_43 : type_of% (@swc _ _ c33_43.eq_1) := @swc _ _ c33_43.eq_1
def c33 : SC := (.seq (.reg [SO.mk (some 1) (.box 30 (.tmp 0)) none, SO.mk (some 2) (.move (.const (Value.slice none 0 0))) none]) (.keep [1] c33_43))
theorem c33_eq : annC Try.f33 = some c33 := by kernel_rfl
theorem r33 : Try.f33.results.toList = [.tmp 2] := by kernel_rfl
theorem e33 : enters Try.prog 33 = true := by kernel_rfl
end Go.Proofs.Yteaojhieghakfaa
namespace Go.Proofs.Yteaojhieghakfaa
open Go.RowKit
set_option maxHeartbeats 4000000
set_option maxRecDepth 20000
attribute [local irreducible] SW SWL SWLn SWD SEcall SEcallv SDv SE SO1 SOg ACalls ACallv Wk EndV
set_option linter.unusedSimpArgs false
set_option linter.unusedVariables false
def sV (s : SttD) (k : Nat) : List Int := (s.vers.take k).flatMap VerD.secs
def upS (u : UpD) : List Int := u.parts.flatMap PartD.secs
def sVall (s : SttD) : List Int := s.vers.flatMap VerD.secs
def sU (s : SttD) (k : Nat) : List Int := sVall s ++ (s.ups.take k).flatMap upS
def sP (s : SttD) (k i : Nat) : List Int := sU s k ++ (s.ups[k]!.parts.take i).flatMap PartD.secs
def aV (s : SttD) (k j : Nat) : List Int := sV s k ++ s.vers[k]!.secs.take j
def aP (s : SttD) (k i j : Nat) : List Int := sP s k i ++ s.ups[k]!.parts[i]!.secs.take j
def allSec (s : SttD) : List Int := sVall s ++ s.ups.flatMap upS
theorem sV_end {s : SttD} {k : Nat} (h : decide ((k : Int) < (s.vers.length : Int)) = false) : sV s k = sVall s := by
  unfold sV sVall; rw [List.take_of_length_le (by simpa using h)]
theorem sU_end {s : SttD} {k : Nat} (h : decide ((k : Int) < (s.ups.length : Int)) = false) : sU s k = allSec s := by
  unfold sU allSec; rw [List.take_of_length_le (by simpa using h)]
theorem sV_next {s : SttD} {k : Nat} (h : k < s.vers.length) : sV s (k + 1) = aV s k s.vers[k]!.secs.length := by
  unfold sV aV; rw [take_next h, List.flatMap_append, List.take_length]; simp [sV]
theorem aV_next {s : SttD} {k j : Nat} (h : j < s.vers[k]!.secs.length) : aV s k (j + 1) = aV s k j ++ [s.vers[k]!.secs[j]!] := by
  unfold aV; rw [take_next h, List.append_assoc]
theorem sV0 (s : SttD) : sV s 0 = [] := rfl
theorem aV_0 (s : SttD) (k : Nat) : aV s k 0 = sV s k := by simp [aV]
theorem aP_next {s : SttD} {k i j : Nat} (h : j < s.ups[k]!.parts[i]!.secs.length) : aP s k i (j + 1) = aP s k i j ++ [s.ups[k]!.parts[i]!.secs[j]!] := by
  unfold aP; rw [take_next h, List.append_assoc]
theorem aP_0 (s : SttD) (k i : Nat) : aP s k i 0 = sP s k i := by simp [aP]
theorem sP_next {s : SttD} {k i : Nat} (h : i < s.ups[k]!.parts.length) : sP s k (i + 1) = aP s k i s.ups[k]!.parts[i]!.secs.length := by
  unfold aP sP; rw [take_next h, List.flatMap_append, List.take_length]; simp
theorem sP_0 (s : SttD) (k : Nat) : sP s k 0 = sU s k := by simp [sP]
theorem sU_next {s : SttD} {k : Nat} (h : k < s.ups.length) : sU s (k + 1) = sP s k s.ups[k]!.parts.length := by
  unfold sP sU; rw [take_next h, List.flatMap_append, List.take_length]; simp [upS]
theorem sU_0 (s : SttD) : sU s 0 = sVall s := by simp [sU]
theorem allS_p (s : SttD) (hb1 : ∀ k j : Nat, (aV s k j).length ≤ 2 ^ 40) (hb2 : ∀ k i j : Nat, (aP s k i j).length ≤ 2 ^ 40) (hb3 : ∀ k : Nat, (s.ups[k]!).parts.length ≤ 2 ^ 47) (hb4 : ∀ k : Nat, (s.vers[k]!).secs.length ≤ 2 ^ 47) (hb5 : ∀ k i : Nat, ((s.ups[k]!).parts[i]!).secs.length ≤ 2 ^ 47) : Pure Try.prog 33 [s.av] (.d (ints (allSec s))) := by
  refine pureZ_of follows Try.func33 c33_eq r33 (Nat.le_of_ble_eq_true rfl) fun B σ hcl hsz => ?_
  obtain ⟨z1, z2, z3, z4, z5⟩ := st_sz5 (hsz s.av (by simp))
  clear hsz
  repeat' (first | (simp -implicitDefEqProofs only [*, contN, contC, Nat.reduceBEq, Bool.or_false, Bool.or_true, Bool.false_or, Bool.true_or, Bool.not_true, Bool.not_false, w_skip, w_ret, w_exit, w_reg, w_dreg, w_seq, SK_n, SK_r, SK_x, w_keep, w_block, w_cond, w_nil, w_cons, w_consg, w_nnil, w_ncons, w_dnil, w_dcons, w_dconsg, HK_app, HD_app, HQ_n, HQ_r, HQ_x, HQ_bn, HQ_br, HQ_bx, HQ_en, HQ_er, HQ_ex, CondB_true, CondB_false, SO1, w_sdv, SDe_alloc, SDe_box, SDe_bslice, SDe_app, true_imp_iff, false_imp_iff, and_false, false_and, not_false_eq_true, not_true_eq_false, addN, mkNames, killT, killD, killO, List.foldl_nil, List.foldl_cons, List.append_nil, List.nil_append, List.cons_append, GuardS_true, GuardS_false, GuardD_true, GuardD_false, DK_true, DK_false, lt_self_add, le_self_add, decide_true, decide_false, Bool.false_eq_true, Bool.true_eq_false, Nat.add_left_cancel_iff, SE, SEalloc, SEbox, SEstore, w_bs, SEbl, SEfz, SEbs0, fzName, osOf, AV.fz1, w_app, w_mk, aev, opd, Fr.get, putO, Fr.norm, List.map_cons, List.map_nil, with1, with2, onInt, AV.lit, entry, ↓reduceIte, Nat.reduceEqDiff, Nat.reduceAdd, reduceCtorEq, true_and, and_true, Option.map_some, Option.map_none, Option.bind_some, Option.bind_none, cond_true, cond_false, binV, unV, fieldV, loadV, sto, cellsAV, newF, newL, Fr.map, Loc.kill, Loc.set, AO.kill, AV.kill, AV.mapN, AV.mapNL, List.filter_nil, List.filter_cons, allP, EndV, retV, resV, resL, frz, dropL, AV.pick, nilV, tupV, imp_self, ne_eq, Int.cast_ofNat_Int, Int.reduceLT, Int.reduceToNat, List.getD_cons_zero, List.getD_cons_succ, bsliceV, buildV, afill, repl, chunk, rvs, AV.rv, RV.nrm, List.getElem?_nil, List.append_assoc, Nat.reduceMul, Nat.reducePow, Nat.zero_lt_succ, Nat.zero_add, Nat.add_zero, List.length_cons, List.length_nil, Nat.reduceLeDiff, Nat.le_refl, List.take_succ_cons, List.take_zero, List.drop_succ_cons, List.drop_zero, indexV, lenV, rowOf_mapD, rowOf_mapI, rowOf_mapA, List.length_map, Int.toNat_natCast, List.getElem?_cons_zero, List.getElem?_cons_succ, and_self, implies_true, if_true, if_false, HQ_zn, HQ_zr, HQ_wn, HQ_wr, AV.nz, AV.nzL, RV.nrm, SEbin, SEnil, nilK, srcV, dstV, appName, List.length_append, Nat.mul_one, take_map_len, take_map_app, List.getElem?_cons_zero, List.map_append, SEmkmap, SEmset, mgetV, kvOf, getM, setM, c33, r33, u33_1, v33_2, v33_3, u33_4, v33_5, v33_6, v33_7, u33_8, u33_9, u33_10, u33_11, u33_12, u33_13, u33_14, u33_15, u33_16, v33_17, v33_18, u33_19, v33_20, v33_21, v33_22, u33_23, v33_24, v33_25, v33_26, v33_27, u33_28, u33_29, u33_30, u33_31, u33_32, u33_33, u33_34, u33_35, u33_36, u33_37, u33_38, u33_39, u33_40, u33_41, u33_42, u33_43, ty30, ty25, ty3, ty57, ty28, ty26, ty65, ty63, ty67, SttD.av, SttD.cells, ints, int_, VerD.row, UpD.row, PartD.row, aV_0, aP_0, sP_0, sU_0, sV0, sV_end, sU_end]) | (with_reducible refine And.intro ?_ ?_) | (refine loop_nat ((s.ups[kk]!).parts[i]!.secs.length) (fun _ => (s.ups[kk]!).parts[i]!.secs.length ≤ 2 ^ 47) (fun jj => [(8, I jj), (7, I i), (6, I kk), (1, .lp (B + 1) 0), (3, .os (B + 38) (aP s kk i jj).length)]) (fun jj => [(B + 1, .box s.cells), (B + 38, .arr 1 3 ((aP s kk i jj).map int_))]) ?_ (Wk.keep hcl ?_ ?_ ?_) fun jj hjj hFjj => ?_; rotate_left 1; (focus (simp [Fr.get, newF, Fr.map, AV.kill, AV.mapN, SttD.av, SttD.cells, ints, int_, VerD.row, UpD.row, PartD.row, aV_0, aP_0, sP_0, sU_0, sV0, sV_end, sU_end] <;> fail)); (focus (simp [sto, newL, Loc.kill, Loc.set, AO.kill, AV.kill, AV.mapN, SttD.av, SttD.cells, ints, int_, VerD.row, UpD.row, PartD.row, aV_0, aP_0, sP_0, sU_0, sV0, sV_end, sU_end] <;> fail)); (focus (simp [newL, Loc.kill, Loc.set, SttD.av, SttD.cells, ints, int_, VerD.row, UpD.row, PartD.row, aV_0, aP_0, sP_0, sU_0, sV0, sV_end, sU_end] <;> fail)); (try have hwjj : IntKind.i64.wrap ((jj : Int) + 1) = (jj : Int) + 1 := IntWalk.i64_in _ (by omega))) | (refine loop_nat ((s.ups[kk]!).parts.length) (fun _ => (s.ups[kk]!).parts.length ≤ 2 ^ 47) (fun i => [(7, I i), (6, I kk), (1, .lp (B + 1) 0), (3, .os (B + 38) (sP s kk i).length)]) (fun i => [(B + 1, .box s.cells), (B + 38, .arr 1 3 ((sP s kk i).map int_))]) ?_ (Wk.keep hcl ?_ ?_ ?_) fun i hi hFi => ?_; rotate_left 1; (focus (simp [Fr.get, newF, Fr.map, AV.kill, AV.mapN, SttD.av, SttD.cells, ints, int_, VerD.row, UpD.row, PartD.row, aV_0, aP_0, sP_0, sU_0, sV0, sV_end, sU_end] <;> fail)); (focus (simp [sto, newL, Loc.kill, Loc.set, AO.kill, AV.kill, AV.mapN, SttD.av, SttD.cells, ints, int_, VerD.row, UpD.row, PartD.row, aV_0, aP_0, sP_0, sU_0, sV0, sV_end, sU_end] <;> fail)); (focus (simp [newL, Loc.kill, Loc.set, SttD.av, SttD.cells, ints, int_, VerD.row, UpD.row, PartD.row, aV_0, aP_0, sP_0, sU_0, sV0, sV_end, sU_end] <;> fail)); (try have hwi : IntKind.i64.wrap ((i : Int) + 1) = (i : Int) + 1 := IntWalk.i64_in _ (by omega))) | (refine loop_nat (s.ups.length) (fun _ => True) (fun kk => [(6, I kk), (1, .lp (B + 1) 0), (3, .os (B + 38) (sU s kk).length)]) (fun kk => [(B + 1, .box s.cells), (B + 38, .arr 1 3 ((sU s kk).map int_))]) ?_ (Wk.keep hcl ?_ ?_ ?_) fun kk hkk hFkk => ?_; rotate_left 1; (focus (simp [Fr.get, newF, Fr.map, AV.kill, AV.mapN, SttD.av, SttD.cells, ints, int_, VerD.row, UpD.row, PartD.row, aV_0, aP_0, sP_0, sU_0, sV0, sV_end, sU_end] <;> fail)); (focus (simp [sto, newL, Loc.kill, Loc.set, AO.kill, AV.kill, AV.mapN, SttD.av, SttD.cells, ints, int_, VerD.row, UpD.row, PartD.row, aV_0, aP_0, sP_0, sU_0, sV0, sV_end, sU_end] <;> fail)); (focus (simp [newL, Loc.kill, Loc.set, SttD.av, SttD.cells, ints, int_, VerD.row, UpD.row, PartD.row, aV_0, aP_0, sP_0, sU_0, sV0, sV_end, sU_end] <;> fail)); (try have hwkk : IntKind.i64.wrap ((kk : Int) + 1) = (kk : Int) + 1 := IntWalk.i64_in _ (by omega))) | (refine loop_nat ((s.vers[k]!).secs.length) (fun _ => (s.vers[k]!).secs.length ≤ 2 ^ 47) (fun j => [(5, I j), (4, I k), (1, .lp (B + 1) 0), (3, .os (B + 38) (aV s k j).length)]) (fun j => [(B + 1, .box s.cells), (B + 38, .arr 1 3 ((aV s k j).map int_))]) ?_ (Wk.keep hcl ?_ ?_ ?_) fun j hj hFj => ?_; rotate_left 1; (focus (simp [Fr.get, newF, Fr.map, AV.kill, AV.mapN, SttD.av, SttD.cells, ints, int_, VerD.row, UpD.row, PartD.row, aV_0, aP_0, sP_0, sU_0, sV0, sV_end, sU_end] <;> fail)); (focus (simp [sto, newL, Loc.kill, Loc.set, AO.kill, AV.kill, AV.mapN, SttD.av, SttD.cells, ints, int_, VerD.row, UpD.row, PartD.row, aV_0, aP_0, sP_0, sU_0, sV0, sV_end, sU_end] <;> fail)); (focus (simp [newL, Loc.kill, Loc.set, SttD.av, SttD.cells, ints, int_, VerD.row, UpD.row, PartD.row, aV_0, aP_0, sP_0, sU_0, sV0, sV_end, sU_end] <;> fail)); (try have hwj : IntKind.i64.wrap ((j : Int) + 1) = (j : Int) + 1 := IntWalk.i64_in _ (by omega))) | (refine loop_nat (s.vers.length) (fun _ => True) (fun k => [(4, I k), (1, .lp (B + 1) 0), (3, .os (B + 38) (sV s k).length)]) (fun k => [(B + 1, .box s.cells), (B + 38, .arr 1 3 ((sV s k).map int_))]) ?_ (Wk.trans (Wk.nameF (s := 3) (n := B + 38) (k := 1) (E := 3) rfl (by omega) (.inl (by omega)) (fun m => AO.kill_below (q := fun m => decide (m < B)) (by simp) _ (hcl m).1)) (Wk.keep hcl ?_ ?_ ?_)) fun k hk hF => ?_; rotate_left 1; (focus (simp [Fr.get, newF, Fr.map, AV.kill, AV.mapN, SttD.av, SttD.cells, ints, int_, VerD.row, UpD.row, PartD.row, aV_0, aP_0, sP_0, sU_0, sV0, sV_end, sU_end] <;> fail)); (focus (simp [sto, newL, Loc.kill, Loc.set, AO.kill, AV.kill, AV.mapN, SttD.av, SttD.cells, ints, int_, VerD.row, UpD.row, PartD.row, aV_0, aP_0, sP_0, sU_0, sV0, sV_end, sU_end] <;> fail)); (focus (simp [newL, Loc.kill, Loc.set, SttD.av, SttD.cells, ints, int_, VerD.row, UpD.row, PartD.row, aV_0, aP_0, sP_0, sU_0, sV0, sV_end, sU_end] <;> fail)); (try have hw : IntKind.i64.wrap ((k : Int) + 1) = (k : Int) + 1 := IntWalk.i64_in _ (by omega))) | (refine EndX.plain ?_) | (refine nil_split (fun hn => ?_) (fun hn => ?_)) | (refine gcall_no not_false ?_) | (refine gdcall_no not_false ?_) | (refine GuardS_of _ _ _ _ _ _ (fun hg => ?_) (fun hg => ?_)) | (refine GuardD_of _ _ _ _ (fun hg => ?_) (fun hg => ?_)) | (refine CondB_of _ _ _ _ _ _ _ ?_ (fun hg => ?_) (fun hg => ?_)))
  all_goals (try (first | ((first | unfold noN | unfold Fr.below | unfold Loc.below); simp [Fr.allN, AV.allN, AV.allNL, AO.allN]; done) | rfl | trivial | assumption | (intro row hrow; simp only [List.mem_map] at hrow; obtain ⟨x, _, rfl⟩ := hrow; rfl) | (refine Wk.keep hcl ?_ ?_ ?_; (focus (simp [Fr.get, SttD.av, SttD.cells, ints, int_, VerD.row, UpD.row, PartD.row, aV_0, aP_0, sP_0, sU_0, sV0, sV_end, sU_end] <;> fail)); (focus (simp [sto, SttD.av, SttD.cells, ints, int_, VerD.row, UpD.row, PartD.row, aV_0, aP_0, sP_0, sU_0, sV0, sV_end, sU_end] <;> fail)); (focus (simp <;> fail))) | (simp [allP, opd, Fr.get, Fr.below, Fr.allN, AV.allN, AV.allNL, Loc.below, AO.allN, noN, killO, killT, killD, mkNames, AO.kill, AV.kill, AV.mapN, AV.mapNL]; done) | (with_reducible exact ltD (by assumption)) | omega | (simp only [decide_eq_true_eq, decide_eq_false_iff_not] at *; omega)))
  all_goals (try (have hb := hb1 k j; omega))
  all_goals (try (have hb := hb2 kk i jj; omega))
  all_goals (try (
    have h0 : decide ((j : Int) < (s.vers[k]!.secs.length : Int)) = true := by assumption
    rw [aV_next (ltS h0)]
    refine Wk.keep hcl ?_ ?_ ?_
    · simp [Fr.get]
    · simp [sto, SttD.cells, ints, int_]
    · simp))
  all_goals (try (
    have h0 : decide ((j : Int) < (s.vers[k]!.secs.length : Int)) = false := by assumption
    have h1 : decide ((k : Int) < (s.vers.length : Int)) = true := by assumption
    have ej : s.vers[k]!.secs.length = j := by have := geS h0; omega
    rw [sV_next (ltS h1), ej]
    refine Wk.keep hcl ?_ ?_ ?_
    · simp [Fr.get]
    · simp [sto, SttD.cells, ints, int_]
    · simp))
  all_goals (try (
    have h0 : decide ((jj : Int) < ((s.ups[kk]!).parts[i]!.secs.length : Int)) = true := by assumption
    rw [aP_next (ltS h0)]
    refine Wk.keep hcl ?_ ?_ ?_
    · simp [Fr.get]
    · simp [sto, SttD.cells, ints, int_]
    · simp))
  all_goals (try (
    have h0 : decide ((jj : Int) < ((s.ups[kk]!).parts[i]!.secs.length : Int)) = false := by assumption
    have h1 : decide ((i : Int) < ((s.ups[kk]!).parts.length : Int)) = true := by assumption
    have ej : (s.ups[kk]!).parts[i]!.secs.length = jj := by have := geS h0; omega
    rw [sP_next (ltS h1), ej]
    refine Wk.keep hcl ?_ ?_ ?_
    · simp [Fr.get]
    · simp [sto, SttD.cells, ints, int_]
    · simp))
  all_goals (try (
    have h0 : decide ((i : Int) < ((s.ups[kk]!).parts.length : Int)) = false := by assumption
    have h1 : decide ((kk : Int) < (s.ups.length : Int)) = true := by assumption
    have ej : (s.ups[kk]!).parts.length = i := by have := geS h0; omega
    rw [sU_next (ltS h1), ej]
    refine Wk.keep hcl ?_ ?_ ?_
    · simp [Fr.get]
    · simp [sto, SttD.cells, ints, int_]
    · simp))
end Go.Proofs.Yteaojhieghakfaa
