/- Tiers: the document's answer on which volume is half empty. -/
import Derived.Test.YteaojhieghakfaaTierH
import Derived.Test.YteaojhieghakfaaTypes
namespace Go.Proofs.Yteaojhieghakfaa
open Go.RowKit
set_option maxRecDepth 100000
def o19_1 : List SO := ((SO.mk (some 16) (.extract (.tmp 12) 1) none) :: (SO.mk (some 7) (.move (.tmp 15)) none) :: (SO.mk (some 8) (.move (.tmp 16)) none) :: [])
theorem v19_1 : type_of% (@swl _ _ o19_1.eq_1) := @swl _ _ o19_1.eq_1
def o19_2 : List SO := ((SO.mk (some 25) (.call 25 [(.const (Value.int .i64 4000)), (.tmp 24)]) (some (23 , false))) :: (SO.mk (some 26) (.un .not (.tmp 25)) (some (23 , false))) :: (SO.mk (some 27) (.pick (.tmp 23) (.const (Value.bool true)) (.tmp 26)) (some (19 , true))) :: (SO.mk (some 28) (.pick (.tmp 19) (.tmp 27) (.const (Value.bool false))) none) :: [])
theorem v19_2 : type_of% (@swl _ _ o19_2.eq_1) := @swl _ _ o19_2.eq_1
def o19_3 : List SO := ((SO.mk (some 21) (.len 28 (.tmp 20)) (some (19 , true))) :: (SO.mk (some 22) (.bin .gtr 3 (.tmp 21) (.const (Value.int .i64 8))) (some (19 , true))) :: (SO.mk (some 23) (.move (.tmp 22)) (some (19 , true))) :: (SO.mk (some 24) (.move (.tmp 1)) (some (23 , false))) :: o19_2)
theorem v19_3 : type_of% (@swl _ _ o19_3.eq_1) := @swl _ _ o19_3.eq_1
def c19_4 : SC := (.cond (.tmp 28) (.reg [SO.mk (some 8) (.move (.const (Value.int .i64 2))) none]) .skip)
theorem u19_4 : type_of% (@swc _ _ c19_4.eq_1) := @swc _ _ c19_4.eq_1
def c19_5 : SC := (.seq (.reg [SO.mk (some 31) (.move (.tmp 8)) none, SO.mk (some 4) (.move (.const (Value.int .i64 0))) none, SO.mk (some 5) (.move (.const (Value.slice none 0 0))) none, SO.mk (some 6) (.move (.tmp 31)) none]) (.keep [4, 5, 6] .ret))
theorem u19_5 : type_of% (@swc _ _ c19_5.eq_1) := @swc _ _ c19_5.eq_1
def c19_6 : SC := (.cond (.tmp 30) c19_5 .skip)
theorem u19_6 : type_of% (@swc _ _ c19_6.eq_1) := @swc _ _ c19_6.eq_1
def c19_7 : SC := (.cond (.tmp 35) .skip (.exit 0))
theorem u19_7 : type_of% (@swc _ _ c19_7.eq_1) := @swc _ _ c19_7.eq_1
def o19_8 : List SO := ((SO.mk (some 42) (.bin .eql 3 (.tmp 41) (.const (Value.int .i64 0))) none) :: (SO.mk (some 43) (.move (.tmp 42)) none) :: (SO.mk (some 44) (.load 30 (.tmp 2)) (some (43 , false))) :: (SO.mk (some 45) (.move (.tmp 9)) (some (43 , false))) :: [])
theorem v19_8 : type_of% (@swd _ _ o19_8.eq_1) := @swd _ _ o19_8.eq_1
def o19_9 : List SO := ((SO.mk (some 38) (.move (.tmp 1)) none) :: (SO.mk (some 39) (.move (.tmp 9)) none) :: (SO.mk (some 40) (.iaddr 28 (.tmp 38) (.tmp 39)) none) :: (SO.mk (some 41) (.load 3 (.tmp 40)) none) :: o19_8)
theorem v19_9 : type_of% (@swd _ _ o19_9.eq_1) := @swd _ _ o19_9.eq_1
theorem m19_9 (B : Nat) : mkNames B o19_9 = [] := (rfl)
def o19_10 : List SO := ((SO.mk (some 62) (.bin .gtr 3 (.tmp 57) (.tmp 61)) (some (48 , false))) :: (SO.mk (some 63) (.pick (.tmp 48) (.const (Value.bool true)) (.tmp 62)) none) :: [])
theorem v19_10 : type_of% (@swl _ _ o19_10.eq_1) := @swl _ _ o19_10.eq_1
def o19_11 : List SO := ((SO.mk (some 56) (.load 3 (.tmp 55)) (some (48 , false))) :: (SO.mk (some 57) (.bin .add 3 (.tmp 52) (.tmp 56)) (some (48 , false))) :: (SO.mk (some 60) (.iaddr 28 (.tmp 58) (.tmp 59)) (some (48 , false))) :: (SO.mk (some 61) (.load 3 (.tmp 60)) (some (48 , false))) :: o19_10)
theorem v19_11 : type_of% (@swl _ _ o19_11.eq_1) := @swl _ _ o19_11.eq_1
def o19_12 : List SO := ((SO.mk (some 59) (.move (.tmp 9)) (some (48 , false))) :: (SO.mk (some 51) (.iaddr 28 (.tmp 49) (.tmp 50)) (some (48 , false))) :: (SO.mk (some 52) (.load 3 (.tmp 51)) (some (48 , false))) :: (SO.mk (some 55) (.iaddr 28 (.tmp 53) (.tmp 54)) (some (48 , false))) :: o19_11)
theorem v19_12 : type_of% (@swl _ _ o19_12.eq_1) := @swl _ _ o19_12.eq_1
def o19_13 : List SO := ((SO.mk (some 50) (.move (.tmp 9)) (some (48 , false))) :: (SO.mk (some 53) (.move (.tmp 7)) (some (48 , false))) :: (SO.mk (some 54) (.move (.tmp 9)) (some (48 , false))) :: (SO.mk (some 58) (.move (.tmp 1)) (some (48 , false))) :: o19_12)
theorem v19_13 : type_of% (@swl _ _ o19_13.eq_1) := @swl _ _ o19_13.eq_1
def c19_14 : SC := (.cond (.tmp 63) (.exit 1) .skip)
theorem u19_14 : type_of% (@swc _ _ c19_14.eq_1) := @swc _ _ c19_14.eq_1
def c19_15 : SC := (.cond (.tmp 68) .skip (.exit 2))
theorem u19_15 : type_of% (@swc _ _ c19_15.eq_1) := @swc _ _ c19_15.eq_1
def o19_16 : List SO := ((SO.mk (some 95) (.bin .eql 3 (.tmp 93) (.tmp 94)) (some (87 , true))) :: (SO.mk (some 96) (.pick (.tmp 87) (.tmp 95) (.const (Value.bool false))) none) :: [])
theorem v19_16 : type_of% (@swl _ _ o19_16.eq_1) := @swl _ _ o19_16.eq_1
def o19_17 : List SO := ((SO.mk (some 91) (.iaddr 25 (.tmp 89) (.tmp 90)) (some (87 , true))) :: (SO.mk (some 92) (.faddr 57 (.tmp 91) 9) (some (87 , true))) :: (SO.mk (some 93) (.load 3 (.tmp 92)) (some (87 , true))) :: (SO.mk (some 94) (.move (.tmp 9)) (some (87 , true))) :: o19_16)
theorem v19_17 : type_of% (@swl _ _ o19_17.eq_1) := @swl _ _ o19_17.eq_1
def o19_18 : List SO := ((SO.mk (some 87) (.move (.tmp 86)) none) :: (SO.mk (some 88) (.faddr 30 (.tmp 2) 3) (some (87 , true))) :: (SO.mk (some 89) (.load 25 (.tmp 88)) (some (87 , true))) :: (SO.mk (some 90) (.move (.tmp 11)) (some (87 , true))) :: o19_17)
theorem v19_18 : type_of% (@swl _ _ o19_18.eq_1) := @swl _ _ o19_18.eq_1
def o19_19 : List SO := ((SO.mk (some 83) (.faddr 57 (.tmp 82) 7) (some (78 , false))) :: (SO.mk (some 84) (.load 3 (.tmp 83)) (some (78 , false))) :: (SO.mk (some 85) (.bin .eql 3 (.tmp 84) (.const (Value.int .i64 3))) (some (78 , false))) :: (SO.mk (some 86) (.pick (.tmp 78) (.const (Value.bool true)) (.tmp 85)) none) :: o19_18)
theorem v19_19 : type_of% (@swl _ _ o19_19.eq_1) := @swl _ _ o19_19.eq_1
def o19_20 : List SO := ((SO.mk (some 79) (.faddr 30 (.tmp 2) 3) (some (78 , false))) :: (SO.mk (some 80) (.load 25 (.tmp 79)) (some (78 , false))) :: (SO.mk (some 81) (.move (.tmp 11)) (some (78 , false))) :: (SO.mk (some 82) (.iaddr 25 (.tmp 80) (.tmp 81)) (some (78 , false))) :: o19_19)
theorem v19_20 : type_of% (@swl _ _ o19_20.eq_1) := @swl _ _ o19_20.eq_1
def o19_21 : List SO := ((SO.mk (some 75) (.faddr 57 (.tmp 74) 7) none) :: (SO.mk (some 76) (.load 3 (.tmp 75)) none) :: (SO.mk (some 77) (.bin .eql 3 (.tmp 76) (.const (Value.int .i64 2))) none) :: (SO.mk (some 78) (.move (.tmp 77)) none) :: o19_20)
theorem v19_21 : type_of% (@swl _ _ o19_21.eq_1) := @swl _ _ o19_21.eq_1
def o19_22 : List SO := ((SO.mk (some 105) (.app 28 28 (.tmp 97) (.tmp 104)) none) :: (SO.mk (some 10) (.move (.tmp 105)) none) :: [])
theorem v19_22 : type_of% (@swl _ _ o19_22.eq_1) := @swl _ _ o19_22.eq_1
def o19_23 : List SO := ((SO.mk (some 101) (.iaddr 25 (.tmp 99) (.tmp 100)) none) :: (SO.mk (some 102) (.faddr 57 (.tmp 101) 0) none) :: (SO.mk (some 103) (.load 3 (.tmp 102)) none) :: (SO.mk (some 104) (.bslice 28 1 [(0 , (.tmp 103))]) none) :: o19_22)
theorem v19_23 : type_of% (@swl _ _ o19_23.eq_1) := @swl _ _ o19_23.eq_1
def c19_24 : SC := (.reg ((SO.mk (some 97) (.move (.tmp 10)) none) :: (SO.mk (some 98) (.faddr 30 (.tmp 2) 3) none) :: (SO.mk (some 99) (.load 25 (.tmp 98)) none) :: (SO.mk (some 100) (.move (.tmp 11)) none) :: o19_23))
theorem u19_24 : type_of% (@swc _ _ c19_24.eq_1) := @swc _ _ c19_24.eq_1
def c19_25 : SC := (.cond (.tmp 96) c19_24 .skip)
theorem u19_25 : type_of% (@swc _ _ c19_25.eq_1) := @swc _ _ c19_25.eq_1
def c19_26 : SC := (.reg [SO.mk (some 69) (.move (.tmp 11)) none, SO.mk (some 70) (.bin .add 3 (.tmp 69) (.const (Value.int .i64 1))) none, SO.mk (some 11) (.move (.tmp 70)) none])
theorem u19_26 : type_of% (@swc _ _ c19_26.eq_1) := @swc _ _ c19_26.eq_1
def c19_27 : SC := (.seq (.block 3 (.seq (.reg ((SO.mk (some 71) (.faddr 30 (.tmp 2) 3) none) :: (SO.mk (some 72) (.load 25 (.tmp 71)) none) :: (SO.mk (some 73) (.move (.tmp 11)) none) :: (SO.mk (some 74) (.iaddr 25 (.tmp 72) (.tmp 73)) none) :: o19_21)) (.keep [96, 11, 2, 9, 10] c19_25))) (.keep [11, 2, 9, 10] c19_26))
theorem u19_27 : type_of% (@swc _ _ c19_27.eq_1) := @swc _ _ c19_27.eq_1
def c19_28 : SC := (.seq (.seq (.reg [SO.mk (some 64) (.move (.tmp 11)) none, SO.mk (some 65) (.faddr 30 (.tmp 2) 3) none, SO.mk (some 66) (.load 25 (.tmp 65)) none, SO.mk (some 67) (.len 25 (.tmp 66)) none, SO.mk (some 68) (.bin .lss 3 (.tmp 64) (.tmp 67)) none]) (.keep [68, 2, 11, 9, 10] c19_15)) (.keep [11, 2, 9, 10] c19_27))
theorem u19_28 : type_of% (@swc _ _ c19_28.eq_1) := @swc _ _ c19_28.eq_1
def c19_29 : SC := (.block 2 (.loop (.keep [2, 11, 9, 10] c19_28)))
theorem u19_29 : type_of% (@swc _ _ c19_29.eq_1) := @swc _ _ c19_29.eq_1
def c19_30 : SC := (.seq (.reg [SO.mk (some 106) (.move (.tmp 9)) none, SO.mk (some 107) (.move (.tmp 10)) none, SO.mk (some 4) (.move (.tmp 106)) none, SO.mk (some 5) (.move (.tmp 107)) none, SO.mk (some 6) (.move (.const (Value.int .i64 0))) none]) (.keep [4, 5, 6] .ret))
theorem u19_30 : type_of% (@swc _ _ c19_30.eq_1) := @swc _ _ c19_30.eq_1
def c19_31 : SC := (.seq (.seq (.reg [SO.mk (some 11) (.move (.const (Value.int .i64 0))) none]) (.keep [2, 11, 9, 10] c19_29)) (.keep [9, 10] c19_30))
theorem u19_31 : type_of% (@swc _ _ c19_31.eq_1) := @swc _ _ c19_31.eq_1
def c19_32 : SC := (.seq (.reg [SO.mk (some 10) (.move (.const (Value.slice none 0 0))) none]) (.keep [2, 9, 10] c19_31))
theorem u19_32 : type_of% (@swc _ _ c19_32.eq_1) := @swc _ _ c19_32.eq_1
def c19_33 : SC := (.reg [SO.mk (some 36) (.move (.tmp 9)) none, SO.mk (some 37) (.bin .add 3 (.tmp 36) (.const (Value.int .i64 1))) none, SO.mk (some 9) (.move (.tmp 37)) none])
theorem u19_33 : type_of% (@swc _ _ c19_33.eq_1) := @swc _ _ c19_33.eq_1
def c19_34 : SC := (.seq (.block 1 (.seq (.seq (.dreg false o19_9 ((SO.mk (some 46) (.call 27 [(.tmp 44), (.tmp 45)]) (some (43 , false))) :: (SO.mk (some 47) (.pick (.tmp 43) (.const (Value.bool true)) (.tmp 46)) none) :: (SO.mk (some 48) (.move (.tmp 47)) none) :: (SO.mk (some 49) (.move (.tmp 7)) (some (48 , false))) :: o19_13)) (.keep [63, 7, 1, 2, 9] c19_14)) (.keep [2, 9] c19_32))) (.keep [9, 2, 1, 7] c19_33))
theorem u19_34 : type_of% (@swc _ _ c19_34.eq_1) := @swc _ _ c19_34.eq_1
def c19_35 : SC := (.seq (.seq (.reg [SO.mk (some 32) (.move (.tmp 9)) none, SO.mk (some 33) (.move (.tmp 1)) none, SO.mk (some 34) (.len 28 (.tmp 33)) none, SO.mk (some 35) (.bin .lss 3 (.tmp 32) (.tmp 34)) none]) (.keep [35, 9, 2, 1, 7] c19_7)) (.keep [7, 1, 2, 9] c19_34))
theorem u19_35 : type_of% (@swc _ _ c19_35.eq_1) := @swc _ _ c19_35.eq_1
def c19_36 : SC := (.block 0 (.loop (.keep [9, 2, 1, 7] c19_35)))
theorem u19_36 : type_of% (@swc _ _ c19_36.eq_1) := @swc _ _ c19_36.eq_1
def c19_37 : SC := (.seq (.reg [SO.mk (some 4) (.move (.const (Value.int .i64 0))) none, SO.mk (some 5) (.move (.const (Value.slice none 0 0))) none, SO.mk (some 6) (.move (.const (Value.int .i64 14))) none]) (.keep [4, 5, 6] .ret))
theorem u19_37 : type_of% (@swc _ _ c19_37.eq_1) := @swc _ _ c19_37.eq_1
def c19_38 : SC := (.seq (.seq (.reg [SO.mk (some 9) (.move (.const (Value.int .i64 0))) none]) (.keep [9, 2, 1, 7] c19_36)) (.keep [] c19_37))
theorem u19_38 : type_of% (@swc _ _ c19_38.eq_1) := @swc _ _ c19_38.eq_1
def c19_39 : SC := (.seq (.seq (.reg [SO.mk (some 29) (.move (.tmp 8)) none, SO.mk (some 30) (.bin .neq 31 (.tmp 29) (.const (Value.int .i64 0))) none]) (.keep [30, 8, 2, 1, 7] c19_6)) (.keep [2, 1, 7] c19_38))
theorem u19_39 : type_of% (@swc _ _ c19_39.eq_1) := @swc _ _ c19_39.eq_1
def c19_40 : SC := (.seq (.seq (.reg ((SO.mk (some 17) (.move (.tmp 8)) none) :: (SO.mk (some 18) (.bin .eql 31 (.tmp 17) (.const (Value.int .i64 0))) none) :: (SO.mk (some 19) (.move (.tmp 18)) none) :: (SO.mk (some 20) (.move (.tmp 1)) (some (19 , true))) :: o19_3)) (.keep [28, 8, 2, 1, 7] c19_4)) (.keep [8, 2, 1, 7] c19_39))
theorem u19_40 : type_of% (@swc _ _ c19_40.eq_1) := @swc _ _ c19_40.eq_1
def c19_41 : SC := (.seq (.reg ((SO.mk (some 13) (.load 30 (.tmp 2)) none) :: (SO.mk (some 14) (.call 12 [(.tmp 13)]) none) :: (SO.mk (some 12) (.move (.tmp 14)) none) :: (SO.mk (some 15) (.extract (.tmp 12) 0) none) :: o19_1)) (.keep [8, 2, 1, 7] c19_40))
theorem u19_41 : type_of% (@swc _ _ c19_41.eq_1) := @swc _ _ c19_41.eq_1
def c19 : SC := (.seq (.reg [SO.mk (some 2) (.box 30 (.tmp 0)) none, SO.mk (some 4) (.move (.const (Value.int .i64 0))) none, SO.mk (some 5) (.move (.const (Value.slice none 0 0))) none, SO.mk (some 6) (.move (.const (Value.int .i64 0))) none]) (.keep [2, 1] c19_41))
theorem c19_eq : annC Try.f19 = some c19 := by kernel_rfl
theorem r19 : Try.f19.results.toList = [.tmp 4, .tmp 5, .tmp 6] := by kernel_rfl
theorem e19 : enters Try.prog 19 = true := by kernel_rfl
end Go.Proofs.Yteaojhieghakfaa
namespace Go.Proofs.Yteaojhieghakfaa
open Go.RowKit
set_option maxHeartbeats 4000000
set_option maxRecDepth 20000
attribute [local irreducible] SW SWL SWLn SWD SEcall SEcallv SDv SE SO1 SOg ACalls ACallv Wk EndV
set_option linter.unusedSimpArgs false
set_option linter.unusedVariables false
theorem half_no1 {s : SttD} {l : List Int} {k : Nat} (h : (l[k]! == 0) = true) : halfOk s l k = false := by
  have h0 : l[k]! = 0 := by simpa using h
  unfold halfOk; rw [h0]; rfl
theorem half_no2 {s : SttD} {l : List Int} {k : Nat} (h : decide (idxD s.gone.length (pG s.gone (k : Int)) ≥ 0) = true) : halfOk s l k = false := by
  unfold halfOk; rw [h]; simp
theorem half_no3 {s : SttD} {l : List Int} {k : Nat} (h : decide (IntKind.i64.wrap (liveF s.vers (k : Int) + liveF s.vers (k : Int)) > l[k]!) = true) : halfOk s l k = false := by
  have h0 := of_decide_eq_true h
  unfold halfOk
  rw [show (2 : Int) * liveF s.vers (k : Int) = liveF s.vers (k : Int) + liveF s.vers (k : Int) by omega, decide_eq_false (p := IntKind.i64.wrap (liveF s.vers (k : Int) + liveF s.vers (k : Int)) ≤ l[k]!) (by omega)]
  simp
theorem half_yes {s : SttD} {l : List Int} {k : Nat} (ha : l.any outP = false) (hk : decide ((k : Int) < (l.length : Int)) = true) (h1 : (l[k]! == 0) = false) (h2 : decide (idxD s.gone.length (pG s.gone (k : Int)) ≥ 0) = false) (h3 : decide (IntKind.i64.wrap (liveF s.vers (k : Int) + liveF s.vers (k : Int)) > l[k]!) = false) : halfOk s l k = true := by
  have hk := ltS hk
  have h0 : outP l[k]! = false := by
    rw [List.any_eq_false] at ha
    simpa using ha l[k]! (by rw [getElem!_pos l k hk]; exact List.getElem_mem hk)
  unfold outP at h0
  simp only [Bool.or_eq_false_iff, decide_eq_false_iff_not] at h0
  have h1 := beq_eq_false_iff_ne.1 h1
  have h3 := of_decide_eq_false h3
  unfold halfOk
  rw [h2, show (2 : Int) * liveF s.vers (k : Int) = liveF s.vers (k : Int) + liveF s.vers (k : Int) by omega, decide_eq_true (p := l[k]! > 0) (by omega), decide_eq_true (p := IntKind.i64.wrap (liveF s.vers (k : Int) + liveF s.vers (k : Int)) ≤ l[k]!) (by omega)]
  rfl
theorem halfOf_p (s : SttD) (hfit : s.fit) (hm : Pure Try.prog 24 [s.av] (Bo (mayF s))) (l : List Int) : Pure Try.prog 19 [s.av, .d (ints l)] (halfV s l) := by
  refine pureZ_of follows Try.func19 c19_eq r19 (Nat.le_of_ble_eq_true rfl) fun B σ hcl hsz => ?_
  have hlen : l.length ≤ 2 ^ 47 := by simpa using (show Sized (ints l) from hsz (.d (ints l)) (by simp)).len
  obtain ⟨z1, z2, z3, z4, z5⟩ := st_sz5 (hsz s.av (by simp))
  clear hsz
  have hlive := liveOf_p s hm
  have hfv := hfit.v
  clear hm hfit
  have hal := allIn_p l
  have hgo := fun k : Nat => gone_p s (k : Int)
  unfold liveV at hlive
  unfold halfV
  generalize mayF s = b at hlive ⊢
  cases b
  · simp only [cond_false] at hlive ⊢
    repeat' (first | (simp -implicitDefEqProofs only [*, contN, contC, Nat.reduceBEq, Bool.or_false, Bool.or_true, Bool.false_or, Bool.true_or, Bool.not_true, Bool.not_false, w_skip, w_ret, w_exit, w_reg, w_dreg, w_seq, SK_n, SK_r, SK_x, w_keep, w_block, w_cond, w_nil, w_cons, w_consg, w_nnil, w_ncons, w_dnil, w_dcons, w_dconsg, HK_app, HD_app, HQ_n, HQ_r, HQ_x, HQ_bn, HQ_br, HQ_bx, HQ_en, HQ_er, HQ_ex, CondB_true, CondB_false, SO1, w_sdv, SDe_alloc, SDe_box, SDe_bslice, SDe_app, true_imp_iff, false_imp_iff, and_false, false_and, not_false_eq_true, not_true_eq_false, addN, mkNames, killT, killD, killO, List.foldl_nil, List.foldl_cons, List.append_nil, List.nil_append, List.cons_append, GuardS_true, GuardS_false, GuardD_true, GuardD_false, DK_true, DK_false, lt_self_add, le_self_add, decide_true, decide_false, Bool.false_eq_true, Bool.true_eq_false, Nat.add_left_cancel_iff, SE, SEalloc, SEbox, SEstore, w_bs, SEbl, SEfz, SEbs0, fzName, osOf, AV.fz1, w_app, w_mk, aev, opd, Fr.get, putO, Fr.norm, List.map_cons, List.map_nil, with1, with2, onInt, AV.lit, entry, ↓reduceIte, Nat.reduceEqDiff, Nat.reduceAdd, reduceCtorEq, true_and, and_true, Option.map_some, Option.map_none, Option.bind_some, Option.bind_none, cond_true, cond_false, binV, unV, fieldV, loadV, sto, cellsAV, newF, newL, Fr.map, Loc.kill, Loc.set, AO.kill, AV.kill, AV.mapN, AV.mapNL, List.filter_nil, List.filter_cons, allP, EndV, retV, resV, resL, frz, dropL, AV.pick, nilV, tupV, imp_self, ne_eq, Int.cast_ofNat_Int, Int.reduceLT, Int.reduceToNat, List.getD_cons_zero, List.getD_cons_succ, bsliceV, buildV, afill, repl, chunk, rvs, AV.rv, RV.nrm, List.getElem?_nil, List.append_assoc, Nat.reduceMul, Nat.reducePow, Nat.zero_lt_succ, Nat.zero_add, Nat.add_zero, List.length_cons, List.length_nil, Nat.reduceLeDiff, Nat.le_refl, List.take_succ_cons, List.take_zero, List.drop_succ_cons, List.drop_zero, indexV, lenV, rowOf_mapD, rowOf_mapI, rowOf_mapA, List.length_map, Int.toNat_natCast, List.getElem?_cons_zero, List.getElem?_cons_succ, and_self, implies_true, if_true, if_false, HQ_zn, HQ_zr, HQ_wn, HQ_wr, AV.nz, AV.nzL, RV.nrm, SEbin, SEnil, nilK, srcV, dstV, appName, List.length_append, Nat.mul_one, take_map_len, take_map_app, List.getElem?_cons_zero, List.map_append, SEmkmap, SEmset, mgetV, kvOf, getM, setM, c19, r19, v19_1, v19_2, v19_3, u19_4, u19_5, u19_6, u19_7, v19_8, v19_9, m19_9, v19_10, v19_11, v19_12, v19_13, u19_14, u19_15, v19_16, v19_17, v19_18, v19_19, v19_20, v19_21, v19_22, v19_23, u19_24, u19_25, u19_26, u19_27, u19_28, u19_29, u19_30, u19_31, u19_32, u19_33, u19_34, u19_35, u19_36, u19_37, u19_38, u19_39, u19_40, u19_41, ty30, ty31, ty28, ty3, ty25, ty57, SttD.av, SttD.cells, ints]) | (with_reducible refine And.intro ?_ ?_) | (refine call_ro e12 ( hlive) rfl ?_ ?_ ?_ ?_) | (refine gcall_ro e12 ( hlive) rfl ?_ ?_ ?_ ?_) | (refine dcall_ro e12 ( hlive) rfl ?_ ?_ ?_ ?_) | (refine gdcall_ro rfl e12 ( hlive) rfl ?_ ?_ ?_ ?_) | (refine EndX.plain ?_) | (refine nil_split (fun hn => ?_) (fun hn => ?_)) | (refine gcall_no not_false ?_) | (refine gdcall_no not_false ?_) | (refine GuardS_of _ _ _ _ _ _ (fun hg => ?_) (fun hg => ?_)) | (refine GuardD_of _ _ _ _ (fun hg => ?_) (fun hg => ?_)) | (refine CondB_of _ _ _ _ _ _ _ ?_ (fun hg => ?_) (fun hg => ?_)))
    all_goals (try (first | ((first | unfold noN | unfold Fr.below | unfold Loc.below); simp [Fr.allN, AV.allN, AV.allNL, AO.allN]; done) | rfl | trivial | assumption | (intro row hrow; simp only [List.mem_map] at hrow; obtain ⟨x, _, rfl⟩ := hrow; rfl) | (refine Wk.keep hcl ?_ ?_ ?_; (focus (simp [Fr.get, SttD.av, SttD.cells, ints] <;> fail)); (focus (simp [sto, SttD.av, SttD.cells, ints] <;> fail)); (focus (simp <;> fail))) | (simp [allP, opd, Fr.get, Fr.below, Fr.allN, AV.allN, AV.allNL, Loc.below, AO.allN, noN, killO, killT, killD, mkNames, AO.kill, AV.kill, AV.mapN, AV.mapNL]; done) | (with_reducible exact ltD (by assumption)) | omega | (simp only [decide_eq_true_eq, decide_eq_false_iff_not] at *; omega)))
  · simp only [cond_true] at hlive ⊢
    have hll := liveL_len s.vers 8
    have hlv : ∀ k : Nat, decide ((k : Int) < (l.length : Int)) = true → decide ((l.length : Int) > 8) = false → rowOf ((liveL s.vers 8).map int_) k = [RV.v (.int .i64 (liveF s.vers (k : Int)))] := fun k h1 h2 => by
      have h1 := ltS h1
      have h2 := of_decide_eq_false h2
      rw [rowOf_mapD int_ _ _ (decide_eq_true (by omega)), getElem!_pos _ k (by omega)]
      simp [liveL, int_]
    have hlb : ∀ k : Nat, decide ((k : Int) < (l.length : Int)) = true → decide ((l.length : Int) > 8) = false → ((k : Int) < ((8 : Nat) : Int)) = True := fun k h1 h2 => by
      have h1 := ltS h1
      have h2 := of_decide_eq_false h2
      exact eq_true (by omega)
    repeat' (first | (simp -implicitDefEqProofs only [*, contN, contC, Nat.reduceBEq, Bool.or_false, Bool.or_true, Bool.false_or, Bool.true_or, Bool.not_true, Bool.not_false, w_skip, w_ret, w_exit, w_reg, w_dreg, w_seq, SK_n, SK_r, SK_x, w_keep, w_block, w_cond, w_nil, w_cons, w_consg, w_nnil, w_ncons, w_dnil, w_dcons, w_dconsg, HK_app, HD_app, HQ_n, HQ_r, HQ_x, HQ_bn, HQ_br, HQ_bx, HQ_en, HQ_er, HQ_ex, CondB_true, CondB_false, SO1, w_sdv, SDe_alloc, SDe_box, SDe_bslice, SDe_app, true_imp_iff, false_imp_iff, and_false, false_and, not_false_eq_true, not_true_eq_false, addN, mkNames, killT, killD, killO, List.foldl_nil, List.foldl_cons, List.append_nil, List.nil_append, List.cons_append, GuardS_true, GuardS_false, GuardD_true, GuardD_false, DK_true, DK_false, lt_self_add, le_self_add, decide_true, decide_false, Bool.false_eq_true, Bool.true_eq_false, Nat.add_left_cancel_iff, SE, SEalloc, SEbox, SEstore, w_bs, SEbl, SEfz, SEbs0, fzName, osOf, AV.fz1, w_app, w_mk, aev, opd, Fr.get, putO, Fr.norm, List.map_cons, List.map_nil, with1, with2, onInt, AV.lit, entry, ↓reduceIte, Nat.reduceEqDiff, Nat.reduceAdd, reduceCtorEq, true_and, and_true, Option.map_some, Option.map_none, Option.bind_some, Option.bind_none, cond_true, cond_false, binV, unV, fieldV, loadV, sto, cellsAV, newF, newL, Fr.map, Loc.kill, Loc.set, AO.kill, AV.kill, AV.mapN, AV.mapNL, List.filter_nil, List.filter_cons, allP, EndV, retV, resV, resL, frz, dropL, AV.pick, nilV, tupV, imp_self, ne_eq, Int.cast_ofNat_Int, Int.reduceLT, Int.reduceToNat, List.getD_cons_zero, List.getD_cons_succ, bsliceV, buildV, afill, repl, chunk, rvs, AV.rv, RV.nrm, List.getElem?_nil, List.append_assoc, Nat.reduceMul, Nat.reducePow, Nat.zero_lt_succ, Nat.zero_add, Nat.add_zero, List.length_cons, List.length_nil, Nat.reduceLeDiff, Nat.le_refl, List.take_succ_cons, List.take_zero, List.drop_succ_cons, List.drop_zero, indexV, lenV, rowOf_mapD, rowOf_mapI, rowOf_mapA, List.length_map, Int.toNat_natCast, List.getElem?_cons_zero, List.getElem?_cons_succ, and_self, implies_true, if_true, if_false, HQ_zn, HQ_zr, HQ_wn, HQ_wr, AV.nz, AV.nzL, RV.nrm, SEbin, SEnil, nilK, srcV, dstV, appName, List.length_append, Nat.mul_one, take_map_len, take_map_app, List.getElem?_cons_zero, List.map_append, SEmkmap, SEmset, mgetV, kvOf, getM, setM, c19, r19, v19_1, v19_2, v19_3, u19_4, u19_5, u19_6, u19_7, v19_8, v19_9, m19_9, v19_10, v19_11, v19_12, v19_13, u19_14, u19_15, v19_16, v19_17, v19_18, v19_19, v19_20, v19_21, v19_22, v19_23, u19_24, u19_25, u19_26, u19_27, u19_28, u19_29, u19_30, u19_31, u19_32, u19_33, u19_34, u19_35, u19_36, u19_37, u19_38, u19_39, u19_40, u19_41, ty30, ty31, ty28, ty3, ty25, ty57, SttD.av, SttD.cells, ints, int_, VerD.row, idsK_0, idsK_end, hll, Bool.not_not]) | (with_reducible refine And.intro ?_ ?_) | (refine call_ro e12 ( hlive) rfl ?_ ?_ ?_ ?_) | (refine gcall_ro e12 ( hlive) rfl ?_ ?_ ?_ ?_) | (refine dcall_ro e12 ( hlive) rfl ?_ ?_ ?_ ?_) | (refine gdcall_ro rfl e12 ( hlive) rfl ?_ ?_ ?_ ?_) | (refine call_ro e25 ( hal) rfl ?_ ?_ ?_ ?_) | (refine gcall_ro e25 ( hal) rfl ?_ ?_ ?_ ?_) | (refine dcall_ro e25 ( hal) rfl ?_ ?_ ?_ ?_) | (refine gdcall_ro rfl e25 ( hal) rfl ?_ ?_ ?_ ?_) | (refine call_ro e27 ( hgo k) rfl ?_ ?_ ?_ ?_) | (refine gcall_ro e27 ( hgo k) rfl ?_ ?_ ?_ ?_) | (refine dcall_ro e27 ( hgo k) rfl ?_ ?_ ?_ ?_) | (refine gdcall_ro rfl e27 ( hgo k) rfl ?_ ?_ ?_ ?_) | (refine loop_nat (s.vers.length) (fun _ => True) (fun j => [(11, I j), (2, .lp (B + 2) 0), (9, I k), (10, .os (B + 105) (idsK s.vers (fun v => onV v (k : Int)) j).length)]) (fun j => [(B + 2, .box s.cells), (B + 105, .arr 1 3 ((idsK s.vers (fun v => onV v (k : Int)) j).map int_))]) ?_ (Wk.trans (Wk.nameF (s := 10) (n := B + 105) (k := 1) (E := 3) rfl (by omega) (.inl (by omega)) (fun m => AO.kill_below (q := fun m => decide (m < B)) (by simp) _ (hcl m).1)) (Wk.keep hcl ?_ ?_ ?_)) fun j hj hFj => ?_; rotate_left 1; (focus (simp [Fr.get, newF, Fr.map, AV.kill, AV.mapN, SttD.av, SttD.cells, ints, int_, VerD.row, idsK_0, idsK_end, hll, Bool.not_not] <;> fail)); (focus (simp [sto, newL, Loc.kill, Loc.set, AO.kill, AV.kill, AV.mapN, SttD.av, SttD.cells, ints, int_, VerD.row, idsK_0, idsK_end, hll, Bool.not_not] <;> fail)); (focus (simp [newL, Loc.kill, Loc.set, SttD.av, SttD.cells, ints, int_, VerD.row, idsK_0, idsK_end, hll, Bool.not_not] <;> fail)); (try have hwj : IntKind.i64.wrap ((j : Int) + 1) = (j : Int) + 1 := IntWalk.i64_in _ (by omega))) | (refine loop_nat (l.length) (fun k => ∀ i, i < k → halfOk s l i = false) (fun k => [(9, I k), (2, .lp (B + 2) 0), (1, .d (.ro (l.map int_))), (7, .d (.ro ((liveL s.vers 8).map int_)))]) (fun k => [(B + 2, .box s.cells)]) ?_ (Wk.keep hcl ?_ ?_ ?_) fun k hk hF => ?_; rotate_left 1; (focus (simp [Fr.get, newF, Fr.map, AV.kill, AV.mapN, SttD.av, SttD.cells, ints, int_, VerD.row, idsK_0, idsK_end, hll, Bool.not_not] <;> fail)); (focus (simp [sto, newL, Loc.kill, Loc.set, AO.kill, AV.kill, AV.mapN, SttD.av, SttD.cells, ints, int_, VerD.row, idsK_0, idsK_end, hll, Bool.not_not] <;> fail)); (focus (simp [newL, Loc.kill, Loc.set, SttD.av, SttD.cells, ints, int_, VerD.row, idsK_0, idsK_end, hll, Bool.not_not] <;> fail)); (try have hw : IntKind.i64.wrap ((k : Int) + 1) = (k : Int) + 1 := IntWalk.i64_in _ (by omega))) | (refine EndX.plain ?_) | (refine nil_split (fun hn => ?_) (fun hn => ?_)) | (refine gcall_no not_false ?_) | (refine gdcall_no not_false ?_) | (refine GuardS_of _ _ _ _ _ _ (fun hg => ?_) (fun hg => ?_)) | (refine GuardD_of _ _ _ _ (fun hg => ?_) (fun hg => ?_)) | (refine CondB_of _ _ _ _ _ _ _ ?_ (fun hg => ?_) (fun hg => ?_)))
    all_goals (try (first | ((first | unfold noN | unfold Fr.below | unfold Loc.below); simp [Fr.allN, AV.allN, AV.allNL, AO.allN]; done) | rfl | trivial | assumption | (intro row hrow; simp only [List.mem_map] at hrow; obtain ⟨x, _, rfl⟩ := hrow; rfl) | (refine Wk.keep hcl ?_ ?_ ?_; (focus (simp [Fr.get, SttD.av, SttD.cells, ints, int_, VerD.row, idsK_0, idsK_end, hll, Bool.not_not] <;> fail)); (focus (simp [sto, SttD.av, SttD.cells, ints, int_, VerD.row, idsK_0, idsK_end, hll, Bool.not_not] <;> fail)); (focus (simp <;> fail))) | (simp [allP, opd, Fr.get, Fr.below, Fr.allN, AV.allN, AV.allNL, Loc.below, AO.allN, noN, killO, killT, killD, mkNames, AO.kill, AV.kill, AV.mapN, AV.mapNL]; done) | (with_reducible exact ltD (by assumption)) | omega | (simp only [decide_eq_true_eq, decide_eq_false_iff_not] at *; omega)))
    all_goals first
      | (refine allN' hF (half_no1 ?_); assumption; done)
      | (refine allN' hF (half_no2 ?_); assumption; done)
      | (refine allN' hF (half_no3 ?_); assumption; done)
      | (have hl := idsK_len s.vers (fun v => onV v (k : Int)) j
         have hj2 := ltS (by assumption : decide ((j : Int) < (s.vers.length : Int)) = true)
         omega)
      | (have hj2 := ltS (by assumption : decide ((j : Int) < (s.vers.length : Int)) = true)
         first
         | (rw [idsK_yes (p := fun v => onV v (k : Int)) hj2]
            · refine Wk.keep hcl ?_ ?_ ?_
              · simp [Fr.get]
              · simp [sto, SttD.cells, ints, int_]
              · simp
            · simp only [onV, onTape, *, Bool.false_or, Bool.true_or, Bool.or_true, Bool.or_false, Bool.and_true, Bool.true_and, Bool.false_and, Bool.and_false, Bool.not_true, Bool.not_false, cond_true, cond_false]; done)
         | (rw [idsK_no (p := fun v => onV v (k : Int)) hj2]
            · refine Wk.keep hcl ?_ ?_ ?_
              · simp [Fr.get]
              · simp [sto, SttD.cells, ints, int_]
              · simp
            · simp only [onV, onTape, *, Bool.false_or, Bool.true_or, Bool.or_true, Bool.or_false, Bool.and_true, Bool.true_and, Bool.false_and, Bool.and_false, Bool.not_true, Bool.not_false, cond_true, cond_false]; done))
      | (have hk2 : halfOk s l k = true := half_yes (by assumption) (by assumption) (by assumption) (by assumption) (by assumption)
         have e : halfI s l = k := idxD_some (by assumption : decide ((k : Int) < (l.length : Int)) = true) hk2 hF
         have e2 : decide ((k : Int) < 0) = false := by simp
         simp only [e, e2, cond_false]; done)
      | (have e : halfI s l = -1 := idxD_none (by assumption : decide ((k : Int) < (l.length : Int)) = false) hF
         rw [e]; rfl)
end Go.Proofs.Yteaojhieghakfaa
