/- The eye's record. -/
import Derived.Test.YtijpmidnclbhpaaDoorKFV
import Derived.Test.YtijpmidnclbhpaaDoorKR
import Derived.Test.YtijpmidnclbhpaaDoorTypes
namespace Go.Proofs.YtijpmidnclbhpaaDoor
open Go.RowKit
set_option maxRecDepth 100000
def o25_1 : List SO := ((SO.mk (some 16) (.call 17 [(.tmp 15), (.const (Value.int .i64 1)), (.const (Value.int .i64 14))]) (some (13 , true))) :: (SO.mk (some 17) (.un .not (.tmp 16)) (some (13 , true))) :: (SO.mk (some 18) (.pick (.tmp 13) (.tmp 17) (.const (Value.bool false))) none) :: [])
theorem v25_1 : type_of% (@swl _ _ o25_1.eq_1) := @swl _ _ o25_1.eq_1
def o25_2 : List SO := ((SO.mk (some 12) (.bin .eql 33 (.tmp 11) (.const (Value.int .i64 0))) none) :: (SO.mk (some 13) (.move (.tmp 12)) none) :: (SO.mk (some 14) (.faddr 32 (.tmp 3) 0) (some (13 , true))) :: (SO.mk (some 15) (.load 3 (.tmp 14)) (some (13 , true))) :: o25_1)
theorem v25_2 : type_of% (@swl _ _ o25_2.eq_1) := @swl _ _ o25_2.eq_1
def c25_3 : SC := (.reg [SO.mk (some 19) (.move (.tmp 0)) none, SO.mk (some 20) (.nilCheck (.tmp 19)) none, SO.mk (some 21) (.faddr 58 (.tmp 20) 2) none, SO.mk none (.store 33 (.tmp 21) (.const (Value.int .i64 3))) none])
theorem u25_3 : type_of% (@swc _ _ c25_3.eq_1) := @swc _ _ c25_3.eq_1
def c25_4 : SC := (.cond (.tmp 18) c25_3 .skip)
theorem u25_4 : type_of% (@swc _ _ c25_4.eq_1) := @swc _ _ c25_4.eq_1
def c25_5 : SC := (.seq (.reg [SO.mk (some 27) (.build 32 []) none, SO.mk none (.store 32 (.tmp 2) (.tmp 27)) none]) (.keep [2] .ret))
theorem u25_5 : type_of% (@swc _ _ c25_5.eq_1) := @swc _ _ c25_5.eq_1
def c25_6 : SC := (.cond (.tmp 26) c25_5 .skip)
theorem u25_6 : type_of% (@swc _ _ c25_6.eq_1) := @swc _ _ c25_6.eq_1
def c25_7 : SC := (.reg [SO.mk (some 35) (.move (.tmp 0)) none, SO.mk (some 36) (.call 44 [(.tmp 35)]) none, SO.mk (some 37) (.faddr 32 (.tmp 3) 3) none, SO.mk none (.store 9 (.tmp 37) (.tmp 36)) none])
theorem u25_7 : type_of% (@swc _ _ c25_7.eq_1) := @swc _ _ c25_7.eq_1
def c25_8 : SC := (.reg [SO.mk (some 43) (.move (.tmp 0)) none, SO.mk (some 44) (.call 24 [(.tmp 43), (.const (Value.int .i64 4))]) none, SO.mk (some 45) (.faddr 32 (.tmp 3) 2) none, SO.mk none (.store 3 (.tmp 45) (.tmp 44)) none])
theorem u25_8 : type_of% (@swc _ _ c25_8.eq_1) := @swc _ _ c25_8.eq_1
def c25_9 : SC := (.seq (.reg [SO.mk (some 40) (.move (.tmp 0)) none, SO.mk (some 41) (.call 44 [(.tmp 40)]) none, SO.mk (some 42) (.faddr 32 (.tmp 3) 3) none, SO.mk none (.store 9 (.tmp 42) (.tmp 41)) none]) (.keep [0, 3, 2] c25_8))
theorem u25_9 : type_of% (@swc _ _ c25_9.eq_1) := @swc _ _ c25_9.eq_1
def c25_10 : SC := (.reg [SO.mk (some 51) (.move (.tmp 0)) none, SO.mk (some 52) (.call 45 [(.tmp 51)]) none, SO.mk (some 53) (.faddr 32 (.tmp 3) 5) none, SO.mk none (.store 23 (.tmp 53) (.tmp 52)) none])
theorem u25_10 : type_of% (@swc _ _ c25_10.eq_1) := @swc _ _ c25_10.eq_1
def c25_11 : SC := (.seq (.reg [SO.mk (some 48) (.move (.tmp 0)) none, SO.mk (some 49) (.call 44 [(.tmp 48)]) none, SO.mk (some 50) (.faddr 32 (.tmp 3) 3) none, SO.mk none (.store 9 (.tmp 50) (.tmp 49)) none]) (.keep [0, 3, 2] c25_10))
theorem u25_11 : type_of% (@swc _ _ c25_11.eq_1) := @swc _ _ c25_11.eq_1
def c25_12 : SC := (.reg [SO.mk (some 56) (.move (.tmp 0)) none, SO.mk (some 57) (.call 46 [(.tmp 56)]) none, SO.mk (some 58) (.faddr 32 (.tmp 3) 6) none, SO.mk none (.store 26 (.tmp 58) (.tmp 57)) none])
theorem u25_12 : type_of% (@swc _ _ c25_12.eq_1) := @swc _ _ c25_12.eq_1
def c25_13 : SC := (.reg [SO.mk (some 67) (.move (.tmp 0)) none, SO.mk (some 68) (.call 24 [(.tmp 67), (.const (Value.int .i64 2))]) none, SO.mk (some 69) (.faddr 32 (.tmp 3) 11) none, SO.mk none (.store 3 (.tmp 69) (.tmp 68)) none])
theorem u25_13 : type_of% (@swc _ _ c25_13.eq_1) := @swc _ _ c25_13.eq_1
def c25_14 : SC := (.seq (.reg [SO.mk (some 64) (.move (.tmp 0)) none, SO.mk (some 65) (.call 24 [(.tmp 64), (.const (Value.int .i64 1))]) none, SO.mk (some 66) (.faddr 32 (.tmp 3) 10) none, SO.mk none (.store 3 (.tmp 66) (.tmp 65)) none]) (.keep [0, 3, 2] c25_13))
theorem u25_14 : type_of% (@swc _ _ c25_14.eq_1) := @swc _ _ c25_14.eq_1
def c25_15 : SC := (.seq (.reg [SO.mk (some 61) (.move (.tmp 0)) none, SO.mk (some 62) (.call 24 [(.tmp 61), (.const (Value.int .i64 3))]) none, SO.mk (some 63) (.faddr 32 (.tmp 3) 1) none, SO.mk none (.store 3 (.tmp 63) (.tmp 62)) none]) (.keep [0, 3, 2] c25_14))
theorem u25_15 : type_of% (@swc _ _ c25_15.eq_1) := @swc _ _ c25_15.eq_1
def c25_16 : SC := (.reg [SO.mk (some 72) (.move (.tmp 0)) none, SO.mk (some 73) (.call 47 [(.tmp 72)]) none, SO.mk (some 74) (.faddr 32 (.tmp 3) 7) none, SO.mk none (.store 28 (.tmp 74) (.tmp 73)) none])
theorem u25_16 : type_of% (@swc _ _ c25_16.eq_1) := @swc _ _ c25_16.eq_1
def c25_17 : SC := (.reg [SO.mk (some 83) (.move (.tmp 0)) none, SO.mk (some 84) (.call 48 [(.tmp 83)]) none, SO.mk (some 85) (.faddr 32 (.tmp 3) 9) none, SO.mk none (.store 24 (.tmp 85) (.tmp 84)) none])
theorem u25_17 : type_of% (@swc _ _ c25_17.eq_1) := @swc _ _ c25_17.eq_1
def c25_18 : SC := (.seq (.reg [SO.mk (some 80) (.move (.tmp 0)) none, SO.mk (some 81) (.call 24 [(.tmp 80), (.const (Value.int .i64 4))]) none, SO.mk (some 82) (.faddr 32 (.tmp 3) 2) none, SO.mk none (.store 3 (.tmp 82) (.tmp 81)) none]) (.keep [0, 3, 2] c25_17))
theorem u25_18 : type_of% (@swc _ _ c25_18.eq_1) := @swc _ _ c25_18.eq_1
def c25_19 : SC := (.seq (.reg [SO.mk (some 77) (.move (.tmp 0)) none, SO.mk (some 78) (.call 24 [(.tmp 77), (.const (Value.int .i64 3))]) none, SO.mk (some 79) (.faddr 32 (.tmp 3) 1) none, SO.mk none (.store 3 (.tmp 79) (.tmp 78)) none]) (.keep [0, 3, 2] c25_18))
theorem u25_19 : type_of% (@swc _ _ c25_19.eq_1) := @swc _ _ c25_19.eq_1
def c25_20 : SC := (.reg [SO.mk (some 94) (.move (.tmp 0)) none, SO.mk (some 95) (.call 44 [(.tmp 94)]) none, SO.mk (some 96) (.faddr 32 (.tmp 3) 4) none, SO.mk none (.store 9 (.tmp 96) (.tmp 95)) none])
theorem u25_20 : type_of% (@swc _ _ c25_20.eq_1) := @swc _ _ c25_20.eq_1
def c25_21 : SC := (.seq (.reg [SO.mk (some 91) (.move (.tmp 0)) none, SO.mk (some 92) (.call 44 [(.tmp 91)]) none, SO.mk (some 93) (.faddr 32 (.tmp 3) 3) none, SO.mk none (.store 9 (.tmp 93) (.tmp 92)) none]) (.keep [0, 3, 2] c25_20))
theorem u25_21 : type_of% (@swc _ _ c25_21.eq_1) := @swc _ _ c25_21.eq_1
def c25_22 : SC := (.seq (.reg [SO.mk (some 88) (.move (.tmp 0)) none, SO.mk (some 89) (.call 24 [(.tmp 88), (.const (Value.int .i64 3))]) none, SO.mk (some 90) (.faddr 32 (.tmp 3) 1) none, SO.mk none (.store 3 (.tmp 90) (.tmp 89)) none]) (.keep [0, 3, 2] c25_21))
theorem u25_22 : type_of% (@swc _ _ c25_22.eq_1) := @swc _ _ c25_22.eq_1
def c25_23 : SC := (.reg [SO.mk (some 102) (.move (.tmp 0)) none, SO.mk (some 103) (.call 49 [(.tmp 102)]) none, SO.mk (some 104) (.faddr 32 (.tmp 3) 8) none, SO.mk none (.store 30 (.tmp 104) (.tmp 103)) none])
theorem u25_23 : type_of% (@swc _ _ c25_23.eq_1) := @swc _ _ c25_23.eq_1
def c25_24 : SC := (.seq (.reg [SO.mk (some 99) (.move (.tmp 0)) none, SO.mk (some 100) (.call 24 [(.tmp 99), (.const (Value.int .i64 3))]) none, SO.mk (some 101) (.faddr 32 (.tmp 3) 1) none, SO.mk none (.store 3 (.tmp 101) (.tmp 100)) none]) (.keep [0, 3, 2] c25_23))
theorem u25_24 : type_of% (@swc _ _ c25_24.eq_1) := @swc _ _ c25_24.eq_1
def c25_25 : SC := (.reg [SO.mk (some 107) (.move (.tmp 0)) none, SO.mk (some 108) (.call 24 [(.tmp 107), (.const (Value.int .i64 4))]) none, SO.mk (some 109) (.faddr 32 (.tmp 3) 2) none, SO.mk none (.store 3 (.tmp 109) (.tmp 108)) none])
theorem u25_25 : type_of% (@swc _ _ c25_25.eq_1) := @swc _ _ c25_25.eq_1
def c25_26 : SC := (.reg [SO.mk (some 112) (.move (.tmp 0)) none, SO.mk (some 113) (.call 24 [(.tmp 112), (.const (Value.int .i64 1))]) none, SO.mk (some 114) (.faddr 32 (.tmp 3) 10) none, SO.mk none (.store 3 (.tmp 114) (.tmp 113)) none])
theorem u25_26 : type_of% (@swc _ _ c25_26.eq_1) := @swc _ _ c25_26.eq_1
def c25_27 : SC := (.reg [SO.mk (some 30) (.move (.tmp 0)) none, SO.mk (some 31) (.call 24 [(.tmp 30), (.const (Value.int .i64 3))]) none, SO.mk (some 32) (.faddr 32 (.tmp 3) 1) none, SO.mk none (.store 3 (.tmp 32) (.tmp 31)) none])
theorem u25_27 : type_of% (@swc _ _ c25_27.eq_1) := @swc _ _ c25_27.eq_1
def c25_28 : SC := (.cond (.tmp 110) c25_26 c25_27)
theorem u25_28 : type_of% (@swc _ _ c25_28.eq_1) := @swc _ _ c25_28.eq_1
def c25_29 : SC := (.seq (.reg [SO.mk (some 111) (.bin .eql 3 (.tmp 29) (.const (Value.int .i64 14))) none, SO.mk (some 110) (.move (.tmp 111)) none]) (.keep [110, 0, 3, 2] c25_28))
theorem u25_29 : type_of% (@swc _ _ c25_29.eq_1) := @swc _ _ c25_29.eq_1
def c25_30 : SC := (.cond (.tmp 105) c25_25 c25_29)
theorem u25_30 : type_of% (@swc _ _ c25_30.eq_1) := @swc _ _ c25_30.eq_1
def c25_31 : SC := (.seq (.reg [SO.mk (some 106) (.bin .eql 3 (.tmp 29) (.const (Value.int .i64 13))) none, SO.mk (some 105) (.move (.tmp 106)) none]) (.keep [105, 29, 0, 3, 2] c25_30))
theorem u25_31 : type_of% (@swc _ _ c25_31.eq_1) := @swc _ _ c25_31.eq_1
def c25_32 : SC := (.cond (.tmp 97) c25_24 c25_31)
theorem u25_32 : type_of% (@swc _ _ c25_32.eq_1) := @swc _ _ c25_32.eq_1
def c25_33 : SC := (.seq (.reg [SO.mk (some 98) (.bin .eql 3 (.tmp 29) (.const (Value.int .i64 11))) none, SO.mk (some 97) (.move (.tmp 98)) none]) (.keep [97, 29, 0, 3, 2] c25_32))
theorem u25_33 : type_of% (@swc _ _ c25_33.eq_1) := @swc _ _ c25_33.eq_1
def c25_34 : SC := (.cond (.tmp 86) c25_22 c25_33)
theorem u25_34 : type_of% (@swc _ _ c25_34.eq_1) := @swc _ _ c25_34.eq_1
def c25_35 : SC := (.seq (.reg [SO.mk (some 87) (.bin .eql 3 (.tmp 29) (.const (Value.int .i64 10))) none, SO.mk (some 86) (.move (.tmp 87)) none]) (.keep [86, 29, 0, 3, 2] c25_34))
theorem u25_35 : type_of% (@swc _ _ c25_35.eq_1) := @swc _ _ c25_35.eq_1
def c25_36 : SC := (.cond (.tmp 75) c25_19 c25_35)
theorem u25_36 : type_of% (@swc _ _ c25_36.eq_1) := @swc _ _ c25_36.eq_1
def c25_37 : SC := (.seq (.reg [SO.mk (some 76) (.bin .eql 3 (.tmp 29) (.const (Value.int .i64 8))) none, SO.mk (some 75) (.move (.tmp 76)) none]) (.keep [75, 29, 0, 3, 2] c25_36))
theorem u25_37 : type_of% (@swc _ _ c25_37.eq_1) := @swc _ _ c25_37.eq_1
def c25_38 : SC := (.cond (.tmp 70) c25_16 c25_37)
theorem u25_38 : type_of% (@swc _ _ c25_38.eq_1) := @swc _ _ c25_38.eq_1
def c25_39 : SC := (.seq (.reg [SO.mk (some 71) (.bin .eql 3 (.tmp 29) (.const (Value.int .i64 7))) none, SO.mk (some 70) (.move (.tmp 71)) none]) (.keep [70, 29, 0, 3, 2] c25_38))
theorem u25_39 : type_of% (@swc _ _ c25_39.eq_1) := @swc _ _ c25_39.eq_1
def c25_40 : SC := (.cond (.tmp 59) c25_15 c25_39)
theorem u25_40 : type_of% (@swc _ _ c25_40.eq_1) := @swc _ _ c25_40.eq_1
def c25_41 : SC := (.seq (.reg [SO.mk (some 60) (.bin .eql 3 (.tmp 29) (.const (Value.int .i64 6))) none, SO.mk (some 59) (.move (.tmp 60)) none]) (.keep [59, 29, 0, 3, 2] c25_40))
theorem u25_41 : type_of% (@swc _ _ c25_41.eq_1) := @swc _ _ c25_41.eq_1
def c25_42 : SC := (.cond (.tmp 54) c25_12 c25_41)
theorem u25_42 : type_of% (@swc _ _ c25_42.eq_1) := @swc _ _ c25_42.eq_1
def c25_43 : SC := (.seq (.reg [SO.mk (some 55) (.bin .eql 3 (.tmp 29) (.const (Value.int .i64 4))) none, SO.mk (some 54) (.move (.tmp 55)) none]) (.keep [54, 29, 0, 3, 2] c25_42))
theorem u25_43 : type_of% (@swc _ _ c25_43.eq_1) := @swc _ _ c25_43.eq_1
def c25_44 : SC := (.cond (.tmp 46) c25_11 c25_43)
theorem u25_44 : type_of% (@swc _ _ c25_44.eq_1) := @swc _ _ c25_44.eq_1
def c25_45 : SC := (.seq (.reg [SO.mk (some 47) (.bin .eql 3 (.tmp 29) (.const (Value.int .i64 3))) none, SO.mk (some 46) (.move (.tmp 47)) none]) (.keep [46, 29, 0, 3, 2] c25_44))
theorem u25_45 : type_of% (@swc _ _ c25_45.eq_1) := @swc _ _ c25_45.eq_1
def c25_46 : SC := (.cond (.tmp 38) c25_9 c25_45)
theorem u25_46 : type_of% (@swc _ _ c25_46.eq_1) := @swc _ _ c25_46.eq_1
def c25_47 : SC := (.seq (.reg [SO.mk (some 39) (.bin .eql 3 (.tmp 29) (.const (Value.int .i64 2))) none, SO.mk (some 38) (.move (.tmp 39)) none]) (.keep [38, 29, 0, 3, 2] c25_46))
theorem u25_47 : type_of% (@swc _ _ c25_47.eq_1) := @swc _ _ c25_47.eq_1
def c25_48 : SC := (.cond (.tmp 33) c25_7 c25_47)
theorem u25_48 : type_of% (@swc _ _ c25_48.eq_1) := @swc _ _ c25_48.eq_1
def c25_49 : SC := (.block 0 (.seq (.reg [SO.mk (some 34) (.bin .eql 3 (.tmp 29) (.const (Value.int .i64 1))) none, SO.mk (some 33) (.move (.tmp 34)) none]) (.keep [33, 29, 0, 3, 2] c25_48)))
theorem u25_49 : type_of% (@swc _ _ c25_49.eq_1) := @swc _ _ c25_49.eq_1
def c25_50 : SC := (.seq (.reg [SO.mk (some 115) (.load 32 (.tmp 3)) none, SO.mk none (.store 32 (.tmp 2) (.tmp 115)) none]) (.keep [2] .ret))
theorem u25_50 : type_of% (@swc _ _ c25_50.eq_1) := @swc _ _ c25_50.eq_1
def c25_51 : SC := (.seq (.seq (.reg [SO.mk (some 28) (.faddr 32 (.tmp 3) 0) none, SO.mk (some 29) (.load 3 (.tmp 28)) none]) (.keep [29, 0, 3, 2] c25_49)) (.keep [3, 2] c25_50))
theorem u25_51 : type_of% (@swc _ _ c25_51.eq_1) := @swc _ _ c25_51.eq_1
def c25_52 : SC := (.seq (.seq (.reg [SO.mk (some 22) (.move (.tmp 0)) none, SO.mk (some 23) (.nilCheck (.tmp 22)) none, SO.mk (some 24) (.faddr 58 (.tmp 23) 2) none, SO.mk (some 25) (.load 33 (.tmp 24)) none, SO.mk (some 26) (.bin .neq 33 (.tmp 25) (.const (Value.int .i64 0))) none]) (.keep [26, 0, 3, 2] c25_6)) (.keep [0, 3, 2] c25_51))
theorem u25_52 : type_of% (@swc _ _ c25_52.eq_1) := @swc _ _ c25_52.eq_1
def c25_53 : SC := (.seq (.seq (.reg ((SO.mk (some 8) (.move (.tmp 0)) none) :: (SO.mk (some 9) (.nilCheck (.tmp 8)) none) :: (SO.mk (some 10) (.faddr 58 (.tmp 9) 2) none) :: (SO.mk (some 11) (.load 33 (.tmp 10)) none) :: o25_2)) (.keep [18, 0, 3, 2] c25_4)) (.keep [0, 3, 2] c25_52))
theorem u25_53 : type_of% (@swc _ _ c25_53.eq_1) := @swc _ _ c25_53.eq_1
def c25_54 : SC := (.seq (.reg [SO.mk (some 5) (.move (.tmp 0)) none, SO.mk (some 6) (.call 24 [(.tmp 5), (.const (Value.int .i64 1))]) none, SO.mk (some 7) (.faddr 32 (.tmp 3) 0) none, SO.mk none (.store 3 (.tmp 7) (.tmp 6)) none]) (.keep [0, 3, 2] c25_53))
theorem u25_54 : type_of% (@swc _ _ c25_54.eq_1) := @swc _ _ c25_54.eq_1
def c25_55 : SC := (.seq (.reg [SO.mk (some 4) (.build 32 []) none, SO.mk (some 3) (.alloc 32) none, SO.mk none (.store 32 (.tmp 3) (.tmp 4)) none]) (.keep [0, 3, 2] c25_54))
theorem u25_55 : type_of% (@swc _ _ c25_55.eq_1) := @swc _ _ c25_55.eq_1
def c25 : SC := (.seq (.reg [SO.mk (some 2) (.alloc 32) none]) (.keep [0, 2] c25_55))
theorem c25_eq : annC Tryd.f25 = some c25 := by kernel_rfl
theorem r25 : Tryd.f25.results.toList = [.cell 2 32] := by kernel_rfl
theorem e25 : enters Tryd.prog 25 = true := by kernel_rfl
end Go.Proofs.YtijpmidnclbhpaaDoor
namespace Go.Proofs.YtijpmidnclbhpaaDoor
open Go.RowKit
set_option maxHeartbeats 4000000
set_option maxRecDepth 20000
attribute [local irreducible] SW SWL SWLn SWD SEcall SEcallv SDv SE SO1 SOg ACalls ACallv Wk EndV
set_option linter.unusedSimpArgs false
set_option linter.unusedVariables false
attribute [local irreducible] takS textS bitS intsS takN textN bitN intsN ruleS askS partS verS inR
theorem rec_LA  : Looks Tryd.prog 25 [] (fun s => (recN s).raw) (fun s => recS s) (fun s => ((takS s 1).2 == 0) = false) := by
  intro B σ n bb b e hn hσ hx hbb hp
  refine own_ofL [(n, eyO bb b e)] (hid1_sto hσ) hid1_closed follows Tryd.func25 c25_eq r25 (Nat.le_of_ble_eq_true rfl) fun hcl hsz => ?_
  clear hsz
  have y1 : ∀ s, (n = B + s) = False := fun s => by simp; omega
  have y2 : ∀ s, (B + s = n) = False := fun s => by simp; omega
  have y3 : (n < B) = True := eq_true hn
  have y4 : decide (n < B) = true := by simpa using hn
  have y5 : decide (n < B + 100000) = true := by simp; omega
  have h0 : ((takS (b, e) 1).2 == 0) = false := hp
  have h6 : ((takS (b, e) 1).2 != 0) = true := by rw [bne, h0]; rfl
  have hN := rec_no h0
  clear hσ hp
  repeat' (first | (simp -implicitDefEqProofs only [*, contN, contC, Nat.reduceBEq, Bool.or_false, Bool.or_true, Bool.false_or, Bool.true_or, Bool.not_true, Bool.not_false, w_skip, w_ret, w_exit, w_reg, w_dreg, w_seq, SK_n, SK_r, SK_x, w_keep, w_block, w_cond, w_nil, w_cons, w_consg, w_nnil, w_ncons, w_dnil, w_dcons, w_dconsg, HK_app, HD_app, HQ_n, HQ_r, HQ_x, HQ_bn, HQ_br, HQ_bx, HQ_en, HQ_er, HQ_ex, CondB_true, CondB_false, SO1, w_sdv, SDe_alloc, SDe_box, SDe_bslice, SDe_app, true_imp_iff, false_imp_iff, and_false, false_and, not_false_eq_true, not_true_eq_false, addN, mkNames, killT, killD, killO, List.foldl_nil, List.foldl_cons, List.append_nil, List.nil_append, List.cons_append, GuardS_true, GuardS_false, GuardD_true, GuardD_false, DK_true, DK_false, lt_self_add, le_self_add, decide_true, decide_false, Bool.false_eq_true, Bool.true_eq_false, Nat.add_left_cancel_iff, SE, SEalloc, SEbox, SEstore, w_bs, SEbl, SEfz, SEbs0, fzName, osOf, AV.fz1, w_app, w_mk, aev, opd, Fr.get, putO, Fr.norm, List.map_cons, List.map_nil, with1, with2, onInt, AV.lit, entry, ↓reduceIte, Nat.reduceEqDiff, Nat.reduceAdd, reduceCtorEq, true_and, and_true, Option.map_some, Option.map_none, Option.bind_some, Option.bind_none, cond_true, cond_false, binV, unV, fieldV, loadV, sto, cellsAV, newF, newL, Fr.map, Loc.kill, Loc.set, AV.kill, AV.mapN, AV.mapNL, List.filter_nil, List.filter_cons, allP, EndV, retV, resV, resL, frz, dropL, AV.pick, nilV, tupV, imp_self, ne_eq, Int.cast_ofNat_Int, Int.reduceLT, Int.reduceToNat, List.getD_cons_zero, List.getD_cons_succ, bsliceV, buildV, afill, repl, chunk, rvs, AV.rv, RV.nrm, List.getElem?_nil, List.append_assoc, Nat.reduceMul, Nat.reducePow, Nat.zero_lt_succ, Nat.zero_add, Nat.add_zero, List.length_cons, List.length_nil, Nat.reduceLeDiff, Nat.le_refl, List.take_succ_cons, List.take_zero, List.drop_succ_cons, List.drop_zero, indexV, lenV, rowOf_mapD, rowOf_mapI, rowOf_mapA, List.length_map, Int.toNat_natCast, List.getElem?_cons_zero, List.getElem?_cons_succ, and_self, implies_true, if_true, if_false, HQ_zn, HQ_zr, HQ_wn, HQ_wr, AV.nz, AV.nzL, RV.nrm, SEbin, SEnil, nilK, srcV, dstV, appName, List.length_append, Nat.mul_one, take_map_len, take_map_app, List.getElem?_cons_zero, List.map_append, SEmkmap, SEmset, mgetV, kvOf, getM, setM, c25, r25, v25_1, v25_2, u25_3, u25_4, u25_5, u25_6, u25_7, u25_8, u25_9, u25_10, u25_11, u25_12, u25_13, u25_14, u25_15, u25_16, u25_17, u25_18, u25_19, u25_20, u25_21, u25_22, u25_23, u25_24, u25_25, u25_26, u25_27, u25_28, u25_29, u25_30, u25_31, u25_32, u25_33, u25_34, u25_35, u25_36, u25_37, u25_38, u25_39, u25_40, u25_41, u25_42, u25_43, u25_44, u25_45, u25_46, u25_47, u25_48, u25_49, u25_50, u25_51, u25_52, u25_53, u25_54, u25_55, ty32, ty3, ty58, ty33, ty9, ty23, ty26, ty28, ty24, ty30, aokB, aokD, aokA, ↓eyO_allN, ↓eyO_kill, y1, y2, y3, y4, y5, prEta, Int.reduceBEq, Int.reduceBNe]) | (with_reducible refine And.intro ?_ ?_) | (refine call_e0 (d := some 6) (by omega) e24 ( num_L 1 (by decide)) rfl ?_ ?_ hbb ?_ ?_ ?_ ?_ ?_) | (refine call_e1 (d := some 6) (by omega) e24 ( num_L 1 (by decide)) rfl ?_ ?_ hbb ?_ ?_ ?_ ?_ ?_) | (refine call_e2 (d := some 6) (by omega) e24 ( num_L 1 (by decide)) rfl ?_ ?_ hbb ?_ ?_ ?_ ?_ ?_) | (refine call_ro e17 ( In_p _ _ _) rfl ?_ ?_ ?_ ?_) | (refine gcall_ro e17 ( In_p _ _ _) rfl ?_ ?_ ?_ ?_) | (refine dcall_ro e17 ( In_p _ _ _) rfl ?_ ?_ ?_ ?_) | (refine gdcall_ro rfl e17 ( In_p _ _ _) rfl ?_ ?_ ?_ ?_) | (refine EndX.plain ?_) | (refine nil_split (fun hn => ?_) (fun hn => ?_)) | (refine gcall_no not_false ?_) | (refine gdcall_no not_false ?_) | (refine GuardS_of _ _ _ _ _ _ (fun hg => ?_) (fun hg => ?_)) | (refine GuardD_of _ _ _ _ (fun hg => ?_) (fun hg => ?_)) | (refine CondB_of _ _ _ _ _ _ _ ?_ (fun hg => ?_) (fun hg => ?_)))
  repeat' (first | (simp -implicitDefEqProofs only [*, contN, contC, Nat.reduceBEq, Bool.or_false, Bool.or_true, Bool.false_or, Bool.true_or, Bool.not_true, Bool.not_false, w_skip, w_ret, w_exit, w_reg, w_dreg, w_seq, SK_n, SK_r, SK_x, w_keep, w_block, w_cond, w_nil, w_cons, w_consg, w_nnil, w_ncons, w_dnil, w_dcons, w_dconsg, HK_app, HD_app, HQ_n, HQ_r, HQ_x, HQ_bn, HQ_br, HQ_bx, HQ_en, HQ_er, HQ_ex, CondB_true, CondB_false, SO1, w_sdv, SDe_alloc, SDe_box, SDe_bslice, SDe_app, true_imp_iff, false_imp_iff, and_false, false_and, not_false_eq_true, not_true_eq_false, addN, mkNames, killT, killD, killO, List.foldl_nil, List.foldl_cons, List.append_nil, List.nil_append, List.cons_append, GuardS_true, GuardS_false, GuardD_true, GuardD_false, DK_true, DK_false, lt_self_add, le_self_add, decide_true, decide_false, Bool.false_eq_true, Bool.true_eq_false, Nat.add_left_cancel_iff, SE, SEalloc, SEbox, SEstore, w_bs, SEbl, SEfz, SEbs0, fzName, osOf, AV.fz1, w_app, w_mk, aev, opd, Fr.get, putO, Fr.norm, List.map_cons, List.map_nil, with1, with2, onInt, AV.lit, entry, ↓reduceIte, Nat.reduceEqDiff, Nat.reduceAdd, reduceCtorEq, true_and, and_true, Option.map_some, Option.map_none, Option.bind_some, Option.bind_none, cond_true, cond_false, binV, unV, fieldV, loadV, sto, cellsAV, newF, newL, Fr.map, Loc.kill, Loc.set, AV.kill, AV.mapN, AV.mapNL, List.filter_nil, List.filter_cons, allP, EndV, retV, resV, resL, frz, dropL, AV.pick, nilV, tupV, imp_self, ne_eq, Int.cast_ofNat_Int, Int.reduceLT, Int.reduceToNat, List.getD_cons_zero, List.getD_cons_succ, bsliceV, buildV, afill, repl, chunk, rvs, AV.rv, RV.nrm, List.getElem?_nil, List.append_assoc, Nat.reduceMul, Nat.reducePow, Nat.zero_lt_succ, Nat.zero_add, Nat.add_zero, List.length_cons, List.length_nil, Nat.reduceLeDiff, Nat.le_refl, List.take_succ_cons, List.take_zero, List.drop_succ_cons, List.drop_zero, indexV, lenV, rowOf_mapD, rowOf_mapI, rowOf_mapA, List.length_map, Int.toNat_natCast, List.getElem?_cons_zero, List.getElem?_cons_succ, and_self, implies_true, if_true, if_false, HQ_zn, HQ_zr, HQ_wn, HQ_wr, AV.nz, AV.nzL, RV.nrm, SEbin, SEnil, nilK, srcV, dstV, appName, List.length_append, Nat.mul_one, take_map_len, take_map_app, List.getElem?_cons_zero, List.map_append, SEmkmap, SEmset, mgetV, kvOf, getM, setM, c25, r25, v25_1, v25_2, u25_3, u25_4, u25_5, u25_6, u25_7, u25_8, u25_9, u25_10, u25_11, u25_12, u25_13, u25_14, u25_15, u25_16, u25_17, u25_18, u25_19, u25_20, u25_21, u25_22, u25_23, u25_24, u25_25, u25_26, u25_27, u25_28, u25_29, u25_30, u25_31, u25_32, u25_33, u25_34, u25_35, u25_36, u25_37, u25_38, u25_39, u25_40, u25_41, u25_42, u25_43, u25_44, u25_45, u25_46, u25_47, u25_48, u25_49, u25_50, u25_51, u25_52, u25_53, u25_54, u25_55, ty32, ty3, ty58, ty33, ty9, ty23, ty26, ty28, ty24, ty30, aokB, aokD, aokA, ↓eyO_allN, ↓eyO_kill, y1, y2, y3, y4, y5, eyO, prEta, Int.reduceBEq, Int.reduceBNe, RulD.av, askV, AskD.row, partV, PartD.row, verV, VerD.row, sl]) | (with_reducible refine And.intro ?_ ?_) | (refine call_e0 (d := some 6) (by omega) e24 ( num_L 1 (by decide)) rfl ?_ ?_ hbb ?_ ?_ ?_ ?_ ?_) | (refine call_e1 (d := some 6) (by omega) e24 ( num_L 1 (by decide)) rfl ?_ ?_ hbb ?_ ?_ ?_ ?_ ?_) | (refine call_e2 (d := some 6) (by omega) e24 ( num_L 1 (by decide)) rfl ?_ ?_ hbb ?_ ?_ ?_ ?_ ?_) | (refine call_ro e17 ( In_p _ _ _) rfl ?_ ?_ ?_ ?_) | (refine gcall_ro e17 ( In_p _ _ _) rfl ?_ ?_ ?_ ?_) | (refine dcall_ro e17 ( In_p _ _ _) rfl ?_ ?_ ?_ ?_) | (refine gdcall_ro rfl e17 ( In_p _ _ _) rfl ?_ ?_ ?_ ?_) | (refine EndX.plain ?_) | (refine nil_split (fun hn => ?_) (fun hn => ?_)) | (refine gcall_no not_false ?_) | (refine gdcall_no not_false ?_) | (refine GuardS_of _ _ _ _ _ _ (fun hg => ?_) (fun hg => ?_)) | (refine GuardD_of _ _ _ _ (fun hg => ?_) (fun hg => ?_)) | (refine CondB_of _ _ _ _ _ _ _ ?_ (fun hg => ?_) (fun hg => ?_)))
  all_goals first
    | (intro p hp; simp only [List.mem_cons, List.not_mem_nil, or_false] at hp; rcases hp with rfl | rfl <;> simp [y2]; done)
    | (intro p hp; simp only [List.mem_cons, List.not_mem_nil, or_false] at hp; subst hp; simp [y2]; done)
    | (intro p hp; cases hp; done)
    | (exact .inl (by decide))
    | (show List.IsSuffix _ bb; repeat' (first | assumption | refine (takS_suf _ _).trans ?_ | refine (textS_suf _).trans ?_ | refine (bitS_suf _).trans ?_ | refine (intsS_suf _).trans ?_ | refine (itS_suf _ _).trans ?_))
    | trivial
    | (unfold Fr.below; simp [Fr.allN, AV.allN, AV.allNL, y5]; done)
    | (unfold noN; simp [Fr.allN, AV.allN, AV.allNL, AO.allN]; done)
    | (unfold Loc.below; simp [AO.allN, AV.allN, AV.allNL, y5]; done)
    | (unfold Loc.below; simp only [List.all_cons, List.all_nil, eyO_allN, y5]; simp [AO.allN, AV.allN, AV.allNL]; done)
    | (intro p hp; simp only [List.mem_cons, List.not_mem_nil, or_false] at hp; rcases hp with rfl | rfl | rfl <;> simp [y2]; done)
    | rfl
    | (refine rd_end ?_ ?_
       · simp only [if_true]; rfl
       · intro x z1; simp [z1, hid1])
    | (rw [hN.1]; rfl)
    | (rw [hN.2]; refine rd_end ?_ ?_
       · simp only [if_true]; rfl
       · intro x z1; simp [z1, hid1])
    | (refine rd_end ?_ ?_
       · simp [List.map_cons]
       · intro x z1; simp [z1, hid1])
end Go.Proofs.YtijpmidnclbhpaaDoor
