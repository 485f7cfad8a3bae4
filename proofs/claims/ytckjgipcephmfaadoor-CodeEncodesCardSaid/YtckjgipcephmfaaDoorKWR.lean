/- The writer's record. -/
import Derived.Test.YtckjgipcephmfaaDoorKV
import Derived.Test.YtckjgipcephmfaaDoorKWD
import Derived.Test.YtckjgipcephmfaaDoorTypes
namespace Go.Proofs.YtckjgipcephmfaaDoor
open Go.RowKit
set_option maxRecDepth 100000
def o8_1 : List SO := ((SO.mk (some 4) (.alloc 51) none) :: (SO.mk none (.store 51 (.tmp 4) (.tmp 8)) none) :: [])
theorem v8_1 : type_of% (@swl _ _ o8_1.eq_1) := @swl _ _ o8_1.eq_1
def c8_2 : SC := (.reg [SO.mk (some 15) (.move (.tmp 0)) none, SO.mk (some 16) (.faddr 42 (.tmp 3) 1) none, SO.mk (some 17) (.load 3 (.tmp 16)) none, SO.mk (some 18) (.call 6 [(.tmp 15), (.tmp 17), (.const (Value.int .i64 3))]) none])
theorem u8_2 : type_of% (@swc _ _ c8_2.eq_1) := @swc _ _ c8_2.eq_1
def c8_3 : SC := (.cond (.tmp 14) c8_2 .skip)
theorem u8_3 : type_of% (@swc _ _ c8_3.eq_1) := @swc _ _ c8_3.eq_1
def c8_4 : SC := (.reg [SO.mk (some 21) (.move (.tmp 0)) none, SO.mk (some 22) (.faddr 42 (.tmp 3) 3) none, SO.mk (some 23) (.load 9 (.tmp 22)) none, SO.mk (some 24) (.call 15 [(.tmp 21), (.tmp 23)]) none])
theorem u8_4 : type_of% (@swc _ _ c8_4.eq_1) := @swc _ _ c8_4.eq_1
def c8_5 : SC := (.cond (.tmp 20) c8_4 .skip)
theorem u8_5 : type_of% (@swc _ _ c8_5.eq_1) := @swc _ _ c8_5.eq_1
def c8_6 : SC := (.reg [SO.mk (some 27) (.move (.tmp 0)) none, SO.mk (some 28) (.faddr 42 (.tmp 3) 4) none, SO.mk (some 29) (.load 9 (.tmp 28)) none, SO.mk (some 30) (.call 15 [(.tmp 27), (.tmp 29)]) none])
theorem u8_6 : type_of% (@swc _ _ c8_6.eq_1) := @swc _ _ c8_6.eq_1
def c8_7 : SC := (.cond (.tmp 26) c8_6 .skip)
theorem u8_7 : type_of% (@swc _ _ c8_7.eq_1) := @swc _ _ c8_7.eq_1
def c8_8 : SC := (.reg [SO.mk (some 33) (.move (.tmp 0)) none, SO.mk (some 34) (.faddr 42 (.tmp 3) 2) none, SO.mk (some 35) (.load 3 (.tmp 34)) none, SO.mk (some 36) (.call 6 [(.tmp 33), (.tmp 35), (.const (Value.int .i64 4))]) none])
theorem u8_8 : type_of% (@swc _ _ c8_8.eq_1) := @swc _ _ c8_8.eq_1
def c8_9 : SC := (.cond (.tmp 32) c8_8 .skip)
theorem u8_9 : type_of% (@swc _ _ c8_9.eq_1) := @swc _ _ c8_9.eq_1
def c8_10 : SC := (.reg [SO.mk (some 39) (.move (.tmp 0)) none, SO.mk (some 40) (.faddr 42 (.tmp 3) 5) none, SO.mk (some 41) (.load 33 (.tmp 40)) none, SO.mk (some 42) (.call 16 [(.tmp 39), (.tmp 41)]) none])
theorem u8_10 : type_of% (@swc _ _ c8_10.eq_1) := @swc _ _ c8_10.eq_1
def c8_11 : SC := (.cond (.tmp 38) c8_10 .skip)
theorem u8_11 : type_of% (@swc _ _ c8_11.eq_1) := @swc _ _ c8_11.eq_1
def c8_12 : SC := (.reg [SO.mk (some 45) (.move (.tmp 0)) none, SO.mk (some 46) (.faddr 42 (.tmp 3) 6) none, SO.mk (some 47) (.load 36 (.tmp 46)) none, SO.mk (some 48) (.call 17 [(.tmp 45), (.tmp 47)]) none])
theorem u8_12 : type_of% (@swc _ _ c8_12.eq_1) := @swc _ _ c8_12.eq_1
def c8_13 : SC := (.cond (.tmp 44) c8_12 .skip)
theorem u8_13 : type_of% (@swc _ _ c8_13.eq_1) := @swc _ _ c8_13.eq_1
def c8_14 : SC := (.reg [SO.mk (some 51) (.move (.tmp 0)) none, SO.mk (some 52) (.faddr 42 (.tmp 3) 7) none, SO.mk (some 53) (.load 38 (.tmp 52)) none, SO.mk (some 54) (.call 18 [(.tmp 51), (.tmp 53)]) none])
theorem u8_14 : type_of% (@swc _ _ c8_14.eq_1) := @swc _ _ c8_14.eq_1
def c8_15 : SC := (.cond (.tmp 50) c8_14 .skip)
theorem u8_15 : type_of% (@swc _ _ c8_15.eq_1) := @swc _ _ c8_15.eq_1
def c8_16 : SC := (.reg [SO.mk (some 57) (.move (.tmp 0)) none, SO.mk (some 58) (.faddr 42 (.tmp 3) 8) none, SO.mk (some 59) (.load 40 (.tmp 58)) none, SO.mk (some 60) (.call 19 [(.tmp 57), (.tmp 59)]) none])
theorem u8_16 : type_of% (@swc _ _ c8_16.eq_1) := @swc _ _ c8_16.eq_1
def c8_17 : SC := (.cond (.tmp 56) c8_16 .skip)
theorem u8_17 : type_of% (@swc _ _ c8_17.eq_1) := @swc _ _ c8_17.eq_1
def c8_18 : SC := (.reg [SO.mk (some 63) (.move (.tmp 0)) none, SO.mk (some 64) (.faddr 42 (.tmp 3) 9) none, SO.mk (some 65) (.load 34 (.tmp 64)) none, SO.mk (some 66) (.call 20 [(.tmp 63), (.tmp 65)]) none])
theorem u8_18 : type_of% (@swc _ _ c8_18.eq_1) := @swc _ _ c8_18.eq_1
def c8_19 : SC := (.cond (.tmp 62) c8_18 .skip)
theorem u8_19 : type_of% (@swc _ _ c8_19.eq_1) := @swc _ _ c8_19.eq_1
def c8_20 : SC := (.reg [SO.mk (some 69) (.move (.tmp 0)) none, SO.mk (some 70) (.faddr 42 (.tmp 3) 10) none, SO.mk (some 71) (.load 3 (.tmp 70)) none, SO.mk (some 72) (.call 6 [(.tmp 69), (.tmp 71), (.const (Value.int .i64 1))]) none])
theorem u8_20 : type_of% (@swc _ _ c8_20.eq_1) := @swc _ _ c8_20.eq_1
def c8_21 : SC := (.cond (.tmp 68) c8_20 .skip)
theorem u8_21 : type_of% (@swc _ _ c8_21.eq_1) := @swc _ _ c8_21.eq_1
def c8_22 : SC := (.reg [SO.mk (some 75) (.move (.tmp 0)) none, SO.mk (some 76) (.faddr 42 (.tmp 3) 11) none, SO.mk (some 77) (.load 3 (.tmp 76)) none, SO.mk (some 78) (.call 6 [(.tmp 75), (.tmp 77), (.const (Value.int .i64 2))]) none])
theorem u8_22 : type_of% (@swc _ _ c8_22.eq_1) := @swc _ _ c8_22.eq_1
def c8_23 : SC := (.cond (.tmp 74) c8_22 .skip)
theorem u8_23 : type_of% (@swc _ _ c8_23.eq_1) := @swc _ _ c8_23.eq_1
def c8_24 : SC := (.seq (.reg [SO.mk (some 73) (.faddr 51 (.tmp 4) 10) none, SO.mk (some 74) (.load 4 (.tmp 73)) none]) (.keep [74, 3, 0] c8_23))
theorem u8_24 : type_of% (@swc _ _ c8_24.eq_1) := @swc _ _ c8_24.eq_1
def c8_25 : SC := (.seq (.seq (.reg [SO.mk (some 67) (.faddr 51 (.tmp 4) 9) none, SO.mk (some 68) (.load 4 (.tmp 67)) none]) (.keep [68, 4, 3, 0] c8_21)) (.keep [4, 3, 0] c8_24))
theorem u8_25 : type_of% (@swc _ _ c8_25.eq_1) := @swc _ _ c8_25.eq_1
def c8_26 : SC := (.seq (.seq (.reg [SO.mk (some 61) (.faddr 51 (.tmp 4) 8) none, SO.mk (some 62) (.load 4 (.tmp 61)) none]) (.keep [62, 4, 3, 0] c8_19)) (.keep [4, 3, 0] c8_25))
theorem u8_26 : type_of% (@swc _ _ c8_26.eq_1) := @swc _ _ c8_26.eq_1
def c8_27 : SC := (.seq (.seq (.reg [SO.mk (some 55) (.faddr 51 (.tmp 4) 7) none, SO.mk (some 56) (.load 4 (.tmp 55)) none]) (.keep [56, 4, 3, 0] c8_17)) (.keep [4, 3, 0] c8_26))
theorem u8_27 : type_of% (@swc _ _ c8_27.eq_1) := @swc _ _ c8_27.eq_1
def c8_28 : SC := (.seq (.seq (.reg [SO.mk (some 49) (.faddr 51 (.tmp 4) 6) none, SO.mk (some 50) (.load 4 (.tmp 49)) none]) (.keep [50, 4, 3, 0] c8_15)) (.keep [4, 3, 0] c8_27))
theorem u8_28 : type_of% (@swc _ _ c8_28.eq_1) := @swc _ _ c8_28.eq_1
def c8_29 : SC := (.seq (.seq (.reg [SO.mk (some 43) (.faddr 51 (.tmp 4) 5) none, SO.mk (some 44) (.load 4 (.tmp 43)) none]) (.keep [44, 4, 3, 0] c8_13)) (.keep [4, 3, 0] c8_28))
theorem u8_29 : type_of% (@swc _ _ c8_29.eq_1) := @swc _ _ c8_29.eq_1
def c8_30 : SC := (.seq (.seq (.reg [SO.mk (some 37) (.faddr 51 (.tmp 4) 4) none, SO.mk (some 38) (.load 4 (.tmp 37)) none]) (.keep [38, 4, 3, 0] c8_11)) (.keep [4, 3, 0] c8_29))
theorem u8_30 : type_of% (@swc _ _ c8_30.eq_1) := @swc _ _ c8_30.eq_1
def c8_31 : SC := (.seq (.seq (.reg [SO.mk (some 31) (.faddr 51 (.tmp 4) 1) none, SO.mk (some 32) (.load 4 (.tmp 31)) none]) (.keep [32, 4, 3, 0] c8_9)) (.keep [4, 3, 0] c8_30))
theorem u8_31 : type_of% (@swc _ _ c8_31.eq_1) := @swc _ _ c8_31.eq_1
def c8_32 : SC := (.seq (.seq (.reg [SO.mk (some 25) (.faddr 51 (.tmp 4) 3) none, SO.mk (some 26) (.load 4 (.tmp 25)) none]) (.keep [26, 4, 3, 0] c8_7)) (.keep [4, 3, 0] c8_31))
theorem u8_32 : type_of% (@swc _ _ c8_32.eq_1) := @swc _ _ c8_32.eq_1
def c8_33 : SC := (.seq (.seq (.reg [SO.mk (some 19) (.faddr 51 (.tmp 4) 2) none, SO.mk (some 20) (.load 4 (.tmp 19)) none]) (.keep [20, 4, 3, 0] c8_5)) (.keep [4, 3, 0] c8_32))
theorem u8_33 : type_of% (@swc _ _ c8_33.eq_1) := @swc _ _ c8_33.eq_1
def c8_34 : SC := (.seq (.seq (.reg [SO.mk (some 13) (.faddr 51 (.tmp 4) 0) none, SO.mk (some 14) (.load 4 (.tmp 13)) none]) (.keep [14, 4, 3, 0] c8_3)) (.keep [4, 3, 0] c8_33))
theorem u8_34 : type_of% (@swc _ _ c8_34.eq_1) := @swc _ _ c8_34.eq_1
def c8_35 : SC := (.seq (.reg [SO.mk (some 9) (.move (.tmp 0)) none, SO.mk (some 10) (.faddr 42 (.tmp 3) 0) none, SO.mk (some 11) (.load 3 (.tmp 10)) none, SO.mk (some 12) (.call 6 [(.tmp 9), (.tmp 11), (.const (Value.int .i64 1))]) none]) (.keep [4, 3, 0] c8_34))
theorem u8_35 : type_of% (@swc _ _ c8_35.eq_1) := @swc _ _ c8_35.eq_1
def c8_36 : SC := (.seq (.reg ((SO.mk (some 5) (.faddr 42 (.tmp 3) 0) none) :: (SO.mk (some 6) (.load 3 (.tmp 5)) none) :: (SO.mk (some 7) (.iaddr 52 (.global 0) (.tmp 6)) none) :: (SO.mk (some 8) (.load 51 (.tmp 7)) none) :: o8_1)) (.keep [4, 3, 0] c8_35))
theorem u8_36 : type_of% (@swc _ _ c8_36.eq_1) := @swc _ _ c8_36.eq_1
def c8 : SC := (.seq (.reg [SO.mk (some 3) (.box 42 (.tmp 1)) none]) (.keep [3, 0] c8_36))
theorem c8_eq : annC Tryd.f8 = some c8 := by kernel_rfl
theorem r8 : Tryd.f8.results.toList = [] := by kernel_rfl
theorem e8 : enters Tryd.prog 8 = true := by kernel_rfl
end Go.Proofs.YtckjgipcephmfaaDoor
namespace Go.Proofs.YtckjgipcephmfaaDoor
open Go.RowKit
set_option maxHeartbeats 4000000
set_option maxRecDepth 20000
attribute [local irreducible] SW SWL SWLn SWD SEcall SEcallv SDv SE SO1 SOg ACalls ACallv Wk EndV
set_option linter.unusedSimpArgs false
set_option linter.unusedVariables false
attribute [local irreducible] textB intsB bitB bigB verB askB partB ruleB b8 arO wrO
theorem rec_w1 (r : RecD) (hk : r.kind = 1) (h : r.sh) : Writes Tryd.prog 8 [r.av] (recB r) := by
  rw [recB_1 hk]
  intro B σ m n bs hW hb
  refine own_ofL [(m, arO bs), (n, wrO m bs)] (hid_sto hW.am hW.an) hid_closed follows Tryd.func8 c8_eq r8 (Nat.le_of_ble_eq_true rfl) fun hcl hsz => ?_
  clear hsz
  obtain ⟨hm, hn, ne, am, an, free⟩ := hW
  have y1 : ∀ s, (n = B + s) = False := fun s => by simp; omega
  have y2 : ∀ s, (B + s = n) = False := fun s => by simp; omega
  have y3 : ∀ s, (m = B + s) = False := fun s => by simp; omega
  have y4 : ∀ s, (B + s = m) = False := fun s => by simp; omega
  have y5 : (m < B) = True := eq_true hm
  have y6 : (n < B) = True := eq_true hn
  have y7 : (m = n) = False := eq_false ne
  have y8 : (n = m) = False := eq_false (fun e => ne e.symm)
  have y9 : decide (m < B + 100000) = true := by simp; omega
  have y10 : decide (n < B + 100000) = true := by simp; omega
  have y11 : (B ≤ m) = False := eq_false (by omega)
  have hr1 := hid_m m n σ
  have hr2 := hid_n m n σ
  have hr3 := hid_kill free
  repeat' (first | (simp -implicitDefEqProofs only [*, contN, contC, Nat.reduceBEq, Bool.or_false, Bool.or_true, Bool.false_or, Bool.true_or, Bool.not_true, Bool.not_false, SEconv, w_skip, w_ret, w_exit, w_reg, w_dreg, w_seq, SK_n, SK_r, SK_x, w_keep, w_block, w_cond, w_nil, w_cons, w_consg, w_nnil, w_ncons, w_dnil, w_dcons, w_dconsg, HK_app, HD_app, HQ_n, HQ_r, HQ_x, HQ_bn, HQ_br, HQ_bx, HQ_en, HQ_er, HQ_ex, CondB_true, CondB_false, SO1, w_sdv, SDe_alloc, SDe_box, SDe_bslice, SDe_app, true_imp_iff, false_imp_iff, and_false, false_and, not_false_eq_true, not_true_eq_false, addN, mkNames, killT, killD, killO, List.foldl_nil, List.foldl_cons, List.append_nil, List.nil_append, List.cons_append, GuardS_true, GuardS_false, GuardD_true, GuardD_false, DK_true, DK_false, lt_self_add, le_self_add, decide_true, decide_false, Bool.false_eq_true, Bool.true_eq_false, Nat.add_left_cancel_iff, SE, SEalloc, SEbox, SEstore, w_bs, SEbl, SEfz, SEbs0, fzName, osOf, AV.fz1, w_app, w_mk, aev, opd, Fr.get, putO, Fr.norm, List.map_cons, List.map_nil, with1, with2, onInt, AV.lit, entry, ↓reduceIte, Nat.reduceEqDiff, Nat.reduceAdd, reduceCtorEq, true_and, and_true, Option.map_some, Option.map_none, Option.bind_some, Option.bind_none, cond_true, cond_false, binV, unV, fieldV, loadV, sto, cellsAV, newF, newL, Fr.map, Loc.kill, Loc.set, AV.kill, AV.mapN, AV.mapNL, List.filter_nil, List.filter_cons, allP, EndV, retV, resV, resL, frz, dropL, AV.pick, nilV, tupV, imp_self, ne_eq, Int.cast_ofNat_Int, Int.reduceLT, Int.reduceToNat, List.getD_cons_zero, List.getD_cons_succ, bsliceV, buildV, afill, repl, chunk, rvs, AV.rv, RV.nrm, List.getElem?_nil, List.append_assoc, Nat.reduceMul, Nat.reducePow, Nat.zero_lt_succ, Nat.zero_add, Nat.add_zero, List.length_cons, List.length_nil, Nat.reduceLeDiff, Nat.le_refl, List.take_succ_cons, List.take_zero, List.drop_succ_cons, List.drop_zero, indexV, lenV, rowOf_mapD, rowOf_mapI, rowOf_mapA, List.length_map, Int.toNat_natCast, List.getElem?_cons_zero, List.getElem?_cons_succ, and_self, implies_true, if_true, if_false, HQ_zn, HQ_zr, HQ_wn, HQ_wr, AV.nz, AV.nzL, RV.nrm, SEbin, SEnil, nilK, srcV, dstV, appName, List.length_append, Nat.mul_one, take_map_len, take_map_app, List.getElem?_cons_zero, List.map_append, SEmkmap, SEmset, mgetV, kvOf, getM, setM, c8, r8, v8_1, u8_2, u8_3, u8_4, u8_5, u8_6, u8_7, u8_8, u8_9, u8_10, u8_11, u8_12, u8_13, u8_14, u8_15, u8_16, u8_17, u8_18, u8_19, u8_20, u8_21, u8_22, u8_23, u8_24, u8_25, u8_26, u8_27, u8_28, u8_29, u8_30, u8_31, u8_32, u8_33, u8_34, u8_35, u8_36, ty42, ty3, ty52, ty51, ty4, ty9, ty33, ty36, ty38, ty40, ty34, aokB, aokD, aokA, ↓arO_allN, ↓wrO_allN, ↓arO_kill, wrO_kill, wrL, y1, y2, y3, y4, y5, y6, y7, y8, y9, y10, y11, RecD.av, RecD.row, VerD.avW, VerD.row, PartD.avW, PartD.row, AskD.av, AskD.row, ints, indexV, globD, globR_1]) | (with_reducible refine And.intro ?_ ?_) | (refine call_w0 (d := some 12) (by omega) (by omega) ne (fun _ => by simp) hr3 e6 ( put1_w (1)) rfl ?_ ?_ ?_ ?_ ?_ ?_) | (refine call_w1 (d := some 12) (by omega) (by omega) ne (fun _ => by simp) hr3 e6 ( put1_w (1)) rfl ?_ ?_ ?_ ?_ ?_ ?_) | (refine call_w2 (d := some 12) (by omega) (by omega) ne (fun _ => by simp) hr3 e6 ( put1_w (1)) rfl ?_ ?_ ?_ ?_ ?_ ?_) | (refine call_w0 (d := some 24) (by omega) (by omega) ne (fun _ => by simp) hr3 e15 ( text_w r.name h.name) rfl ?_ ?_ ?_ ?_ ?_ ?_) | (refine call_w1 (d := some 24) (by omega) (by omega) ne (fun _ => by simp) hr3 e15 ( text_w r.name h.name) rfl ?_ ?_ ?_ ?_ ?_ ?_) | (refine call_w2 (d := some 24) (by omega) (by omega) ne (fun _ => by simp) hr3 e15 ( text_w r.name h.name) rfl ?_ ?_ ?_ ?_ ?_ ?_) | (refine EndX.plain ?_) | (refine nil_split (fun hn => ?_) (fun hn => ?_)) | (refine gcall_no not_false ?_) | (refine gdcall_no not_false ?_) | (refine GuardS_of _ _ _ _ _ _ (fun hg => ?_) (fun hg => ?_)) | (refine GuardD_of _ _ _ _ (fun hg => ?_) (fun hg => ?_)) | (refine CondB_of _ _ _ _ _ _ _ ?_ (fun hg => ?_) (fun hg => ?_)))
  all_goals first
    | trivial
    | (intro p hp; simp only [List.mem_cons, List.not_mem_nil, or_false] at hp; rcases hp with rfl | rfl <;> exact ⟨by simp [y3, y4], by simp [y1, y2], rfl⟩)
    | (intro p hp; simp only [List.mem_cons, List.not_mem_nil, or_false] at hp; subst hp; exact ⟨by simp [y3, y4], by simp [y1, y2], rfl⟩)
    | (unfold Fr.below; simp [Fr.allN, AV.allN, AV.allNL, y9, y10]; done)
    | (unfold Loc.below; simp only [List.all_cons, List.all_nil, arO_allN, wrO_allN, y9, y10]; simp [AO.allN, AV.allN, AV.allNL]; done)
    | (simp only [List.length_append, List.length_cons, List.length_nil] at hb ⊢; omega)
    | (refine wr_end3 ?_ ?_ ?_
       · simp [List.map_cons, List.append_assoc]
       · simp [List.map_cons, List.append_assoc, y8]
       · intro x z1 z2; simp [z1, z2, hid])
    | (simp [allP, opd, Fr.get]; done)
theorem rec_w2 (r : RecD) (hk : r.kind = 2) (h : r.sh) : Writes Tryd.prog 8 [r.av] (recB r) := by
  rw [recB_2 hk]
  intro B σ m n bs hW hb
  refine own_ofL [(m, arO bs), (n, wrO m bs)] (hid_sto hW.am hW.an) hid_closed follows Tryd.func8 c8_eq r8 (Nat.le_of_ble_eq_true rfl) fun hcl hsz => ?_
  clear hsz
  obtain ⟨hm, hn, ne, am, an, free⟩ := hW
  have y1 : ∀ s, (n = B + s) = False := fun s => by simp; omega
  have y2 : ∀ s, (B + s = n) = False := fun s => by simp; omega
  have y3 : ∀ s, (m = B + s) = False := fun s => by simp; omega
  have y4 : ∀ s, (B + s = m) = False := fun s => by simp; omega
  have y5 : (m < B) = True := eq_true hm
  have y6 : (n < B) = True := eq_true hn
  have y7 : (m = n) = False := eq_false ne
  have y8 : (n = m) = False := eq_false (fun e => ne e.symm)
  have y9 : decide (m < B + 100000) = true := by simp; omega
  have y10 : decide (n < B + 100000) = true := by simp; omega
  have y11 : (B ≤ m) = False := eq_false (by omega)
  have hr1 := hid_m m n σ
  have hr2 := hid_n m n σ
  have hr3 := hid_kill free
  repeat' (first | (simp -implicitDefEqProofs only [*, contN, contC, Nat.reduceBEq, Bool.or_false, Bool.or_true, Bool.false_or, Bool.true_or, Bool.not_true, Bool.not_false, SEconv, w_skip, w_ret, w_exit, w_reg, w_dreg, w_seq, SK_n, SK_r, SK_x, w_keep, w_block, w_cond, w_nil, w_cons, w_consg, w_nnil, w_ncons, w_dnil, w_dcons, w_dconsg, HK_app, HD_app, HQ_n, HQ_r, HQ_x, HQ_bn, HQ_br, HQ_bx, HQ_en, HQ_er, HQ_ex, CondB_true, CondB_false, SO1, w_sdv, SDe_alloc, SDe_box, SDe_bslice, SDe_app, true_imp_iff, false_imp_iff, and_false, false_and, not_false_eq_true, not_true_eq_false, addN, mkNames, killT, killD, killO, List.foldl_nil, List.foldl_cons, List.append_nil, List.nil_append, List.cons_append, GuardS_true, GuardS_false, GuardD_true, GuardD_false, DK_true, DK_false, lt_self_add, le_self_add, decide_true, decide_false, Bool.false_eq_true, Bool.true_eq_false, Nat.add_left_cancel_iff, SE, SEalloc, SEbox, SEstore, w_bs, SEbl, SEfz, SEbs0, fzName, osOf, AV.fz1, w_app, w_mk, aev, opd, Fr.get, putO, Fr.norm, List.map_cons, List.map_nil, with1, with2, onInt, AV.lit, entry, ↓reduceIte, Nat.reduceEqDiff, Nat.reduceAdd, reduceCtorEq, true_and, and_true, Option.map_some, Option.map_none, Option.bind_some, Option.bind_none, cond_true, cond_false, binV, unV, fieldV, loadV, sto, cellsAV, newF, newL, Fr.map, Loc.kill, Loc.set, AV.kill, AV.mapN, AV.mapNL, List.filter_nil, List.filter_cons, allP, EndV, retV, resV, resL, frz, dropL, AV.pick, nilV, tupV, imp_self, ne_eq, Int.cast_ofNat_Int, Int.reduceLT, Int.reduceToNat, List.getD_cons_zero, List.getD_cons_succ, bsliceV, buildV, afill, repl, chunk, rvs, AV.rv, RV.nrm, List.getElem?_nil, List.append_assoc, Nat.reduceMul, Nat.reducePow, Nat.zero_lt_succ, Nat.zero_add, Nat.add_zero, List.length_cons, List.length_nil, Nat.reduceLeDiff, Nat.le_refl, List.take_succ_cons, List.take_zero, List.drop_succ_cons, List.drop_zero, indexV, lenV, rowOf_mapD, rowOf_mapI, rowOf_mapA, List.length_map, Int.toNat_natCast, List.getElem?_cons_zero, List.getElem?_cons_succ, and_self, implies_true, if_true, if_false, HQ_zn, HQ_zr, HQ_wn, HQ_wr, AV.nz, AV.nzL, RV.nrm, SEbin, SEnil, nilK, srcV, dstV, appName, List.length_append, Nat.mul_one, take_map_len, take_map_app, List.getElem?_cons_zero, List.map_append, SEmkmap, SEmset, mgetV, kvOf, getM, setM, c8, r8, v8_1, u8_2, u8_3, u8_4, u8_5, u8_6, u8_7, u8_8, u8_9, u8_10, u8_11, u8_12, u8_13, u8_14, u8_15, u8_16, u8_17, u8_18, u8_19, u8_20, u8_21, u8_22, u8_23, u8_24, u8_25, u8_26, u8_27, u8_28, u8_29, u8_30, u8_31, u8_32, u8_33, u8_34, u8_35, u8_36, ty42, ty3, ty52, ty51, ty4, ty9, ty33, ty36, ty38, ty40, ty34, aokB, aokD, aokA, ↓arO_allN, ↓wrO_allN, ↓arO_kill, wrO_kill, wrL, y1, y2, y3, y4, y5, y6, y7, y8, y9, y10, y11, RecD.av, RecD.row, VerD.avW, VerD.row, PartD.avW, PartD.row, AskD.av, AskD.row, ints, indexV, globD, globR_2]) | (with_reducible refine And.intro ?_ ?_) | (refine call_w0 (d := some 12) (by omega) (by omega) ne (fun _ => by simp) hr3 e6 ( put1_w (2)) rfl ?_ ?_ ?_ ?_ ?_ ?_) | (refine call_w1 (d := some 12) (by omega) (by omega) ne (fun _ => by simp) hr3 e6 ( put1_w (2)) rfl ?_ ?_ ?_ ?_ ?_ ?_) | (refine call_w2 (d := some 12) (by omega) (by omega) ne (fun _ => by simp) hr3 e6 ( put1_w (2)) rfl ?_ ?_ ?_ ?_ ?_ ?_) | (refine call_w0 (d := some 24) (by omega) (by omega) ne (fun _ => by simp) hr3 e15 ( text_w r.name h.name) rfl ?_ ?_ ?_ ?_ ?_ ?_) | (refine call_w1 (d := some 24) (by omega) (by omega) ne (fun _ => by simp) hr3 e15 ( text_w r.name h.name) rfl ?_ ?_ ?_ ?_ ?_ ?_) | (refine call_w2 (d := some 24) (by omega) (by omega) ne (fun _ => by simp) hr3 e15 ( text_w r.name h.name) rfl ?_ ?_ ?_ ?_ ?_ ?_) | (refine call_w0 (d := some 36) (by omega) (by omega) ne (fun _ => by simp) hr3 e6 ( put_w (r.n) 4 (by omega) (by omega)) rfl ?_ ?_ ?_ ?_ ?_ ?_) | (refine call_w1 (d := some 36) (by omega) (by omega) ne (fun _ => by simp) hr3 e6 ( put_w (r.n) 4 (by omega) (by omega)) rfl ?_ ?_ ?_ ?_ ?_ ?_) | (refine call_w2 (d := some 36) (by omega) (by omega) ne (fun _ => by simp) hr3 e6 ( put_w (r.n) 4 (by omega) (by omega)) rfl ?_ ?_ ?_ ?_ ?_ ?_) | (refine EndX.plain ?_) | (refine nil_split (fun hn => ?_) (fun hn => ?_)) | (refine gcall_no not_false ?_) | (refine gdcall_no not_false ?_) | (refine GuardS_of _ _ _ _ _ _ (fun hg => ?_) (fun hg => ?_)) | (refine GuardD_of _ _ _ _ (fun hg => ?_) (fun hg => ?_)) | (refine CondB_of _ _ _ _ _ _ _ ?_ (fun hg => ?_) (fun hg => ?_)))
  all_goals first
    | trivial
    | (intro p hp; simp only [List.mem_cons, List.not_mem_nil, or_false] at hp; rcases hp with rfl | rfl <;> exact ⟨by simp [y3, y4], by simp [y1, y2], rfl⟩)
    | (intro p hp; simp only [List.mem_cons, List.not_mem_nil, or_false] at hp; subst hp; exact ⟨by simp [y3, y4], by simp [y1, y2], rfl⟩)
    | (unfold Fr.below; simp [Fr.allN, AV.allN, AV.allNL, y9, y10]; done)
    | (unfold Loc.below; simp only [List.all_cons, List.all_nil, arO_allN, wrO_allN, y9, y10]; simp [AO.allN, AV.allN, AV.allNL]; done)
    | (simp only [List.length_append, List.length_cons, List.length_nil] at hb ⊢; omega)
    | (refine wr_end3 ?_ ?_ ?_
       · simp [List.map_cons, List.append_assoc]
       · simp [List.map_cons, List.append_assoc, y8]
       · intro x z1 z2; simp [z1, z2, hid])
    | (simp [allP, opd, Fr.get]; done)
theorem rec_w3 (r : RecD) (hk : r.kind = 3) (h : r.sh) : Writes Tryd.prog 8 [r.av] (recB r) := by
  rw [recB_3 hk]
  intro B σ m n bs hW hb
  refine own_ofL [(m, arO bs), (n, wrO m bs)] (hid_sto hW.am hW.an) hid_closed follows Tryd.func8 c8_eq r8 (Nat.le_of_ble_eq_true rfl) fun hcl hsz => ?_
  clear hsz
  obtain ⟨hm, hn, ne, am, an, free⟩ := hW
  have y1 : ∀ s, (n = B + s) = False := fun s => by simp; omega
  have y2 : ∀ s, (B + s = n) = False := fun s => by simp; omega
  have y3 : ∀ s, (m = B + s) = False := fun s => by simp; omega
  have y4 : ∀ s, (B + s = m) = False := fun s => by simp; omega
  have y5 : (m < B) = True := eq_true hm
  have y6 : (n < B) = True := eq_true hn
  have y7 : (m = n) = False := eq_false ne
  have y8 : (n = m) = False := eq_false (fun e => ne e.symm)
  have y9 : decide (m < B + 100000) = true := by simp; omega
  have y10 : decide (n < B + 100000) = true := by simp; omega
  have y11 : (B ≤ m) = False := eq_false (by omega)
  have hr1 := hid_m m n σ
  have hr2 := hid_n m n σ
  have hr3 := hid_kill free
  repeat' (first | (simp -implicitDefEqProofs only [*, contN, contC, Nat.reduceBEq, Bool.or_false, Bool.or_true, Bool.false_or, Bool.true_or, Bool.not_true, Bool.not_false, SEconv, w_skip, w_ret, w_exit, w_reg, w_dreg, w_seq, SK_n, SK_r, SK_x, w_keep, w_block, w_cond, w_nil, w_cons, w_consg, w_nnil, w_ncons, w_dnil, w_dcons, w_dconsg, HK_app, HD_app, HQ_n, HQ_r, HQ_x, HQ_bn, HQ_br, HQ_bx, HQ_en, HQ_er, HQ_ex, CondB_true, CondB_false, SO1, w_sdv, SDe_alloc, SDe_box, SDe_bslice, SDe_app, true_imp_iff, false_imp_iff, and_false, false_and, not_false_eq_true, not_true_eq_false, addN, mkNames, killT, killD, killO, List.foldl_nil, List.foldl_cons, List.append_nil, List.nil_append, List.cons_append, GuardS_true, GuardS_false, GuardD_true, GuardD_false, DK_true, DK_false, lt_self_add, le_self_add, decide_true, decide_false, Bool.false_eq_true, Bool.true_eq_false, Nat.add_left_cancel_iff, SE, SEalloc, SEbox, SEstore, w_bs, SEbl, SEfz, SEbs0, fzName, osOf, AV.fz1, w_app, w_mk, aev, opd, Fr.get, putO, Fr.norm, List.map_cons, List.map_nil, with1, with2, onInt, AV.lit, entry, ↓reduceIte, Nat.reduceEqDiff, Nat.reduceAdd, reduceCtorEq, true_and, and_true, Option.map_some, Option.map_none, Option.bind_some, Option.bind_none, cond_true, cond_false, binV, unV, fieldV, loadV, sto, cellsAV, newF, newL, Fr.map, Loc.kill, Loc.set, AV.kill, AV.mapN, AV.mapNL, List.filter_nil, List.filter_cons, allP, EndV, retV, resV, resL, frz, dropL, AV.pick, nilV, tupV, imp_self, ne_eq, Int.cast_ofNat_Int, Int.reduceLT, Int.reduceToNat, List.getD_cons_zero, List.getD_cons_succ, bsliceV, buildV, afill, repl, chunk, rvs, AV.rv, RV.nrm, List.getElem?_nil, List.append_assoc, Nat.reduceMul, Nat.reducePow, Nat.zero_lt_succ, Nat.zero_add, Nat.add_zero, List.length_cons, List.length_nil, Nat.reduceLeDiff, Nat.le_refl, List.take_succ_cons, List.take_zero, List.drop_succ_cons, List.drop_zero, indexV, lenV, rowOf_mapD, rowOf_mapI, rowOf_mapA, List.length_map, Int.toNat_natCast, List.getElem?_cons_zero, List.getElem?_cons_succ, and_self, implies_true, if_true, if_false, HQ_zn, HQ_zr, HQ_wn, HQ_wr, AV.nz, AV.nzL, RV.nrm, SEbin, SEnil, nilK, srcV, dstV, appName, List.length_append, Nat.mul_one, take_map_len, take_map_app, List.getElem?_cons_zero, List.map_append, SEmkmap, SEmset, mgetV, kvOf, getM, setM, c8, r8, v8_1, u8_2, u8_3, u8_4, u8_5, u8_6, u8_7, u8_8, u8_9, u8_10, u8_11, u8_12, u8_13, u8_14, u8_15, u8_16, u8_17, u8_18, u8_19, u8_20, u8_21, u8_22, u8_23, u8_24, u8_25, u8_26, u8_27, u8_28, u8_29, u8_30, u8_31, u8_32, u8_33, u8_34, u8_35, u8_36, ty42, ty3, ty52, ty51, ty4, ty9, ty33, ty36, ty38, ty40, ty34, aokB, aokD, aokA, ↓arO_allN, ↓wrO_allN, ↓arO_kill, wrO_kill, wrL, y1, y2, y3, y4, y5, y6, y7, y8, y9, y10, y11, RecD.av, RecD.row, VerD.avW, VerD.row, PartD.avW, PartD.row, AskD.av, AskD.row, ints, indexV, globD, globR_3]) | (with_reducible refine And.intro ?_ ?_) | (refine call_w0 (d := some 12) (by omega) (by omega) ne (fun _ => by simp) hr3 e6 ( put1_w (3)) rfl ?_ ?_ ?_ ?_ ?_ ?_) | (refine call_w1 (d := some 12) (by omega) (by omega) ne (fun _ => by simp) hr3 e6 ( put1_w (3)) rfl ?_ ?_ ?_ ?_ ?_ ?_) | (refine call_w2 (d := some 12) (by omega) (by omega) ne (fun _ => by simp) hr3 e6 ( put1_w (3)) rfl ?_ ?_ ?_ ?_ ?_ ?_) | (refine call_w0 (d := some 24) (by omega) (by omega) ne (fun _ => by simp) hr3 e15 ( text_w r.name h.name) rfl ?_ ?_ ?_ ?_ ?_ ?_) | (refine call_w1 (d := some 24) (by omega) (by omega) ne (fun _ => by simp) hr3 e15 ( text_w r.name h.name) rfl ?_ ?_ ?_ ?_ ?_ ?_) | (refine call_w2 (d := some 24) (by omega) (by omega) ne (fun _ => by simp) hr3 e15 ( text_w r.name h.name) rfl ?_ ?_ ?_ ?_ ?_ ?_) | (refine call_w0 (d := some 42) (by omega) (by omega) ne (fun _ => by simp) hr3 e16 ( rule_w r.pre r.frz r.drop h.pre) rfl ?_ ?_ ?_ ?_ ?_ ?_) | (refine call_w1 (d := some 42) (by omega) (by omega) ne (fun _ => by simp) hr3 e16 ( rule_w r.pre r.frz r.drop h.pre) rfl ?_ ?_ ?_ ?_ ?_ ?_) | (refine call_w2 (d := some 42) (by omega) (by omega) ne (fun _ => by simp) hr3 e16 ( rule_w r.pre r.frz r.drop h.pre) rfl ?_ ?_ ?_ ?_ ?_ ?_) | (refine EndX.plain ?_) | (refine nil_split (fun hn => ?_) (fun hn => ?_)) | (refine gcall_no not_false ?_) | (refine gdcall_no not_false ?_) | (refine GuardS_of _ _ _ _ _ _ (fun hg => ?_) (fun hg => ?_)) | (refine GuardD_of _ _ _ _ (fun hg => ?_) (fun hg => ?_)) | (refine CondB_of _ _ _ _ _ _ _ ?_ (fun hg => ?_) (fun hg => ?_)))
  all_goals first
    | trivial
    | (intro p hp; simp only [List.mem_cons, List.not_mem_nil, or_false] at hp; rcases hp with rfl | rfl <;> exact ⟨by simp [y3, y4], by simp [y1, y2], rfl⟩)
    | (intro p hp; simp only [List.mem_cons, List.not_mem_nil, or_false] at hp; subst hp; exact ⟨by simp [y3, y4], by simp [y1, y2], rfl⟩)
    | (unfold Fr.below; simp [Fr.allN, AV.allN, AV.allNL, y9, y10]; done)
    | (unfold Loc.below; simp only [List.all_cons, List.all_nil, arO_allN, wrO_allN, y9, y10]; simp [AO.allN, AV.allN, AV.allNL]; done)
    | (simp only [List.length_append, List.length_cons, List.length_nil] at hb ⊢; omega)
    | (refine wr_end3 ?_ ?_ ?_
       · simp [List.map_cons, List.append_assoc]
       · simp [List.map_cons, List.append_assoc, y8]
       · intro x z1 z2; simp [z1, z2, hid])
    | (simp [allP, opd, Fr.get]; done)
theorem rec_w4 (r : RecD) (hk : r.kind = 4) (h : r.sh) : Writes Tryd.prog 8 [r.av] (recB r) := by
  rw [recB_4 hk]
  intro B σ m n bs hW hb
  refine own_ofL [(m, arO bs), (n, wrO m bs)] (hid_sto hW.am hW.an) hid_closed follows Tryd.func8 c8_eq r8 (Nat.le_of_ble_eq_true rfl) fun hcl hsz => ?_
  clear hsz
  obtain ⟨hm, hn, ne, am, an, free⟩ := hW
  have y1 : ∀ s, (n = B + s) = False := fun s => by simp; omega
  have y2 : ∀ s, (B + s = n) = False := fun s => by simp; omega
  have y3 : ∀ s, (m = B + s) = False := fun s => by simp; omega
  have y4 : ∀ s, (B + s = m) = False := fun s => by simp; omega
  have y5 : (m < B) = True := eq_true hm
  have y6 : (n < B) = True := eq_true hn
  have y7 : (m = n) = False := eq_false ne
  have y8 : (n = m) = False := eq_false (fun e => ne e.symm)
  have y9 : decide (m < B + 100000) = true := by simp; omega
  have y10 : decide (n < B + 100000) = true := by simp; omega
  have y11 : (B ≤ m) = False := eq_false (by omega)
  have hr1 := hid_m m n σ
  have hr2 := hid_n m n σ
  have hr3 := hid_kill free
  repeat' (first | (simp -implicitDefEqProofs only [*, contN, contC, Nat.reduceBEq, Bool.or_false, Bool.or_true, Bool.false_or, Bool.true_or, Bool.not_true, Bool.not_false, SEconv, w_skip, w_ret, w_exit, w_reg, w_dreg, w_seq, SK_n, SK_r, SK_x, w_keep, w_block, w_cond, w_nil, w_cons, w_consg, w_nnil, w_ncons, w_dnil, w_dcons, w_dconsg, HK_app, HD_app, HQ_n, HQ_r, HQ_x, HQ_bn, HQ_br, HQ_bx, HQ_en, HQ_er, HQ_ex, CondB_true, CondB_false, SO1, w_sdv, SDe_alloc, SDe_box, SDe_bslice, SDe_app, true_imp_iff, false_imp_iff, and_false, false_and, not_false_eq_true, not_true_eq_false, addN, mkNames, killT, killD, killO, List.foldl_nil, List.foldl_cons, List.append_nil, List.nil_append, List.cons_append, GuardS_true, GuardS_false, GuardD_true, GuardD_false, DK_true, DK_false, lt_self_add, le_self_add, decide_true, decide_false, Bool.false_eq_true, Bool.true_eq_false, Nat.add_left_cancel_iff, SE, SEalloc, SEbox, SEstore, w_bs, SEbl, SEfz, SEbs0, fzName, osOf, AV.fz1, w_app, w_mk, aev, opd, Fr.get, putO, Fr.norm, List.map_cons, List.map_nil, with1, with2, onInt, AV.lit, entry, ↓reduceIte, Nat.reduceEqDiff, Nat.reduceAdd, reduceCtorEq, true_and, and_true, Option.map_some, Option.map_none, Option.bind_some, Option.bind_none, cond_true, cond_false, binV, unV, fieldV, loadV, sto, cellsAV, newF, newL, Fr.map, Loc.kill, Loc.set, AV.kill, AV.mapN, AV.mapNL, List.filter_nil, List.filter_cons, allP, EndV, retV, resV, resL, frz, dropL, AV.pick, nilV, tupV, imp_self, ne_eq, Int.cast_ofNat_Int, Int.reduceLT, Int.reduceToNat, List.getD_cons_zero, List.getD_cons_succ, bsliceV, buildV, afill, repl, chunk, rvs, AV.rv, RV.nrm, List.getElem?_nil, List.append_assoc, Nat.reduceMul, Nat.reducePow, Nat.zero_lt_succ, Nat.zero_add, Nat.add_zero, List.length_cons, List.length_nil, Nat.reduceLeDiff, Nat.le_refl, List.take_succ_cons, List.take_zero, List.drop_succ_cons, List.drop_zero, indexV, lenV, rowOf_mapD, rowOf_mapI, rowOf_mapA, List.length_map, Int.toNat_natCast, List.getElem?_cons_zero, List.getElem?_cons_succ, and_self, implies_true, if_true, if_false, HQ_zn, HQ_zr, HQ_wn, HQ_wr, AV.nz, AV.nzL, RV.nrm, SEbin, SEnil, nilK, srcV, dstV, appName, List.length_append, Nat.mul_one, take_map_len, take_map_app, List.getElem?_cons_zero, List.map_append, SEmkmap, SEmset, mgetV, kvOf, getM, setM, c8, r8, v8_1, u8_2, u8_3, u8_4, u8_5, u8_6, u8_7, u8_8, u8_9, u8_10, u8_11, u8_12, u8_13, u8_14, u8_15, u8_16, u8_17, u8_18, u8_19, u8_20, u8_21, u8_22, u8_23, u8_24, u8_25, u8_26, u8_27, u8_28, u8_29, u8_30, u8_31, u8_32, u8_33, u8_34, u8_35, u8_36, ty42, ty3, ty52, ty51, ty4, ty9, ty33, ty36, ty38, ty40, ty34, aokB, aokD, aokA, ↓arO_allN, ↓wrO_allN, ↓arO_kill, wrO_kill, wrL, y1, y2, y3, y4, y5, y6, y7, y8, y9, y10, y11, RecD.av, RecD.row, VerD.avW, VerD.row, PartD.avW, PartD.row, AskD.av, AskD.row, ints, indexV, globD, globR_4]) | (with_reducible refine And.intro ?_ ?_) | (refine call_w0 (d := some 12) (by omega) (by omega) ne (fun _ => by simp) hr3 e6 ( put1_w (4)) rfl ?_ ?_ ?_ ?_ ?_ ?_) | (refine call_w1 (d := some 12) (by omega) (by omega) ne (fun _ => by simp) hr3 e6 ( put1_w (4)) rfl ?_ ?_ ?_ ?_ ?_ ?_) | (refine call_w2 (d := some 12) (by omega) (by omega) ne (fun _ => by simp) hr3 e6 ( put1_w (4)) rfl ?_ ?_ ?_ ?_ ?_ ?_) | (refine call_w0 (d := some 48) (by omega) (by omega) ne (fun _ => by simp) hr3 e17 ( ver_w r.ver h.bkt h.vkey) rfl ?_ ?_ ?_ ?_ ?_ ?_) | (refine call_w1 (d := some 48) (by omega) (by omega) ne (fun _ => by simp) hr3 e17 ( ver_w r.ver h.bkt h.vkey) rfl ?_ ?_ ?_ ?_ ?_ ?_) | (refine call_w2 (d := some 48) (by omega) (by omega) ne (fun _ => by simp) hr3 e17 ( ver_w r.ver h.bkt h.vkey) rfl ?_ ?_ ?_ ?_ ?_ ?_) | (refine EndX.plain ?_) | (refine nil_split (fun hn => ?_) (fun hn => ?_)) | (refine gcall_no not_false ?_) | (refine gdcall_no not_false ?_) | (refine GuardS_of _ _ _ _ _ _ (fun hg => ?_) (fun hg => ?_)) | (refine GuardD_of _ _ _ _ (fun hg => ?_) (fun hg => ?_)) | (refine CondB_of _ _ _ _ _ _ _ ?_ (fun hg => ?_) (fun hg => ?_)))
  all_goals first
    | trivial
    | (intro p hp; simp only [List.mem_cons, List.not_mem_nil, or_false] at hp; rcases hp with rfl | rfl <;> exact ⟨by simp [y3, y4], by simp [y1, y2], rfl⟩)
    | (intro p hp; simp only [List.mem_cons, List.not_mem_nil, or_false] at hp; subst hp; exact ⟨by simp [y3, y4], by simp [y1, y2], rfl⟩)
    | (unfold Fr.below; simp [Fr.allN, AV.allN, AV.allNL, y9, y10]; done)
    | (unfold Loc.below; simp only [List.all_cons, List.all_nil, arO_allN, wrO_allN, y9, y10]; simp [AO.allN, AV.allN, AV.allNL]; done)
    | (simp only [List.length_append, List.length_cons, List.length_nil] at hb ⊢; omega)
    | (refine wr_end3 ?_ ?_ ?_
       · simp [List.map_cons, List.append_assoc]
       · simp [List.map_cons, List.append_assoc, y8]
       · intro x z1 z2; simp [z1, z2, hid])
    | (simp [allP, opd, Fr.get]; done)
theorem rec_w5 (r : RecD) (hk : r.kind = 5) (h : r.sh) : Writes Tryd.prog 8 [r.av] (recB r) := by
  rw [recB_5 hk]
  intro B σ m n bs hW hb
  refine own_ofL [(m, arO bs), (n, wrO m bs)] (hid_sto hW.am hW.an) hid_closed follows Tryd.func8 c8_eq r8 (Nat.le_of_ble_eq_true rfl) fun hcl hsz => ?_
  clear hsz
  obtain ⟨hm, hn, ne, am, an, free⟩ := hW
  have y1 : ∀ s, (n = B + s) = False := fun s => by simp; omega
  have y2 : ∀ s, (B + s = n) = False := fun s => by simp; omega
  have y3 : ∀ s, (m = B + s) = False := fun s => by simp; omega
  have y4 : ∀ s, (B + s = m) = False := fun s => by simp; omega
  have y5 : (m < B) = True := eq_true hm
  have y6 : (n < B) = True := eq_true hn
  have y7 : (m = n) = False := eq_false ne
  have y8 : (n = m) = False := eq_false (fun e => ne e.symm)
  have y9 : decide (m < B + 100000) = true := by simp; omega
  have y10 : decide (n < B + 100000) = true := by simp; omega
  have y11 : (B ≤ m) = False := eq_false (by omega)
  have hr1 := hid_m m n σ
  have hr2 := hid_n m n σ
  have hr3 := hid_kill free
  repeat' (first | (simp -implicitDefEqProofs only [*, contN, contC, Nat.reduceBEq, Bool.or_false, Bool.or_true, Bool.false_or, Bool.true_or, Bool.not_true, Bool.not_false, SEconv, w_skip, w_ret, w_exit, w_reg, w_dreg, w_seq, SK_n, SK_r, SK_x, w_keep, w_block, w_cond, w_nil, w_cons, w_consg, w_nnil, w_ncons, w_dnil, w_dcons, w_dconsg, HK_app, HD_app, HQ_n, HQ_r, HQ_x, HQ_bn, HQ_br, HQ_bx, HQ_en, HQ_er, HQ_ex, CondB_true, CondB_false, SO1, w_sdv, SDe_alloc, SDe_box, SDe_bslice, SDe_app, true_imp_iff, false_imp_iff, and_false, false_and, not_false_eq_true, not_true_eq_false, addN, mkNames, killT, killD, killO, List.foldl_nil, List.foldl_cons, List.append_nil, List.nil_append, List.cons_append, GuardS_true, GuardS_false, GuardD_true, GuardD_false, DK_true, DK_false, lt_self_add, le_self_add, decide_true, decide_false, Bool.false_eq_true, Bool.true_eq_false, Nat.add_left_cancel_iff, SE, SEalloc, SEbox, SEstore, w_bs, SEbl, SEfz, SEbs0, fzName, osOf, AV.fz1, w_app, w_mk, aev, opd, Fr.get, putO, Fr.norm, List.map_cons, List.map_nil, with1, with2, onInt, AV.lit, entry, ↓reduceIte, Nat.reduceEqDiff, Nat.reduceAdd, reduceCtorEq, true_and, and_true, Option.map_some, Option.map_none, Option.bind_some, Option.bind_none, cond_true, cond_false, binV, unV, fieldV, loadV, sto, cellsAV, newF, newL, Fr.map, Loc.kill, Loc.set, AV.kill, AV.mapN, AV.mapNL, List.filter_nil, List.filter_cons, allP, EndV, retV, resV, resL, frz, dropL, AV.pick, nilV, tupV, imp_self, ne_eq, Int.cast_ofNat_Int, Int.reduceLT, Int.reduceToNat, List.getD_cons_zero, List.getD_cons_succ, bsliceV, buildV, afill, repl, chunk, rvs, AV.rv, RV.nrm, List.getElem?_nil, List.append_assoc, Nat.reduceMul, Nat.reducePow, Nat.zero_lt_succ, Nat.zero_add, Nat.add_zero, List.length_cons, List.length_nil, Nat.reduceLeDiff, Nat.le_refl, List.take_succ_cons, List.take_zero, List.drop_succ_cons, List.drop_zero, indexV, lenV, rowOf_mapD, rowOf_mapI, rowOf_mapA, List.length_map, Int.toNat_natCast, List.getElem?_cons_zero, List.getElem?_cons_succ, and_self, implies_true, if_true, if_false, HQ_zn, HQ_zr, HQ_wn, HQ_wr, AV.nz, AV.nzL, RV.nrm, SEbin, SEnil, nilK, srcV, dstV, appName, List.length_append, Nat.mul_one, take_map_len, take_map_app, List.getElem?_cons_zero, List.map_append, SEmkmap, SEmset, mgetV, kvOf, getM, setM, c8, r8, v8_1, u8_2, u8_3, u8_4, u8_5, u8_6, u8_7, u8_8, u8_9, u8_10, u8_11, u8_12, u8_13, u8_14, u8_15, u8_16, u8_17, u8_18, u8_19, u8_20, u8_21, u8_22, u8_23, u8_24, u8_25, u8_26, u8_27, u8_28, u8_29, u8_30, u8_31, u8_32, u8_33, u8_34, u8_35, u8_36, ty42, ty3, ty52, ty51, ty4, ty9, ty33, ty36, ty38, ty40, ty34, aokB, aokD, aokA, ↓arO_allN, ↓wrO_allN, ↓arO_kill, wrO_kill, wrL, y1, y2, y3, y4, y5, y6, y7, y8, y9, y10, y11, RecD.av, RecD.row, VerD.avW, VerD.row, PartD.avW, PartD.row, AskD.av, AskD.row, ints, indexV, globD, globR_5]) | (with_reducible refine And.intro ?_ ?_) | (refine call_w0 (d := some 12) (by omega) (by omega) ne (fun _ => by simp) hr3 e6 ( put1_w (5)) rfl ?_ ?_ ?_ ?_ ?_ ?_) | (refine call_w1 (d := some 12) (by omega) (by omega) ne (fun _ => by simp) hr3 e6 ( put1_w (5)) rfl ?_ ?_ ?_ ?_ ?_ ?_) | (refine call_w2 (d := some 12) (by omega) (by omega) ne (fun _ => by simp) hr3 e6 ( put1_w (5)) rfl ?_ ?_ ?_ ?_ ?_ ?_) | (refine call_w0 (d := some 18) (by omega) (by omega) ne (fun _ => by simp) hr3 e6 ( put_w (r.id) 3 (by omega) (by omega)) rfl ?_ ?_ ?_ ?_ ?_ ?_) | (refine call_w1 (d := some 18) (by omega) (by omega) ne (fun _ => by simp) hr3 e6 ( put_w (r.id) 3 (by omega) (by omega)) rfl ?_ ?_ ?_ ?_ ?_ ?_) | (refine call_w2 (d := some 18) (by omega) (by omega) ne (fun _ => by simp) hr3 e6 ( put_w (r.id) 3 (by omega) (by omega)) rfl ?_ ?_ ?_ ?_ ?_ ?_) | (refine EndX.plain ?_) | (refine nil_split (fun hn => ?_) (fun hn => ?_)) | (refine gcall_no not_false ?_) | (refine gdcall_no not_false ?_) | (refine GuardS_of _ _ _ _ _ _ (fun hg => ?_) (fun hg => ?_)) | (refine GuardD_of _ _ _ _ (fun hg => ?_) (fun hg => ?_)) | (refine CondB_of _ _ _ _ _ _ _ ?_ (fun hg => ?_) (fun hg => ?_)))
  all_goals first
    | trivial
    | (intro p hp; simp only [List.mem_cons, List.not_mem_nil, or_false] at hp; rcases hp with rfl | rfl <;> exact ⟨by simp [y3, y4], by simp [y1, y2], rfl⟩)
    | (intro p hp; simp only [List.mem_cons, List.not_mem_nil, or_false] at hp; subst hp; exact ⟨by simp [y3, y4], by simp [y1, y2], rfl⟩)
    | (unfold Fr.below; simp [Fr.allN, AV.allN, AV.allNL, y9, y10]; done)
    | (unfold Loc.below; simp only [List.all_cons, List.all_nil, arO_allN, wrO_allN, y9, y10]; simp [AO.allN, AV.allN, AV.allNL]; done)
    | (simp only [List.length_append, List.length_cons, List.length_nil] at hb ⊢; omega)
    | (refine wr_end3 ?_ ?_ ?_
       · simp [List.map_cons, List.append_assoc]
       · simp [List.map_cons, List.append_assoc, y8]
       · intro x z1 z2; simp [z1, z2, hid])
    | (simp [allP, opd, Fr.get]; done)
theorem rec_w6 (r : RecD) (hk : r.kind = 6) (h : r.sh) : Writes Tryd.prog 8 [r.av] (recB r) := by
  rw [recB_6 hk]
  intro B σ m n bs hW hb
  refine own_ofL [(m, arO bs), (n, wrO m bs)] (hid_sto hW.am hW.an) hid_closed follows Tryd.func8 c8_eq r8 (Nat.le_of_ble_eq_true rfl) fun hcl hsz => ?_
  clear hsz
  obtain ⟨hm, hn, ne, am, an, free⟩ := hW
  have y1 : ∀ s, (n = B + s) = False := fun s => by simp; omega
  have y2 : ∀ s, (B + s = n) = False := fun s => by simp; omega
  have y3 : ∀ s, (m = B + s) = False := fun s => by simp; omega
  have y4 : ∀ s, (B + s = m) = False := fun s => by simp; omega
  have y5 : (m < B) = True := eq_true hm
  have y6 : (n < B) = True := eq_true hn
  have y7 : (m = n) = False := eq_false ne
  have y8 : (n = m) = False := eq_false (fun e => ne e.symm)
  have y9 : decide (m < B + 100000) = true := by simp; omega
  have y10 : decide (n < B + 100000) = true := by simp; omega
  have y11 : (B ≤ m) = False := eq_false (by omega)
  have hr1 := hid_m m n σ
  have hr2 := hid_n m n σ
  have hr3 := hid_kill free
  repeat' (first | (simp -implicitDefEqProofs only [*, contN, contC, Nat.reduceBEq, Bool.or_false, Bool.or_true, Bool.false_or, Bool.true_or, Bool.not_true, Bool.not_false, SEconv, w_skip, w_ret, w_exit, w_reg, w_dreg, w_seq, SK_n, SK_r, SK_x, w_keep, w_block, w_cond, w_nil, w_cons, w_consg, w_nnil, w_ncons, w_dnil, w_dcons, w_dconsg, HK_app, HD_app, HQ_n, HQ_r, HQ_x, HQ_bn, HQ_br, HQ_bx, HQ_en, HQ_er, HQ_ex, CondB_true, CondB_false, SO1, w_sdv, SDe_alloc, SDe_box, SDe_bslice, SDe_app, true_imp_iff, false_imp_iff, and_false, false_and, not_false_eq_true, not_true_eq_false, addN, mkNames, killT, killD, killO, List.foldl_nil, List.foldl_cons, List.append_nil, List.nil_append, List.cons_append, GuardS_true, GuardS_false, GuardD_true, GuardD_false, DK_true, DK_false, lt_self_add, le_self_add, decide_true, decide_false, Bool.false_eq_true, Bool.true_eq_false, Nat.add_left_cancel_iff, SE, SEalloc, SEbox, SEstore, w_bs, SEbl, SEfz, SEbs0, fzName, osOf, AV.fz1, w_app, w_mk, aev, opd, Fr.get, putO, Fr.norm, List.map_cons, List.map_nil, with1, with2, onInt, AV.lit, entry, ↓reduceIte, Nat.reduceEqDiff, Nat.reduceAdd, reduceCtorEq, true_and, and_true, Option.map_some, Option.map_none, Option.bind_some, Option.bind_none, cond_true, cond_false, binV, unV, fieldV, loadV, sto, cellsAV, newF, newL, Fr.map, Loc.kill, Loc.set, AV.kill, AV.mapN, AV.mapNL, List.filter_nil, List.filter_cons, allP, EndV, retV, resV, resL, frz, dropL, AV.pick, nilV, tupV, imp_self, ne_eq, Int.cast_ofNat_Int, Int.reduceLT, Int.reduceToNat, List.getD_cons_zero, List.getD_cons_succ, bsliceV, buildV, afill, repl, chunk, rvs, AV.rv, RV.nrm, List.getElem?_nil, List.append_assoc, Nat.reduceMul, Nat.reducePow, Nat.zero_lt_succ, Nat.zero_add, Nat.add_zero, List.length_cons, List.length_nil, Nat.reduceLeDiff, Nat.le_refl, List.take_succ_cons, List.take_zero, List.drop_succ_cons, List.drop_zero, indexV, lenV, rowOf_mapD, rowOf_mapI, rowOf_mapA, List.length_map, Int.toNat_natCast, List.getElem?_cons_zero, List.getElem?_cons_succ, and_self, implies_true, if_true, if_false, HQ_zn, HQ_zr, HQ_wn, HQ_wr, AV.nz, AV.nzL, RV.nrm, SEbin, SEnil, nilK, srcV, dstV, appName, List.length_append, Nat.mul_one, take_map_len, take_map_app, List.getElem?_cons_zero, List.map_append, SEmkmap, SEmset, mgetV, kvOf, getM, setM, c8, r8, v8_1, u8_2, u8_3, u8_4, u8_5, u8_6, u8_7, u8_8, u8_9, u8_10, u8_11, u8_12, u8_13, u8_14, u8_15, u8_16, u8_17, u8_18, u8_19, u8_20, u8_21, u8_22, u8_23, u8_24, u8_25, u8_26, u8_27, u8_28, u8_29, u8_30, u8_31, u8_32, u8_33, u8_34, u8_35, u8_36, ty42, ty3, ty52, ty51, ty4, ty9, ty33, ty36, ty38, ty40, ty34, aokB, aokD, aokA, ↓arO_allN, ↓wrO_allN, ↓arO_kill, wrO_kill, wrL, y1, y2, y3, y4, y5, y6, y7, y8, y9, y10, y11, RecD.av, RecD.row, VerD.avW, VerD.row, PartD.avW, PartD.row, AskD.av, AskD.row, ints, indexV, globD, globR_6]) | (with_reducible refine And.intro ?_ ?_) | (refine call_w0 (d := some 12) (by omega) (by omega) ne (fun _ => by simp) hr3 e6 ( put1_w (6)) rfl ?_ ?_ ?_ ?_ ?_ ?_) | (refine call_w1 (d := some 12) (by omega) (by omega) ne (fun _ => by simp) hr3 e6 ( put1_w (6)) rfl ?_ ?_ ?_ ?_ ?_ ?_) | (refine call_w2 (d := some 12) (by omega) (by omega) ne (fun _ => by simp) hr3 e6 ( put1_w (6)) rfl ?_ ?_ ?_ ?_ ?_ ?_) | (refine call_w0 (d := some 18) (by omega) (by omega) ne (fun _ => by simp) hr3 e6 ( put_w (r.id) 3 (by omega) (by omega)) rfl ?_ ?_ ?_ ?_ ?_ ?_) | (refine call_w1 (d := some 18) (by omega) (by omega) ne (fun _ => by simp) hr3 e6 ( put_w (r.id) 3 (by omega) (by omega)) rfl ?_ ?_ ?_ ?_ ?_ ?_) | (refine call_w2 (d := some 18) (by omega) (by omega) ne (fun _ => by simp) hr3 e6 ( put_w (r.id) 3 (by omega) (by omega)) rfl ?_ ?_ ?_ ?_ ?_ ?_) | (refine call_w0 (d := some 72) (by omega) (by omega) ne (fun _ => by simp) hr3 e6 ( put1_w (r.vol)) rfl ?_ ?_ ?_ ?_ ?_ ?_) | (refine call_w1 (d := some 72) (by omega) (by omega) ne (fun _ => by simp) hr3 e6 ( put1_w (r.vol)) rfl ?_ ?_ ?_ ?_ ?_ ?_) | (refine call_w2 (d := some 72) (by omega) (by omega) ne (fun _ => by simp) hr3 e6 ( put1_w (r.vol)) rfl ?_ ?_ ?_ ?_ ?_ ?_) | (refine call_w0 (d := some 78) (by omega) (by omega) ne (fun _ => by simp) hr3 e6 ( put_w (r.pos) 2 (by omega) (by omega)) rfl ?_ ?_ ?_ ?_ ?_ ?_) | (refine call_w1 (d := some 78) (by omega) (by omega) ne (fun _ => by simp) hr3 e6 ( put_w (r.pos) 2 (by omega) (by omega)) rfl ?_ ?_ ?_ ?_ ?_ ?_) | (refine call_w2 (d := some 78) (by omega) (by omega) ne (fun _ => by simp) hr3 e6 ( put_w (r.pos) 2 (by omega) (by omega)) rfl ?_ ?_ ?_ ?_ ?_ ?_) | (refine EndX.plain ?_) | (refine nil_split (fun hn => ?_) (fun hn => ?_)) | (refine gcall_no not_false ?_) | (refine gdcall_no not_false ?_) | (refine GuardS_of _ _ _ _ _ _ (fun hg => ?_) (fun hg => ?_)) | (refine GuardD_of _ _ _ _ (fun hg => ?_) (fun hg => ?_)) | (refine CondB_of _ _ _ _ _ _ _ ?_ (fun hg => ?_) (fun hg => ?_)))
  all_goals first
    | trivial
    | (intro p hp; simp only [List.mem_cons, List.not_mem_nil, or_false] at hp; rcases hp with rfl | rfl <;> exact ⟨by simp [y3, y4], by simp [y1, y2], rfl⟩)
    | (intro p hp; simp only [List.mem_cons, List.not_mem_nil, or_false] at hp; subst hp; exact ⟨by simp [y3, y4], by simp [y1, y2], rfl⟩)
    | (unfold Fr.below; simp [Fr.allN, AV.allN, AV.allNL, y9, y10]; done)
    | (unfold Loc.below; simp only [List.all_cons, List.all_nil, arO_allN, wrO_allN, y9, y10]; simp [AO.allN, AV.allN, AV.allNL]; done)
    | (simp only [List.length_append, List.length_cons, List.length_nil] at hb ⊢; omega)
    | (refine wr_end3 ?_ ?_ ?_
       · simp [List.map_cons, List.append_assoc]
       · simp [List.map_cons, List.append_assoc, y8]
       · intro x z1 z2; simp [z1, z2, hid])
    | (simp [allP, opd, Fr.get]; done)
theorem rec_w7 (r : RecD) (hk : r.kind = 7) (h : r.sh) : Writes Tryd.prog 8 [r.av] (recB r) := by
  rw [recB_7 hk]
  intro B σ m n bs hW hb
  refine own_ofL [(m, arO bs), (n, wrO m bs)] (hid_sto hW.am hW.an) hid_closed follows Tryd.func8 c8_eq r8 (Nat.le_of_ble_eq_true rfl) fun hcl hsz => ?_
  clear hsz
  obtain ⟨hm, hn, ne, am, an, free⟩ := hW
  have y1 : ∀ s, (n = B + s) = False := fun s => by simp; omega
  have y2 : ∀ s, (B + s = n) = False := fun s => by simp; omega
  have y3 : ∀ s, (m = B + s) = False := fun s => by simp; omega
  have y4 : ∀ s, (B + s = m) = False := fun s => by simp; omega
  have y5 : (m < B) = True := eq_true hm
  have y6 : (n < B) = True := eq_true hn
  have y7 : (m = n) = False := eq_false ne
  have y8 : (n = m) = False := eq_false (fun e => ne e.symm)
  have y9 : decide (m < B + 100000) = true := by simp; omega
  have y10 : decide (n < B + 100000) = true := by simp; omega
  have y11 : (B ≤ m) = False := eq_false (by omega)
  have hr1 := hid_m m n σ
  have hr2 := hid_n m n σ
  have hr3 := hid_kill free
  repeat' (first | (simp -implicitDefEqProofs only [*, contN, contC, Nat.reduceBEq, Bool.or_false, Bool.or_true, Bool.false_or, Bool.true_or, Bool.not_true, Bool.not_false, SEconv, w_skip, w_ret, w_exit, w_reg, w_dreg, w_seq, SK_n, SK_r, SK_x, w_keep, w_block, w_cond, w_nil, w_cons, w_consg, w_nnil, w_ncons, w_dnil, w_dcons, w_dconsg, HK_app, HD_app, HQ_n, HQ_r, HQ_x, HQ_bn, HQ_br, HQ_bx, HQ_en, HQ_er, HQ_ex, CondB_true, CondB_false, SO1, w_sdv, SDe_alloc, SDe_box, SDe_bslice, SDe_app, true_imp_iff, false_imp_iff, and_false, false_and, not_false_eq_true, not_true_eq_false, addN, mkNames, killT, killD, killO, List.foldl_nil, List.foldl_cons, List.append_nil, List.nil_append, List.cons_append, GuardS_true, GuardS_false, GuardD_true, GuardD_false, DK_true, DK_false, lt_self_add, le_self_add, decide_true, decide_false, Bool.false_eq_true, Bool.true_eq_false, Nat.add_left_cancel_iff, SE, SEalloc, SEbox, SEstore, w_bs, SEbl, SEfz, SEbs0, fzName, osOf, AV.fz1, w_app, w_mk, aev, opd, Fr.get, putO, Fr.norm, List.map_cons, List.map_nil, with1, with2, onInt, AV.lit, entry, ↓reduceIte, Nat.reduceEqDiff, Nat.reduceAdd, reduceCtorEq, true_and, and_true, Option.map_some, Option.map_none, Option.bind_some, Option.bind_none, cond_true, cond_false, binV, unV, fieldV, loadV, sto, cellsAV, newF, newL, Fr.map, Loc.kill, Loc.set, AV.kill, AV.mapN, AV.mapNL, List.filter_nil, List.filter_cons, allP, EndV, retV, resV, resL, frz, dropL, AV.pick, nilV, tupV, imp_self, ne_eq, Int.cast_ofNat_Int, Int.reduceLT, Int.reduceToNat, List.getD_cons_zero, List.getD_cons_succ, bsliceV, buildV, afill, repl, chunk, rvs, AV.rv, RV.nrm, List.getElem?_nil, List.append_assoc, Nat.reduceMul, Nat.reducePow, Nat.zero_lt_succ, Nat.zero_add, Nat.add_zero, List.length_cons, List.length_nil, Nat.reduceLeDiff, Nat.le_refl, List.take_succ_cons, List.take_zero, List.drop_succ_cons, List.drop_zero, indexV, lenV, rowOf_mapD, rowOf_mapI, rowOf_mapA, List.length_map, Int.toNat_natCast, List.getElem?_cons_zero, List.getElem?_cons_succ, and_self, implies_true, if_true, if_false, HQ_zn, HQ_zr, HQ_wn, HQ_wr, AV.nz, AV.nzL, RV.nrm, SEbin, SEnil, nilK, srcV, dstV, appName, List.length_append, Nat.mul_one, take_map_len, take_map_app, List.getElem?_cons_zero, List.map_append, SEmkmap, SEmset, mgetV, kvOf, getM, setM, c8, r8, v8_1, u8_2, u8_3, u8_4, u8_5, u8_6, u8_7, u8_8, u8_9, u8_10, u8_11, u8_12, u8_13, u8_14, u8_15, u8_16, u8_17, u8_18, u8_19, u8_20, u8_21, u8_22, u8_23, u8_24, u8_25, u8_26, u8_27, u8_28, u8_29, u8_30, u8_31, u8_32, u8_33, u8_34, u8_35, u8_36, ty42, ty3, ty52, ty51, ty4, ty9, ty33, ty36, ty38, ty40, ty34, aokB, aokD, aokA, ↓arO_allN, ↓wrO_allN, ↓arO_kill, wrO_kill, wrL, y1, y2, y3, y4, y5, y6, y7, y8, y9, y10, y11, RecD.av, RecD.row, VerD.avW, VerD.row, PartD.avW, PartD.row, AskD.av, AskD.row, ints, indexV, globD, globR_7]) | (with_reducible refine And.intro ?_ ?_) | (refine call_w0 (d := some 12) (by omega) (by omega) ne (fun _ => by simp) hr3 e6 ( put1_w (7)) rfl ?_ ?_ ?_ ?_ ?_ ?_) | (refine call_w1 (d := some 12) (by omega) (by omega) ne (fun _ => by simp) hr3 e6 ( put1_w (7)) rfl ?_ ?_ ?_ ?_ ?_ ?_) | (refine call_w2 (d := some 12) (by omega) (by omega) ne (fun _ => by simp) hr3 e6 ( put1_w (7)) rfl ?_ ?_ ?_ ?_ ?_ ?_) | (refine call_w0 (d := some 54) (by omega) (by omega) ne (fun _ => by simp) hr3 e18 ( ask_w r.ask) rfl ?_ ?_ ?_ ?_ ?_ ?_) | (refine call_w1 (d := some 54) (by omega) (by omega) ne (fun _ => by simp) hr3 e18 ( ask_w r.ask) rfl ?_ ?_ ?_ ?_ ?_ ?_) | (refine call_w2 (d := some 54) (by omega) (by omega) ne (fun _ => by simp) hr3 e18 ( ask_w r.ask) rfl ?_ ?_ ?_ ?_ ?_ ?_) | (refine EndX.plain ?_) | (refine nil_split (fun hn => ?_) (fun hn => ?_)) | (refine gcall_no not_false ?_) | (refine gdcall_no not_false ?_) | (refine GuardS_of _ _ _ _ _ _ (fun hg => ?_) (fun hg => ?_)) | (refine GuardD_of _ _ _ _ (fun hg => ?_) (fun hg => ?_)) | (refine CondB_of _ _ _ _ _ _ _ ?_ (fun hg => ?_) (fun hg => ?_)))
  all_goals first
    | trivial
    | (intro p hp; simp only [List.mem_cons, List.not_mem_nil, or_false] at hp; rcases hp with rfl | rfl <;> exact ⟨by simp [y3, y4], by simp [y1, y2], rfl⟩)
    | (intro p hp; simp only [List.mem_cons, List.not_mem_nil, or_false] at hp; subst hp; exact ⟨by simp [y3, y4], by simp [y1, y2], rfl⟩)
    | (unfold Fr.below; simp [Fr.allN, AV.allN, AV.allNL, y9, y10]; done)
    | (unfold Loc.below; simp only [List.all_cons, List.all_nil, arO_allN, wrO_allN, y9, y10]; simp [AO.allN, AV.allN, AV.allNL]; done)
    | (simp only [List.length_append, List.length_cons, List.length_nil] at hb ⊢; omega)
    | (refine wr_end3 ?_ ?_ ?_
       · simp [List.map_cons, List.append_assoc]
       · simp [List.map_cons, List.append_assoc, y8]
       · intro x z1 z2; simp [z1, z2, hid])
    | (simp [allP, opd, Fr.get]; done)
theorem rec_w8 (r : RecD) (hk : r.kind = 8) (h : r.sh) : Writes Tryd.prog 8 [r.av] (recB r) := by
  rw [recB_8 hk]
  intro B σ m n bs hW hb
  refine own_ofL [(m, arO bs), (n, wrO m bs)] (hid_sto hW.am hW.an) hid_closed follows Tryd.func8 c8_eq r8 (Nat.le_of_ble_eq_true rfl) fun hcl hsz => ?_
  clear hsz
  obtain ⟨hm, hn, ne, am, an, free⟩ := hW
  have y1 : ∀ s, (n = B + s) = False := fun s => by simp; omega
  have y2 : ∀ s, (B + s = n) = False := fun s => by simp; omega
  have y3 : ∀ s, (m = B + s) = False := fun s => by simp; omega
  have y4 : ∀ s, (B + s = m) = False := fun s => by simp; omega
  have y5 : (m < B) = True := eq_true hm
  have y6 : (n < B) = True := eq_true hn
  have y7 : (m = n) = False := eq_false ne
  have y8 : (n = m) = False := eq_false (fun e => ne e.symm)
  have y9 : decide (m < B + 100000) = true := by simp; omega
  have y10 : decide (n < B + 100000) = true := by simp; omega
  have y11 : (B ≤ m) = False := eq_false (by omega)
  have hr1 := hid_m m n σ
  have hr2 := hid_n m n σ
  have hr3 := hid_kill free
  repeat' (first | (simp -implicitDefEqProofs only [*, contN, contC, Nat.reduceBEq, Bool.or_false, Bool.or_true, Bool.false_or, Bool.true_or, Bool.not_true, Bool.not_false, SEconv, w_skip, w_ret, w_exit, w_reg, w_dreg, w_seq, SK_n, SK_r, SK_x, w_keep, w_block, w_cond, w_nil, w_cons, w_consg, w_nnil, w_ncons, w_dnil, w_dcons, w_dconsg, HK_app, HD_app, HQ_n, HQ_r, HQ_x, HQ_bn, HQ_br, HQ_bx, HQ_en, HQ_er, HQ_ex, CondB_true, CondB_false, SO1, w_sdv, SDe_alloc, SDe_box, SDe_bslice, SDe_app, true_imp_iff, false_imp_iff, and_false, false_and, not_false_eq_true, not_true_eq_false, addN, mkNames, killT, killD, killO, List.foldl_nil, List.foldl_cons, List.append_nil, List.nil_append, List.cons_append, GuardS_true, GuardS_false, GuardD_true, GuardD_false, DK_true, DK_false, lt_self_add, le_self_add, decide_true, decide_false, Bool.false_eq_true, Bool.true_eq_false, Nat.add_left_cancel_iff, SE, SEalloc, SEbox, SEstore, w_bs, SEbl, SEfz, SEbs0, fzName, osOf, AV.fz1, w_app, w_mk, aev, opd, Fr.get, putO, Fr.norm, List.map_cons, List.map_nil, with1, with2, onInt, AV.lit, entry, ↓reduceIte, Nat.reduceEqDiff, Nat.reduceAdd, reduceCtorEq, true_and, and_true, Option.map_some, Option.map_none, Option.bind_some, Option.bind_none, cond_true, cond_false, binV, unV, fieldV, loadV, sto, cellsAV, newF, newL, Fr.map, Loc.kill, Loc.set, AV.kill, AV.mapN, AV.mapNL, List.filter_nil, List.filter_cons, allP, EndV, retV, resV, resL, frz, dropL, AV.pick, nilV, tupV, imp_self, ne_eq, Int.cast_ofNat_Int, Int.reduceLT, Int.reduceToNat, List.getD_cons_zero, List.getD_cons_succ, bsliceV, buildV, afill, repl, chunk, rvs, AV.rv, RV.nrm, List.getElem?_nil, List.append_assoc, Nat.reduceMul, Nat.reducePow, Nat.zero_lt_succ, Nat.zero_add, Nat.add_zero, List.length_cons, List.length_nil, Nat.reduceLeDiff, Nat.le_refl, List.take_succ_cons, List.take_zero, List.drop_succ_cons, List.drop_zero, indexV, lenV, rowOf_mapD, rowOf_mapI, rowOf_mapA, List.length_map, Int.toNat_natCast, List.getElem?_cons_zero, List.getElem?_cons_succ, and_self, implies_true, if_true, if_false, HQ_zn, HQ_zr, HQ_wn, HQ_wr, AV.nz, AV.nzL, RV.nrm, SEbin, SEnil, nilK, srcV, dstV, appName, List.length_append, Nat.mul_one, take_map_len, take_map_app, List.getElem?_cons_zero, List.map_append, SEmkmap, SEmset, mgetV, kvOf, getM, setM, c8, r8, v8_1, u8_2, u8_3, u8_4, u8_5, u8_6, u8_7, u8_8, u8_9, u8_10, u8_11, u8_12, u8_13, u8_14, u8_15, u8_16, u8_17, u8_18, u8_19, u8_20, u8_21, u8_22, u8_23, u8_24, u8_25, u8_26, u8_27, u8_28, u8_29, u8_30, u8_31, u8_32, u8_33, u8_34, u8_35, u8_36, ty42, ty3, ty52, ty51, ty4, ty9, ty33, ty36, ty38, ty40, ty34, aokB, aokD, aokA, ↓arO_allN, ↓wrO_allN, ↓arO_kill, wrO_kill, wrL, y1, y2, y3, y4, y5, y6, y7, y8, y9, y10, y11, RecD.av, RecD.row, VerD.avW, VerD.row, PartD.avW, PartD.row, AskD.av, AskD.row, ints, indexV, globD, globR_8]) | (with_reducible refine And.intro ?_ ?_) | (refine call_w0 (d := some 12) (by omega) (by omega) ne (fun _ => by simp) hr3 e6 ( put1_w (8)) rfl ?_ ?_ ?_ ?_ ?_ ?_) | (refine call_w1 (d := some 12) (by omega) (by omega) ne (fun _ => by simp) hr3 e6 ( put1_w (8)) rfl ?_ ?_ ?_ ?_ ?_ ?_) | (refine call_w2 (d := some 12) (by omega) (by omega) ne (fun _ => by simp) hr3 e6 ( put1_w (8)) rfl ?_ ?_ ?_ ?_ ?_ ?_) | (refine call_w0 (d := some 18) (by omega) (by omega) ne (fun _ => by simp) hr3 e6 ( put_w (r.id) 3 (by omega) (by omega)) rfl ?_ ?_ ?_ ?_ ?_ ?_) | (refine call_w1 (d := some 18) (by omega) (by omega) ne (fun _ => by simp) hr3 e6 ( put_w (r.id) 3 (by omega) (by omega)) rfl ?_ ?_ ?_ ?_ ?_ ?_) | (refine call_w2 (d := some 18) (by omega) (by omega) ne (fun _ => by simp) hr3 e6 ( put_w (r.id) 3 (by omega) (by omega)) rfl ?_ ?_ ?_ ?_ ?_ ?_) | (refine call_w0 (d := some 36) (by omega) (by omega) ne (fun _ => by simp) hr3 e6 ( put_w (r.n) 4 (by omega) (by omega)) rfl ?_ ?_ ?_ ?_ ?_ ?_) | (refine call_w1 (d := some 36) (by omega) (by omega) ne (fun _ => by simp) hr3 e6 ( put_w (r.n) 4 (by omega) (by omega)) rfl ?_ ?_ ?_ ?_ ?_ ?_) | (refine call_w2 (d := some 36) (by omega) (by omega) ne (fun _ => by simp) hr3 e6 ( put_w (r.n) 4 (by omega) (by omega)) rfl ?_ ?_ ?_ ?_ ?_ ?_) | (refine call_w0 (d := some 66) (by omega) (by omega) ne (fun _ => by simp) hr3 e20 ( ints_w r.secs) rfl ?_ ?_ ?_ ?_ ?_ ?_) | (refine call_w1 (d := some 66) (by omega) (by omega) ne (fun _ => by simp) hr3 e20 ( ints_w r.secs) rfl ?_ ?_ ?_ ?_ ?_ ?_) | (refine call_w2 (d := some 66) (by omega) (by omega) ne (fun _ => by simp) hr3 e20 ( ints_w r.secs) rfl ?_ ?_ ?_ ?_ ?_ ?_) | (refine EndX.plain ?_) | (refine nil_split (fun hn => ?_) (fun hn => ?_)) | (refine gcall_no not_false ?_) | (refine gdcall_no not_false ?_) | (refine GuardS_of _ _ _ _ _ _ (fun hg => ?_) (fun hg => ?_)) | (refine GuardD_of _ _ _ _ (fun hg => ?_) (fun hg => ?_)) | (refine CondB_of _ _ _ _ _ _ _ ?_ (fun hg => ?_) (fun hg => ?_)))
  all_goals first
    | trivial
    | (intro p hp; simp only [List.mem_cons, List.not_mem_nil, or_false] at hp; rcases hp with rfl | rfl <;> exact ⟨by simp [y3, y4], by simp [y1, y2], rfl⟩)
    | (intro p hp; simp only [List.mem_cons, List.not_mem_nil, or_false] at hp; subst hp; exact ⟨by simp [y3, y4], by simp [y1, y2], rfl⟩)
    | (unfold Fr.below; simp [Fr.allN, AV.allN, AV.allNL, y9, y10]; done)
    | (unfold Loc.below; simp only [List.all_cons, List.all_nil, arO_allN, wrO_allN, y9, y10]; simp [AO.allN, AV.allN, AV.allNL]; done)
    | (simp only [List.length_append, List.length_cons, List.length_nil] at hb ⊢; omega)
    | (refine wr_end3 ?_ ?_ ?_
       · simp [List.map_cons, List.append_assoc]
       · simp [List.map_cons, List.append_assoc, y8]
       · intro x z1 z2; simp [z1, z2, hid])
    | (simp [allP, opd, Fr.get]; done)
theorem rec_w9 (r : RecD) (hk : r.kind = 9) (h : r.sh) : Writes Tryd.prog 8 [r.av] (recB r) := by
  rw [recB_9 hk]
  intro B σ m n bs hW hb
  refine own_ofL [(m, arO bs), (n, wrO m bs)] (hid_sto hW.am hW.an) hid_closed follows Tryd.func8 c8_eq r8 (Nat.le_of_ble_eq_true rfl) fun hcl hsz => ?_
  clear hsz
  obtain ⟨hm, hn, ne, am, an, free⟩ := hW
  have y1 : ∀ s, (n = B + s) = False := fun s => by simp; omega
  have y2 : ∀ s, (B + s = n) = False := fun s => by simp; omega
  have y3 : ∀ s, (m = B + s) = False := fun s => by simp; omega
  have y4 : ∀ s, (B + s = m) = False := fun s => by simp; omega
  have y5 : (m < B) = True := eq_true hm
  have y6 : (n < B) = True := eq_true hn
  have y7 : (m = n) = False := eq_false ne
  have y8 : (n = m) = False := eq_false (fun e => ne e.symm)
  have y9 : decide (m < B + 100000) = true := by simp; omega
  have y10 : decide (n < B + 100000) = true := by simp; omega
  have y11 : (B ≤ m) = False := eq_false (by omega)
  have hr1 := hid_m m n σ
  have hr2 := hid_n m n σ
  have hr3 := hid_kill free
  repeat' (first | (simp -implicitDefEqProofs only [*, contN, contC, Nat.reduceBEq, Bool.or_false, Bool.or_true, Bool.false_or, Bool.true_or, Bool.not_true, Bool.not_false, SEconv, w_skip, w_ret, w_exit, w_reg, w_dreg, w_seq, SK_n, SK_r, SK_x, w_keep, w_block, w_cond, w_nil, w_cons, w_consg, w_nnil, w_ncons, w_dnil, w_dcons, w_dconsg, HK_app, HD_app, HQ_n, HQ_r, HQ_x, HQ_bn, HQ_br, HQ_bx, HQ_en, HQ_er, HQ_ex, CondB_true, CondB_false, SO1, w_sdv, SDe_alloc, SDe_box, SDe_bslice, SDe_app, true_imp_iff, false_imp_iff, and_false, false_and, not_false_eq_true, not_true_eq_false, addN, mkNames, killT, killD, killO, List.foldl_nil, List.foldl_cons, List.append_nil, List.nil_append, List.cons_append, GuardS_true, GuardS_false, GuardD_true, GuardD_false, DK_true, DK_false, lt_self_add, le_self_add, decide_true, decide_false, Bool.false_eq_true, Bool.true_eq_false, Nat.add_left_cancel_iff, SE, SEalloc, SEbox, SEstore, w_bs, SEbl, SEfz, SEbs0, fzName, osOf, AV.fz1, w_app, w_mk, aev, opd, Fr.get, putO, Fr.norm, List.map_cons, List.map_nil, with1, with2, onInt, AV.lit, entry, ↓reduceIte, Nat.reduceEqDiff, Nat.reduceAdd, reduceCtorEq, true_and, and_true, Option.map_some, Option.map_none, Option.bind_some, Option.bind_none, cond_true, cond_false, binV, unV, fieldV, loadV, sto, cellsAV, newF, newL, Fr.map, Loc.kill, Loc.set, AV.kill, AV.mapN, AV.mapNL, List.filter_nil, List.filter_cons, allP, EndV, retV, resV, resL, frz, dropL, AV.pick, nilV, tupV, imp_self, ne_eq, Int.cast_ofNat_Int, Int.reduceLT, Int.reduceToNat, List.getD_cons_zero, List.getD_cons_succ, bsliceV, buildV, afill, repl, chunk, rvs, AV.rv, RV.nrm, List.getElem?_nil, List.append_assoc, Nat.reduceMul, Nat.reducePow, Nat.zero_lt_succ, Nat.zero_add, Nat.add_zero, List.length_cons, List.length_nil, Nat.reduceLeDiff, Nat.le_refl, List.take_succ_cons, List.take_zero, List.drop_succ_cons, List.drop_zero, indexV, lenV, rowOf_mapD, rowOf_mapI, rowOf_mapA, List.length_map, Int.toNat_natCast, List.getElem?_cons_zero, List.getElem?_cons_succ, and_self, implies_true, if_true, if_false, HQ_zn, HQ_zr, HQ_wn, HQ_wr, AV.nz, AV.nzL, RV.nrm, SEbin, SEnil, nilK, srcV, dstV, appName, List.length_append, Nat.mul_one, take_map_len, take_map_app, List.getElem?_cons_zero, List.map_append, SEmkmap, SEmset, mgetV, kvOf, getM, setM, c8, r8, v8_1, u8_2, u8_3, u8_4, u8_5, u8_6, u8_7, u8_8, u8_9, u8_10, u8_11, u8_12, u8_13, u8_14, u8_15, u8_16, u8_17, u8_18, u8_19, u8_20, u8_21, u8_22, u8_23, u8_24, u8_25, u8_26, u8_27, u8_28, u8_29, u8_30, u8_31, u8_32, u8_33, u8_34, u8_35, u8_36, ty42, ty3, ty52, ty51, ty4, ty9, ty33, ty36, ty38, ty40, ty34, aokB, aokD, aokA, ↓arO_allN, ↓wrO_allN, ↓arO_kill, wrO_kill, wrL, y1, y2, y3, y4, y5, y6, y7, y8, y9, y10, y11, RecD.av, RecD.row, VerD.avW, VerD.row, PartD.avW, PartD.row, AskD.av, AskD.row, ints, indexV, globD, globR_9]) | (with_reducible refine And.intro ?_ ?_) | (refine call_w0 (d := some 12) (by omega) (by omega) ne (fun _ => by simp) hr3 e6 ( put1_w (9)) rfl ?_ ?_ ?_ ?_ ?_ ?_) | (refine call_w1 (d := some 12) (by omega) (by omega) ne (fun _ => by simp) hr3 e6 ( put1_w (9)) rfl ?_ ?_ ?_ ?_ ?_ ?_) | (refine call_w2 (d := some 12) (by omega) (by omega) ne (fun _ => by simp) hr3 e6 ( put1_w (9)) rfl ?_ ?_ ?_ ?_ ?_ ?_) | (refine call_w0 (d := some 18) (by omega) (by omega) ne (fun _ => by simp) hr3 e6 ( put_w (r.id) 3 (by omega) (by omega)) rfl ?_ ?_ ?_ ?_ ?_ ?_) | (refine call_w1 (d := some 18) (by omega) (by omega) ne (fun _ => by simp) hr3 e6 ( put_w (r.id) 3 (by omega) (by omega)) rfl ?_ ?_ ?_ ?_ ?_ ?_) | (refine call_w2 (d := some 18) (by omega) (by omega) ne (fun _ => by simp) hr3 e6 ( put_w (r.id) 3 (by omega) (by omega)) rfl ?_ ?_ ?_ ?_ ?_ ?_) | (refine EndX.plain ?_) | (refine nil_split (fun hn => ?_) (fun hn => ?_)) | (refine gcall_no not_false ?_) | (refine gdcall_no not_false ?_) | (refine GuardS_of _ _ _ _ _ _ (fun hg => ?_) (fun hg => ?_)) | (refine GuardD_of _ _ _ _ (fun hg => ?_) (fun hg => ?_)) | (refine CondB_of _ _ _ _ _ _ _ ?_ (fun hg => ?_) (fun hg => ?_)))
  all_goals first
    | trivial
    | (intro p hp; simp only [List.mem_cons, List.not_mem_nil, or_false] at hp; rcases hp with rfl | rfl <;> exact ⟨by simp [y3, y4], by simp [y1, y2], rfl⟩)
    | (intro p hp; simp only [List.mem_cons, List.not_mem_nil, or_false] at hp; subst hp; exact ⟨by simp [y3, y4], by simp [y1, y2], rfl⟩)
    | (unfold Fr.below; simp [Fr.allN, AV.allN, AV.allNL, y9, y10]; done)
    | (unfold Loc.below; simp only [List.all_cons, List.all_nil, arO_allN, wrO_allN, y9, y10]; simp [AO.allN, AV.allN, AV.allNL]; done)
    | (simp only [List.length_append, List.length_cons, List.length_nil] at hb ⊢; omega)
    | (refine wr_end3 ?_ ?_ ?_
       · simp [List.map_cons, List.append_assoc]
       · simp [List.map_cons, List.append_assoc, y8]
       · intro x z1 z2; simp [z1, z2, hid])
    | (simp [allP, opd, Fr.get]; done)
theorem rec_w10 (r : RecD) (hk : r.kind = 10) (h : r.sh) : Writes Tryd.prog 8 [r.av] (recB r) := by
  rw [recB_10 hk]
  intro B σ m n bs hW hb
  refine own_ofL [(m, arO bs), (n, wrO m bs)] (hid_sto hW.am hW.an) hid_closed follows Tryd.func8 c8_eq r8 (Nat.le_of_ble_eq_true rfl) fun hcl hsz => ?_
  clear hsz
  obtain ⟨hm, hn, ne, am, an, free⟩ := hW
  have y1 : ∀ s, (n = B + s) = False := fun s => by simp; omega
  have y2 : ∀ s, (B + s = n) = False := fun s => by simp; omega
  have y3 : ∀ s, (m = B + s) = False := fun s => by simp; omega
  have y4 : ∀ s, (B + s = m) = False := fun s => by simp; omega
  have y5 : (m < B) = True := eq_true hm
  have y6 : (n < B) = True := eq_true hn
  have y7 : (m = n) = False := eq_false ne
  have y8 : (n = m) = False := eq_false (fun e => ne e.symm)
  have y9 : decide (m < B + 100000) = true := by simp; omega
  have y10 : decide (n < B + 100000) = true := by simp; omega
  have y11 : (B ≤ m) = False := eq_false (by omega)
  have hr1 := hid_m m n σ
  have hr2 := hid_n m n σ
  have hr3 := hid_kill free
  repeat' (first | (simp -implicitDefEqProofs only [*, contN, contC, Nat.reduceBEq, Bool.or_false, Bool.or_true, Bool.false_or, Bool.true_or, Bool.not_true, Bool.not_false, SEconv, w_skip, w_ret, w_exit, w_reg, w_dreg, w_seq, SK_n, SK_r, SK_x, w_keep, w_block, w_cond, w_nil, w_cons, w_consg, w_nnil, w_ncons, w_dnil, w_dcons, w_dconsg, HK_app, HD_app, HQ_n, HQ_r, HQ_x, HQ_bn, HQ_br, HQ_bx, HQ_en, HQ_er, HQ_ex, CondB_true, CondB_false, SO1, w_sdv, SDe_alloc, SDe_box, SDe_bslice, SDe_app, true_imp_iff, false_imp_iff, and_false, false_and, not_false_eq_true, not_true_eq_false, addN, mkNames, killT, killD, killO, List.foldl_nil, List.foldl_cons, List.append_nil, List.nil_append, List.cons_append, GuardS_true, GuardS_false, GuardD_true, GuardD_false, DK_true, DK_false, lt_self_add, le_self_add, decide_true, decide_false, Bool.false_eq_true, Bool.true_eq_false, Nat.add_left_cancel_iff, SE, SEalloc, SEbox, SEstore, w_bs, SEbl, SEfz, SEbs0, fzName, osOf, AV.fz1, w_app, w_mk, aev, opd, Fr.get, putO, Fr.norm, List.map_cons, List.map_nil, with1, with2, onInt, AV.lit, entry, ↓reduceIte, Nat.reduceEqDiff, Nat.reduceAdd, reduceCtorEq, true_and, and_true, Option.map_some, Option.map_none, Option.bind_some, Option.bind_none, cond_true, cond_false, binV, unV, fieldV, loadV, sto, cellsAV, newF, newL, Fr.map, Loc.kill, Loc.set, AV.kill, AV.mapN, AV.mapNL, List.filter_nil, List.filter_cons, allP, EndV, retV, resV, resL, frz, dropL, AV.pick, nilV, tupV, imp_self, ne_eq, Int.cast_ofNat_Int, Int.reduceLT, Int.reduceToNat, List.getD_cons_zero, List.getD_cons_succ, bsliceV, buildV, afill, repl, chunk, rvs, AV.rv, RV.nrm, List.getElem?_nil, List.append_assoc, Nat.reduceMul, Nat.reducePow, Nat.zero_lt_succ, Nat.zero_add, Nat.add_zero, List.length_cons, List.length_nil, Nat.reduceLeDiff, Nat.le_refl, List.take_succ_cons, List.take_zero, List.drop_succ_cons, List.drop_zero, indexV, lenV, rowOf_mapD, rowOf_mapI, rowOf_mapA, List.length_map, Int.toNat_natCast, List.getElem?_cons_zero, List.getElem?_cons_succ, and_self, implies_true, if_true, if_false, HQ_zn, HQ_zr, HQ_wn, HQ_wr, AV.nz, AV.nzL, RV.nrm, SEbin, SEnil, nilK, srcV, dstV, appName, List.length_append, Nat.mul_one, take_map_len, take_map_app, List.getElem?_cons_zero, List.map_append, SEmkmap, SEmset, mgetV, kvOf, getM, setM, c8, r8, v8_1, u8_2, u8_3, u8_4, u8_5, u8_6, u8_7, u8_8, u8_9, u8_10, u8_11, u8_12, u8_13, u8_14, u8_15, u8_16, u8_17, u8_18, u8_19, u8_20, u8_21, u8_22, u8_23, u8_24, u8_25, u8_26, u8_27, u8_28, u8_29, u8_30, u8_31, u8_32, u8_33, u8_34, u8_35, u8_36, ty42, ty3, ty52, ty51, ty4, ty9, ty33, ty36, ty38, ty40, ty34, aokB, aokD, aokA, ↓arO_allN, ↓wrO_allN, ↓arO_kill, wrO_kill, wrL, y1, y2, y3, y4, y5, y6, y7, y8, y9, y10, y11, RecD.av, RecD.row, VerD.avW, VerD.row, PartD.avW, PartD.row, AskD.av, AskD.row, ints, indexV, globD, globR_10]) | (with_reducible refine And.intro ?_ ?_) | (refine call_w0 (d := some 12) (by omega) (by omega) ne (fun _ => by simp) hr3 e6 ( put1_w (10)) rfl ?_ ?_ ?_ ?_ ?_ ?_) | (refine call_w1 (d := some 12) (by omega) (by omega) ne (fun _ => by simp) hr3 e6 ( put1_w (10)) rfl ?_ ?_ ?_ ?_ ?_ ?_) | (refine call_w2 (d := some 12) (by omega) (by omega) ne (fun _ => by simp) hr3 e6 ( put1_w (10)) rfl ?_ ?_ ?_ ?_ ?_ ?_) | (refine call_w0 (d := some 18) (by omega) (by omega) ne (fun _ => by simp) hr3 e6 ( put_w (r.id) 3 (by omega) (by omega)) rfl ?_ ?_ ?_ ?_ ?_ ?_) | (refine call_w1 (d := some 18) (by omega) (by omega) ne (fun _ => by simp) hr3 e6 ( put_w (r.id) 3 (by omega) (by omega)) rfl ?_ ?_ ?_ ?_ ?_ ?_) | (refine call_w2 (d := some 18) (by omega) (by omega) ne (fun _ => by simp) hr3 e6 ( put_w (r.id) 3 (by omega) (by omega)) rfl ?_ ?_ ?_ ?_ ?_ ?_) | (refine call_w0 (d := some 24) (by omega) (by omega) ne (fun _ => by simp) hr3 e15 ( text_w r.name h.name) rfl ?_ ?_ ?_ ?_ ?_ ?_) | (refine call_w1 (d := some 24) (by omega) (by omega) ne (fun _ => by simp) hr3 e15 ( text_w r.name h.name) rfl ?_ ?_ ?_ ?_ ?_ ?_) | (refine call_w2 (d := some 24) (by omega) (by omega) ne (fun _ => by simp) hr3 e15 ( text_w r.name h.name) rfl ?_ ?_ ?_ ?_ ?_ ?_) | (refine call_w0 (d := some 30) (by omega) (by omega) ne (fun _ => by simp) hr3 e15 ( text_w r.key h.key) rfl ?_ ?_ ?_ ?_ ?_ ?_) | (refine call_w1 (d := some 30) (by omega) (by omega) ne (fun _ => by simp) hr3 e15 ( text_w r.key h.key) rfl ?_ ?_ ?_ ?_ ?_ ?_) | (refine call_w2 (d := some 30) (by omega) (by omega) ne (fun _ => by simp) hr3 e15 ( text_w r.key h.key) rfl ?_ ?_ ?_ ?_ ?_ ?_) | (refine EndX.plain ?_) | (refine nil_split (fun hn => ?_) (fun hn => ?_)) | (refine gcall_no not_false ?_) | (refine gdcall_no not_false ?_) | (refine GuardS_of _ _ _ _ _ _ (fun hg => ?_) (fun hg => ?_)) | (refine GuardD_of _ _ _ _ (fun hg => ?_) (fun hg => ?_)) | (refine CondB_of _ _ _ _ _ _ _ ?_ (fun hg => ?_) (fun hg => ?_)))
  all_goals first
    | trivial
    | (intro p hp; simp only [List.mem_cons, List.not_mem_nil, or_false] at hp; rcases hp with rfl | rfl <;> exact ⟨by simp [y3, y4], by simp [y1, y2], rfl⟩)
    | (intro p hp; simp only [List.mem_cons, List.not_mem_nil, or_false] at hp; subst hp; exact ⟨by simp [y3, y4], by simp [y1, y2], rfl⟩)
    | (unfold Fr.below; simp [Fr.allN, AV.allN, AV.allNL, y9, y10]; done)
    | (unfold Loc.below; simp only [List.all_cons, List.all_nil, arO_allN, wrO_allN, y9, y10]; simp [AO.allN, AV.allN, AV.allNL]; done)
    | (simp only [List.length_append, List.length_cons, List.length_nil] at hb ⊢; omega)
    | (refine wr_end3 ?_ ?_ ?_
       · simp [List.map_cons, List.append_assoc]
       · simp [List.map_cons, List.append_assoc, y8]
       · intro x z1 z2; simp [z1, z2, hid])
    | (simp [allP, opd, Fr.get]; done)
theorem rec_w11 (r : RecD) (hk : r.kind = 11) (h : r.sh) : Writes Tryd.prog 8 [r.av] (recB r) := by
  rw [recB_11 hk]
  intro B σ m n bs hW hb
  refine own_ofL [(m, arO bs), (n, wrO m bs)] (hid_sto hW.am hW.an) hid_closed follows Tryd.func8 c8_eq r8 (Nat.le_of_ble_eq_true rfl) fun hcl hsz => ?_
  clear hsz
  obtain ⟨hm, hn, ne, am, an, free⟩ := hW
  have y1 : ∀ s, (n = B + s) = False := fun s => by simp; omega
  have y2 : ∀ s, (B + s = n) = False := fun s => by simp; omega
  have y3 : ∀ s, (m = B + s) = False := fun s => by simp; omega
  have y4 : ∀ s, (B + s = m) = False := fun s => by simp; omega
  have y5 : (m < B) = True := eq_true hm
  have y6 : (n < B) = True := eq_true hn
  have y7 : (m = n) = False := eq_false ne
  have y8 : (n = m) = False := eq_false (fun e => ne e.symm)
  have y9 : decide (m < B + 100000) = true := by simp; omega
  have y10 : decide (n < B + 100000) = true := by simp; omega
  have y11 : (B ≤ m) = False := eq_false (by omega)
  have hr1 := hid_m m n σ
  have hr2 := hid_n m n σ
  have hr3 := hid_kill free
  repeat' (first | (simp -implicitDefEqProofs only [*, contN, contC, Nat.reduceBEq, Bool.or_false, Bool.or_true, Bool.false_or, Bool.true_or, Bool.not_true, Bool.not_false, SEconv, w_skip, w_ret, w_exit, w_reg, w_dreg, w_seq, SK_n, SK_r, SK_x, w_keep, w_block, w_cond, w_nil, w_cons, w_consg, w_nnil, w_ncons, w_dnil, w_dcons, w_dconsg, HK_app, HD_app, HQ_n, HQ_r, HQ_x, HQ_bn, HQ_br, HQ_bx, HQ_en, HQ_er, HQ_ex, CondB_true, CondB_false, SO1, w_sdv, SDe_alloc, SDe_box, SDe_bslice, SDe_app, true_imp_iff, false_imp_iff, and_false, false_and, not_false_eq_true, not_true_eq_false, addN, mkNames, killT, killD, killO, List.foldl_nil, List.foldl_cons, List.append_nil, List.nil_append, List.cons_append, GuardS_true, GuardS_false, GuardD_true, GuardD_false, DK_true, DK_false, lt_self_add, le_self_add, decide_true, decide_false, Bool.false_eq_true, Bool.true_eq_false, Nat.add_left_cancel_iff, SE, SEalloc, SEbox, SEstore, w_bs, SEbl, SEfz, SEbs0, fzName, osOf, AV.fz1, w_app, w_mk, aev, opd, Fr.get, putO, Fr.norm, List.map_cons, List.map_nil, with1, with2, onInt, AV.lit, entry, ↓reduceIte, Nat.reduceEqDiff, Nat.reduceAdd, reduceCtorEq, true_and, and_true, Option.map_some, Option.map_none, Option.bind_some, Option.bind_none, cond_true, cond_false, binV, unV, fieldV, loadV, sto, cellsAV, newF, newL, Fr.map, Loc.kill, Loc.set, AV.kill, AV.mapN, AV.mapNL, List.filter_nil, List.filter_cons, allP, EndV, retV, resV, resL, frz, dropL, AV.pick, nilV, tupV, imp_self, ne_eq, Int.cast_ofNat_Int, Int.reduceLT, Int.reduceToNat, List.getD_cons_zero, List.getD_cons_succ, bsliceV, buildV, afill, repl, chunk, rvs, AV.rv, RV.nrm, List.getElem?_nil, List.append_assoc, Nat.reduceMul, Nat.reducePow, Nat.zero_lt_succ, Nat.zero_add, Nat.add_zero, List.length_cons, List.length_nil, Nat.reduceLeDiff, Nat.le_refl, List.take_succ_cons, List.take_zero, List.drop_succ_cons, List.drop_zero, indexV, lenV, rowOf_mapD, rowOf_mapI, rowOf_mapA, List.length_map, Int.toNat_natCast, List.getElem?_cons_zero, List.getElem?_cons_succ, and_self, implies_true, if_true, if_false, HQ_zn, HQ_zr, HQ_wn, HQ_wr, AV.nz, AV.nzL, RV.nrm, SEbin, SEnil, nilK, srcV, dstV, appName, List.length_append, Nat.mul_one, take_map_len, take_map_app, List.getElem?_cons_zero, List.map_append, SEmkmap, SEmset, mgetV, kvOf, getM, setM, c8, r8, v8_1, u8_2, u8_3, u8_4, u8_5, u8_6, u8_7, u8_8, u8_9, u8_10, u8_11, u8_12, u8_13, u8_14, u8_15, u8_16, u8_17, u8_18, u8_19, u8_20, u8_21, u8_22, u8_23, u8_24, u8_25, u8_26, u8_27, u8_28, u8_29, u8_30, u8_31, u8_32, u8_33, u8_34, u8_35, u8_36, ty42, ty3, ty52, ty51, ty4, ty9, ty33, ty36, ty38, ty40, ty34, aokB, aokD, aokA, ↓arO_allN, ↓wrO_allN, ↓arO_kill, wrO_kill, wrL, y1, y2, y3, y4, y5, y6, y7, y8, y9, y10, y11, RecD.av, RecD.row, VerD.avW, VerD.row, PartD.avW, PartD.row, AskD.av, AskD.row, ints, indexV, globD, globR_11]) | (with_reducible refine And.intro ?_ ?_) | (refine call_w0 (d := some 12) (by omega) (by omega) ne (fun _ => by simp) hr3 e6 ( put1_w (11)) rfl ?_ ?_ ?_ ?_ ?_ ?_) | (refine call_w1 (d := some 12) (by omega) (by omega) ne (fun _ => by simp) hr3 e6 ( put1_w (11)) rfl ?_ ?_ ?_ ?_ ?_ ?_) | (refine call_w2 (d := some 12) (by omega) (by omega) ne (fun _ => by simp) hr3 e6 ( put1_w (11)) rfl ?_ ?_ ?_ ?_ ?_ ?_) | (refine call_w0 (d := some 18) (by omega) (by omega) ne (fun _ => by simp) hr3 e6 ( put_w (r.id) 3 (by omega) (by omega)) rfl ?_ ?_ ?_ ?_ ?_ ?_) | (refine call_w1 (d := some 18) (by omega) (by omega) ne (fun _ => by simp) hr3 e6 ( put_w (r.id) 3 (by omega) (by omega)) rfl ?_ ?_ ?_ ?_ ?_ ?_) | (refine call_w2 (d := some 18) (by omega) (by omega) ne (fun _ => by simp) hr3 e6 ( put_w (r.id) 3 (by omega) (by omega)) rfl ?_ ?_ ?_ ?_ ?_ ?_) | (refine call_w0 (d := some 60) (by omega) (by omega) ne (fun _ => by simp) hr3 e19 ( part_w r.part) rfl ?_ ?_ ?_ ?_ ?_ ?_) | (refine call_w1 (d := some 60) (by omega) (by omega) ne (fun _ => by simp) hr3 e19 ( part_w r.part) rfl ?_ ?_ ?_ ?_ ?_ ?_) | (refine call_w2 (d := some 60) (by omega) (by omega) ne (fun _ => by simp) hr3 e19 ( part_w r.part) rfl ?_ ?_ ?_ ?_ ?_ ?_) | (refine EndX.plain ?_) | (refine nil_split (fun hn => ?_) (fun hn => ?_)) | (refine gcall_no not_false ?_) | (refine gdcall_no not_false ?_) | (refine GuardS_of _ _ _ _ _ _ (fun hg => ?_) (fun hg => ?_)) | (refine GuardD_of _ _ _ _ (fun hg => ?_) (fun hg => ?_)) | (refine CondB_of _ _ _ _ _ _ _ ?_ (fun hg => ?_) (fun hg => ?_)))
  all_goals first
    | trivial
    | (intro p hp; simp only [List.mem_cons, List.not_mem_nil, or_false] at hp; rcases hp with rfl | rfl <;> exact ⟨by simp [y3, y4], by simp [y1, y2], rfl⟩)
    | (intro p hp; simp only [List.mem_cons, List.not_mem_nil, or_false] at hp; subst hp; exact ⟨by simp [y3, y4], by simp [y1, y2], rfl⟩)
    | (unfold Fr.below; simp [Fr.allN, AV.allN, AV.allNL, y9, y10]; done)
    | (unfold Loc.below; simp only [List.all_cons, List.all_nil, arO_allN, wrO_allN, y9, y10]; simp [AO.allN, AV.allN, AV.allNL]; done)
    | (simp only [List.length_append, List.length_cons, List.length_nil] at hb ⊢; omega)
    | (refine wr_end3 ?_ ?_ ?_
       · simp [List.map_cons, List.append_assoc]
       · simp [List.map_cons, List.append_assoc, y8]
       · intro x z1 z2; simp [z1, z2, hid])
    | (simp [allP, opd, Fr.get]; done)
theorem rec_w12 (r : RecD) (hk : r.kind = 12) (h : r.sh) : Writes Tryd.prog 8 [r.av] (recB r) := by
  rw [recB_12 hk]
  intro B σ m n bs hW hb
  refine own_ofL [(m, arO bs), (n, wrO m bs)] (hid_sto hW.am hW.an) hid_closed follows Tryd.func8 c8_eq r8 (Nat.le_of_ble_eq_true rfl) fun hcl hsz => ?_
  clear hsz
  obtain ⟨hm, hn, ne, am, an, free⟩ := hW
  have y1 : ∀ s, (n = B + s) = False := fun s => by simp; omega
  have y2 : ∀ s, (B + s = n) = False := fun s => by simp; omega
  have y3 : ∀ s, (m = B + s) = False := fun s => by simp; omega
  have y4 : ∀ s, (B + s = m) = False := fun s => by simp; omega
  have y5 : (m < B) = True := eq_true hm
  have y6 : (n < B) = True := eq_true hn
  have y7 : (m = n) = False := eq_false ne
  have y8 : (n = m) = False := eq_false (fun e => ne e.symm)
  have y9 : decide (m < B + 100000) = true := by simp; omega
  have y10 : decide (n < B + 100000) = true := by simp; omega
  have y11 : (B ≤ m) = False := eq_false (by omega)
  have hr1 := hid_m m n σ
  have hr2 := hid_n m n σ
  have hr3 := hid_kill free
  repeat' (first | (simp -implicitDefEqProofs only [*, contN, contC, Nat.reduceBEq, Bool.or_false, Bool.or_true, Bool.false_or, Bool.true_or, Bool.not_true, Bool.not_false, SEconv, w_skip, w_ret, w_exit, w_reg, w_dreg, w_seq, SK_n, SK_r, SK_x, w_keep, w_block, w_cond, w_nil, w_cons, w_consg, w_nnil, w_ncons, w_dnil, w_dcons, w_dconsg, HK_app, HD_app, HQ_n, HQ_r, HQ_x, HQ_bn, HQ_br, HQ_bx, HQ_en, HQ_er, HQ_ex, CondB_true, CondB_false, SO1, w_sdv, SDe_alloc, SDe_box, SDe_bslice, SDe_app, true_imp_iff, false_imp_iff, and_false, false_and, not_false_eq_true, not_true_eq_false, addN, mkNames, killT, killD, killO, List.foldl_nil, List.foldl_cons, List.append_nil, List.nil_append, List.cons_append, GuardS_true, GuardS_false, GuardD_true, GuardD_false, DK_true, DK_false, lt_self_add, le_self_add, decide_true, decide_false, Bool.false_eq_true, Bool.true_eq_false, Nat.add_left_cancel_iff, SE, SEalloc, SEbox, SEstore, w_bs, SEbl, SEfz, SEbs0, fzName, osOf, AV.fz1, w_app, w_mk, aev, opd, Fr.get, putO, Fr.norm, List.map_cons, List.map_nil, with1, with2, onInt, AV.lit, entry, ↓reduceIte, Nat.reduceEqDiff, Nat.reduceAdd, reduceCtorEq, true_and, and_true, Option.map_some, Option.map_none, Option.bind_some, Option.bind_none, cond_true, cond_false, binV, unV, fieldV, loadV, sto, cellsAV, newF, newL, Fr.map, Loc.kill, Loc.set, AV.kill, AV.mapN, AV.mapNL, List.filter_nil, List.filter_cons, allP, EndV, retV, resV, resL, frz, dropL, AV.pick, nilV, tupV, imp_self, ne_eq, Int.cast_ofNat_Int, Int.reduceLT, Int.reduceToNat, List.getD_cons_zero, List.getD_cons_succ, bsliceV, buildV, afill, repl, chunk, rvs, AV.rv, RV.nrm, List.getElem?_nil, List.append_assoc, Nat.reduceMul, Nat.reducePow, Nat.zero_lt_succ, Nat.zero_add, Nat.add_zero, List.length_cons, List.length_nil, Nat.reduceLeDiff, Nat.le_refl, List.take_succ_cons, List.take_zero, List.drop_succ_cons, List.drop_zero, indexV, lenV, rowOf_mapD, rowOf_mapI, rowOf_mapA, List.length_map, Int.toNat_natCast, List.getElem?_cons_zero, List.getElem?_cons_succ, and_self, implies_true, if_true, if_false, HQ_zn, HQ_zr, HQ_wn, HQ_wr, AV.nz, AV.nzL, RV.nrm, SEbin, SEnil, nilK, srcV, dstV, appName, List.length_append, Nat.mul_one, take_map_len, take_map_app, List.getElem?_cons_zero, List.map_append, SEmkmap, SEmset, mgetV, kvOf, getM, setM, c8, r8, v8_1, u8_2, u8_3, u8_4, u8_5, u8_6, u8_7, u8_8, u8_9, u8_10, u8_11, u8_12, u8_13, u8_14, u8_15, u8_16, u8_17, u8_18, u8_19, u8_20, u8_21, u8_22, u8_23, u8_24, u8_25, u8_26, u8_27, u8_28, u8_29, u8_30, u8_31, u8_32, u8_33, u8_34, u8_35, u8_36, ty42, ty3, ty52, ty51, ty4, ty9, ty33, ty36, ty38, ty40, ty34, aokB, aokD, aokA, ↓arO_allN, ↓wrO_allN, ↓arO_kill, wrO_kill, wrL, y1, y2, y3, y4, y5, y6, y7, y8, y9, y10, y11, RecD.av, RecD.row, VerD.avW, VerD.row, PartD.avW, PartD.row, AskD.av, AskD.row, ints, indexV, globD, globR_12]) | (with_reducible refine And.intro ?_ ?_) | (refine call_w0 (d := some 12) (by omega) (by omega) ne (fun _ => by simp) hr3 e6 ( put1_w (12)) rfl ?_ ?_ ?_ ?_ ?_ ?_) | (refine call_w1 (d := some 12) (by omega) (by omega) ne (fun _ => by simp) hr3 e6 ( put1_w (12)) rfl ?_ ?_ ?_ ?_ ?_ ?_) | (refine call_w2 (d := some 12) (by omega) (by omega) ne (fun _ => by simp) hr3 e6 ( put1_w (12)) rfl ?_ ?_ ?_ ?_ ?_ ?_) | (refine call_w0 (d := some 18) (by omega) (by omega) ne (fun _ => by simp) hr3 e6 ( put_w (r.id) 3 (by omega) (by omega)) rfl ?_ ?_ ?_ ?_ ?_ ?_) | (refine call_w1 (d := some 18) (by omega) (by omega) ne (fun _ => by simp) hr3 e6 ( put_w (r.id) 3 (by omega) (by omega)) rfl ?_ ?_ ?_ ?_ ?_ ?_) | (refine call_w2 (d := some 18) (by omega) (by omega) ne (fun _ => by simp) hr3 e6 ( put_w (r.id) 3 (by omega) (by omega)) rfl ?_ ?_ ?_ ?_ ?_ ?_) | (refine EndX.plain ?_) | (refine nil_split (fun hn => ?_) (fun hn => ?_)) | (refine gcall_no not_false ?_) | (refine gdcall_no not_false ?_) | (refine GuardS_of _ _ _ _ _ _ (fun hg => ?_) (fun hg => ?_)) | (refine GuardD_of _ _ _ _ (fun hg => ?_) (fun hg => ?_)) | (refine CondB_of _ _ _ _ _ _ _ ?_ (fun hg => ?_) (fun hg => ?_)))
  all_goals first
    | trivial
    | (intro p hp; simp only [List.mem_cons, List.not_mem_nil, or_false] at hp; rcases hp with rfl | rfl <;> exact ⟨by simp [y3, y4], by simp [y1, y2], rfl⟩)
    | (intro p hp; simp only [List.mem_cons, List.not_mem_nil, or_false] at hp; subst hp; exact ⟨by simp [y3, y4], by simp [y1, y2], rfl⟩)
    | (unfold Fr.below; simp [Fr.allN, AV.allN, AV.allNL, y9, y10]; done)
    | (unfold Loc.below; simp only [List.all_cons, List.all_nil, arO_allN, wrO_allN, y9, y10]; simp [AO.allN, AV.allN, AV.allNL]; done)
    | (simp only [List.length_append, List.length_cons, List.length_nil] at hb ⊢; omega)
    | (refine wr_end3 ?_ ?_ ?_
       · simp [List.map_cons, List.append_assoc]
       · simp [List.map_cons, List.append_assoc, y8]
       · intro x z1 z2; simp [z1, z2, hid])
    | (simp [allP, opd, Fr.get]; done)
theorem rec_w13 (r : RecD) (hk : r.kind = 13) (h : r.sh) : Writes Tryd.prog 8 [r.av] (recB r) := by
  rw [recB_13 hk]
  intro B σ m n bs hW hb
  refine own_ofL [(m, arO bs), (n, wrO m bs)] (hid_sto hW.am hW.an) hid_closed follows Tryd.func8 c8_eq r8 (Nat.le_of_ble_eq_true rfl) fun hcl hsz => ?_
  clear hsz
  obtain ⟨hm, hn, ne, am, an, free⟩ := hW
  have y1 : ∀ s, (n = B + s) = False := fun s => by simp; omega
  have y2 : ∀ s, (B + s = n) = False := fun s => by simp; omega
  have y3 : ∀ s, (m = B + s) = False := fun s => by simp; omega
  have y4 : ∀ s, (B + s = m) = False := fun s => by simp; omega
  have y5 : (m < B) = True := eq_true hm
  have y6 : (n < B) = True := eq_true hn
  have y7 : (m = n) = False := eq_false ne
  have y8 : (n = m) = False := eq_false (fun e => ne e.symm)
  have y9 : decide (m < B + 100000) = true := by simp; omega
  have y10 : decide (n < B + 100000) = true := by simp; omega
  have y11 : (B ≤ m) = False := eq_false (by omega)
  have hr1 := hid_m m n σ
  have hr2 := hid_n m n σ
  have hr3 := hid_kill free
  repeat' (first | (simp -implicitDefEqProofs only [*, contN, contC, Nat.reduceBEq, Bool.or_false, Bool.or_true, Bool.false_or, Bool.true_or, Bool.not_true, Bool.not_false, SEconv, w_skip, w_ret, w_exit, w_reg, w_dreg, w_seq, SK_n, SK_r, SK_x, w_keep, w_block, w_cond, w_nil, w_cons, w_consg, w_nnil, w_ncons, w_dnil, w_dcons, w_dconsg, HK_app, HD_app, HQ_n, HQ_r, HQ_x, HQ_bn, HQ_br, HQ_bx, HQ_en, HQ_er, HQ_ex, CondB_true, CondB_false, SO1, w_sdv, SDe_alloc, SDe_box, SDe_bslice, SDe_app, true_imp_iff, false_imp_iff, and_false, false_and, not_false_eq_true, not_true_eq_false, addN, mkNames, killT, killD, killO, List.foldl_nil, List.foldl_cons, List.append_nil, List.nil_append, List.cons_append, GuardS_true, GuardS_false, GuardD_true, GuardD_false, DK_true, DK_false, lt_self_add, le_self_add, decide_true, decide_false, Bool.false_eq_true, Bool.true_eq_false, Nat.add_left_cancel_iff, SE, SEalloc, SEbox, SEstore, w_bs, SEbl, SEfz, SEbs0, fzName, osOf, AV.fz1, w_app, w_mk, aev, opd, Fr.get, putO, Fr.norm, List.map_cons, List.map_nil, with1, with2, onInt, AV.lit, entry, ↓reduceIte, Nat.reduceEqDiff, Nat.reduceAdd, reduceCtorEq, true_and, and_true, Option.map_some, Option.map_none, Option.bind_some, Option.bind_none, cond_true, cond_false, binV, unV, fieldV, loadV, sto, cellsAV, newF, newL, Fr.map, Loc.kill, Loc.set, AV.kill, AV.mapN, AV.mapNL, List.filter_nil, List.filter_cons, allP, EndV, retV, resV, resL, frz, dropL, AV.pick, nilV, tupV, imp_self, ne_eq, Int.cast_ofNat_Int, Int.reduceLT, Int.reduceToNat, List.getD_cons_zero, List.getD_cons_succ, bsliceV, buildV, afill, repl, chunk, rvs, AV.rv, RV.nrm, List.getElem?_nil, List.append_assoc, Nat.reduceMul, Nat.reducePow, Nat.zero_lt_succ, Nat.zero_add, Nat.add_zero, List.length_cons, List.length_nil, Nat.reduceLeDiff, Nat.le_refl, List.take_succ_cons, List.take_zero, List.drop_succ_cons, List.drop_zero, indexV, lenV, rowOf_mapD, rowOf_mapI, rowOf_mapA, List.length_map, Int.toNat_natCast, List.getElem?_cons_zero, List.getElem?_cons_succ, and_self, implies_true, if_true, if_false, HQ_zn, HQ_zr, HQ_wn, HQ_wr, AV.nz, AV.nzL, RV.nrm, SEbin, SEnil, nilK, srcV, dstV, appName, List.length_append, Nat.mul_one, take_map_len, take_map_app, List.getElem?_cons_zero, List.map_append, SEmkmap, SEmset, mgetV, kvOf, getM, setM, c8, r8, v8_1, u8_2, u8_3, u8_4, u8_5, u8_6, u8_7, u8_8, u8_9, u8_10, u8_11, u8_12, u8_13, u8_14, u8_15, u8_16, u8_17, u8_18, u8_19, u8_20, u8_21, u8_22, u8_23, u8_24, u8_25, u8_26, u8_27, u8_28, u8_29, u8_30, u8_31, u8_32, u8_33, u8_34, u8_35, u8_36, ty42, ty3, ty52, ty51, ty4, ty9, ty33, ty36, ty38, ty40, ty34, aokB, aokD, aokA, ↓arO_allN, ↓wrO_allN, ↓arO_kill, wrO_kill, wrL, y1, y2, y3, y4, y5, y6, y7, y8, y9, y10, y11, RecD.av, RecD.row, VerD.avW, VerD.row, PartD.avW, PartD.row, AskD.av, AskD.row, ints, indexV, globD, globR_13]) | (with_reducible refine And.intro ?_ ?_) | (refine call_w0 (d := some 12) (by omega) (by omega) ne (fun _ => by simp) hr3 e6 ( put1_w (13)) rfl ?_ ?_ ?_ ?_ ?_ ?_) | (refine call_w1 (d := some 12) (by omega) (by omega) ne (fun _ => by simp) hr3 e6 ( put1_w (13)) rfl ?_ ?_ ?_ ?_ ?_ ?_) | (refine call_w2 (d := some 12) (by omega) (by omega) ne (fun _ => by simp) hr3 e6 ( put1_w (13)) rfl ?_ ?_ ?_ ?_ ?_ ?_) | (refine call_w0 (d := some 36) (by omega) (by omega) ne (fun _ => by simp) hr3 e6 ( put_w (r.n) 4 (by omega) (by omega)) rfl ?_ ?_ ?_ ?_ ?_ ?_) | (refine call_w1 (d := some 36) (by omega) (by omega) ne (fun _ => by simp) hr3 e6 ( put_w (r.n) 4 (by omega) (by omega)) rfl ?_ ?_ ?_ ?_ ?_ ?_) | (refine call_w2 (d := some 36) (by omega) (by omega) ne (fun _ => by simp) hr3 e6 ( put_w (r.n) 4 (by omega) (by omega)) rfl ?_ ?_ ?_ ?_ ?_ ?_) | (refine EndX.plain ?_) | (refine nil_split (fun hn => ?_) (fun hn => ?_)) | (refine gcall_no not_false ?_) | (refine gdcall_no not_false ?_) | (refine GuardS_of _ _ _ _ _ _ (fun hg => ?_) (fun hg => ?_)) | (refine GuardD_of _ _ _ _ (fun hg => ?_) (fun hg => ?_)) | (refine CondB_of _ _ _ _ _ _ _ ?_ (fun hg => ?_) (fun hg => ?_)))
  all_goals first
    | trivial
    | (intro p hp; simp only [List.mem_cons, List.not_mem_nil, or_false] at hp; rcases hp with rfl | rfl <;> exact ⟨by simp [y3, y4], by simp [y1, y2], rfl⟩)
    | (intro p hp; simp only [List.mem_cons, List.not_mem_nil, or_false] at hp; subst hp; exact ⟨by simp [y3, y4], by simp [y1, y2], rfl⟩)
    | (unfold Fr.below; simp [Fr.allN, AV.allN, AV.allNL, y9, y10]; done)
    | (unfold Loc.below; simp only [List.all_cons, List.all_nil, arO_allN, wrO_allN, y9, y10]; simp [AO.allN, AV.allN, AV.allNL]; done)
    | (simp only [List.length_append, List.length_cons, List.length_nil] at hb ⊢; omega)
    | (refine wr_end3 ?_ ?_ ?_
       · simp [List.map_cons, List.append_assoc]
       · simp [List.map_cons, List.append_assoc, y8]
       · intro x z1 z2; simp [z1, z2, hid])
    | (simp [allP, opd, Fr.get]; done)
theorem rec_w14 (r : RecD) (hk : r.kind = 14) (h : r.sh) : Writes Tryd.prog 8 [r.av] (recB r) := by
  rw [recB_14 hk]
  intro B σ m n bs hW hb
  refine own_ofL [(m, arO bs), (n, wrO m bs)] (hid_sto hW.am hW.an) hid_closed follows Tryd.func8 c8_eq r8 (Nat.le_of_ble_eq_true rfl) fun hcl hsz => ?_
  clear hsz
  obtain ⟨hm, hn, ne, am, an, free⟩ := hW
  have y1 : ∀ s, (n = B + s) = False := fun s => by simp; omega
  have y2 : ∀ s, (B + s = n) = False := fun s => by simp; omega
  have y3 : ∀ s, (m = B + s) = False := fun s => by simp; omega
  have y4 : ∀ s, (B + s = m) = False := fun s => by simp; omega
  have y5 : (m < B) = True := eq_true hm
  have y6 : (n < B) = True := eq_true hn
  have y7 : (m = n) = False := eq_false ne
  have y8 : (n = m) = False := eq_false (fun e => ne e.symm)
  have y9 : decide (m < B + 100000) = true := by simp; omega
  have y10 : decide (n < B + 100000) = true := by simp; omega
  have y11 : (B ≤ m) = False := eq_false (by omega)
  have hr1 := hid_m m n σ
  have hr2 := hid_n m n σ
  have hr3 := hid_kill free
  repeat' (first | (simp -implicitDefEqProofs only [*, contN, contC, Nat.reduceBEq, Bool.or_false, Bool.or_true, Bool.false_or, Bool.true_or, Bool.not_true, Bool.not_false, SEconv, w_skip, w_ret, w_exit, w_reg, w_dreg, w_seq, SK_n, SK_r, SK_x, w_keep, w_block, w_cond, w_nil, w_cons, w_consg, w_nnil, w_ncons, w_dnil, w_dcons, w_dconsg, HK_app, HD_app, HQ_n, HQ_r, HQ_x, HQ_bn, HQ_br, HQ_bx, HQ_en, HQ_er, HQ_ex, CondB_true, CondB_false, SO1, w_sdv, SDe_alloc, SDe_box, SDe_bslice, SDe_app, true_imp_iff, false_imp_iff, and_false, false_and, not_false_eq_true, not_true_eq_false, addN, mkNames, killT, killD, killO, List.foldl_nil, List.foldl_cons, List.append_nil, List.nil_append, List.cons_append, GuardS_true, GuardS_false, GuardD_true, GuardD_false, DK_true, DK_false, lt_self_add, le_self_add, decide_true, decide_false, Bool.false_eq_true, Bool.true_eq_false, Nat.add_left_cancel_iff, SE, SEalloc, SEbox, SEstore, w_bs, SEbl, SEfz, SEbs0, fzName, osOf, AV.fz1, w_app, w_mk, aev, opd, Fr.get, putO, Fr.norm, List.map_cons, List.map_nil, with1, with2, onInt, AV.lit, entry, ↓reduceIte, Nat.reduceEqDiff, Nat.reduceAdd, reduceCtorEq, true_and, and_true, Option.map_some, Option.map_none, Option.bind_some, Option.bind_none, cond_true, cond_false, binV, unV, fieldV, loadV, sto, cellsAV, newF, newL, Fr.map, Loc.kill, Loc.set, AV.kill, AV.mapN, AV.mapNL, List.filter_nil, List.filter_cons, allP, EndV, retV, resV, resL, frz, dropL, AV.pick, nilV, tupV, imp_self, ne_eq, Int.cast_ofNat_Int, Int.reduceLT, Int.reduceToNat, List.getD_cons_zero, List.getD_cons_succ, bsliceV, buildV, afill, repl, chunk, rvs, AV.rv, RV.nrm, List.getElem?_nil, List.append_assoc, Nat.reduceMul, Nat.reducePow, Nat.zero_lt_succ, Nat.zero_add, Nat.add_zero, List.length_cons, List.length_nil, Nat.reduceLeDiff, Nat.le_refl, List.take_succ_cons, List.take_zero, List.drop_succ_cons, List.drop_zero, indexV, lenV, rowOf_mapD, rowOf_mapI, rowOf_mapA, List.length_map, Int.toNat_natCast, List.getElem?_cons_zero, List.getElem?_cons_succ, and_self, implies_true, if_true, if_false, HQ_zn, HQ_zr, HQ_wn, HQ_wr, AV.nz, AV.nzL, RV.nrm, SEbin, SEnil, nilK, srcV, dstV, appName, List.length_append, Nat.mul_one, take_map_len, take_map_app, List.getElem?_cons_zero, List.map_append, SEmkmap, SEmset, mgetV, kvOf, getM, setM, c8, r8, v8_1, u8_2, u8_3, u8_4, u8_5, u8_6, u8_7, u8_8, u8_9, u8_10, u8_11, u8_12, u8_13, u8_14, u8_15, u8_16, u8_17, u8_18, u8_19, u8_20, u8_21, u8_22, u8_23, u8_24, u8_25, u8_26, u8_27, u8_28, u8_29, u8_30, u8_31, u8_32, u8_33, u8_34, u8_35, u8_36, ty42, ty3, ty52, ty51, ty4, ty9, ty33, ty36, ty38, ty40, ty34, aokB, aokD, aokA, ↓arO_allN, ↓wrO_allN, ↓arO_kill, wrO_kill, wrL, y1, y2, y3, y4, y5, y6, y7, y8, y9, y10, y11, RecD.av, RecD.row, VerD.avW, VerD.row, PartD.avW, PartD.row, AskD.av, AskD.row, ints, indexV, globD, globR_14]) | (with_reducible refine And.intro ?_ ?_) | (refine call_w0 (d := some 12) (by omega) (by omega) ne (fun _ => by simp) hr3 e6 ( put1_w (14)) rfl ?_ ?_ ?_ ?_ ?_ ?_) | (refine call_w1 (d := some 12) (by omega) (by omega) ne (fun _ => by simp) hr3 e6 ( put1_w (14)) rfl ?_ ?_ ?_ ?_ ?_ ?_) | (refine call_w2 (d := some 12) (by omega) (by omega) ne (fun _ => by simp) hr3 e6 ( put1_w (14)) rfl ?_ ?_ ?_ ?_ ?_ ?_) | (refine call_w0 (d := some 72) (by omega) (by omega) ne (fun _ => by simp) hr3 e6 ( put1_w (r.vol)) rfl ?_ ?_ ?_ ?_ ?_ ?_) | (refine call_w1 (d := some 72) (by omega) (by omega) ne (fun _ => by simp) hr3 e6 ( put1_w (r.vol)) rfl ?_ ?_ ?_ ?_ ?_ ?_) | (refine call_w2 (d := some 72) (by omega) (by omega) ne (fun _ => by simp) hr3 e6 ( put1_w (r.vol)) rfl ?_ ?_ ?_ ?_ ?_ ?_) | (refine EndX.plain ?_) | (refine nil_split (fun hn => ?_) (fun hn => ?_)) | (refine gcall_no not_false ?_) | (refine gdcall_no not_false ?_) | (refine GuardS_of _ _ _ _ _ _ (fun hg => ?_) (fun hg => ?_)) | (refine GuardD_of _ _ _ _ (fun hg => ?_) (fun hg => ?_)) | (refine CondB_of _ _ _ _ _ _ _ ?_ (fun hg => ?_) (fun hg => ?_)))
  all_goals first
    | trivial
    | (intro p hp; simp only [List.mem_cons, List.not_mem_nil, or_false] at hp; rcases hp with rfl | rfl <;> exact ⟨by simp [y3, y4], by simp [y1, y2], rfl⟩)
    | (intro p hp; simp only [List.mem_cons, List.not_mem_nil, or_false] at hp; subst hp; exact ⟨by simp [y3, y4], by simp [y1, y2], rfl⟩)
    | (unfold Fr.below; simp [Fr.allN, AV.allN, AV.allNL, y9, y10]; done)
    | (unfold Loc.below; simp only [List.all_cons, List.all_nil, arO_allN, wrO_allN, y9, y10]; simp [AO.allN, AV.allN, AV.allNL]; done)
    | (simp only [List.length_append, List.length_cons, List.length_nil] at hb ⊢; omega)
    | (refine wr_end3 ?_ ?_ ?_
       · simp [List.map_cons, List.append_assoc]
       · simp [List.map_cons, List.append_assoc, y8]
       · intro x z1 z2; simp [z1, z2, hid])
    | (simp [allP, opd, Fr.get]; done)
theorem rec_w (r : RecD) (h1 : 1 ≤ r.kind) (h2 : r.kind ≤ 14) (h : r.sh) : Writes Tryd.prog 8 [r.av] (recB r) := by
  rcases (by omega : r.kind = 1 ∨ r.kind = 2 ∨ r.kind = 3 ∨ r.kind = 4 ∨ r.kind = 5 ∨ r.kind = 6 ∨ r.kind = 7 ∨ r.kind = 8 ∨ r.kind = 9 ∨ r.kind = 10 ∨ r.kind = 11 ∨ r.kind = 12 ∨ r.kind = 13 ∨ r.kind = 14) with hk | hk | hk | hk | hk | hk | hk | hk | hk | hk | hk | hk | hk | hk
  · exact rec_w1 r hk h
  · exact rec_w2 r hk h
  · exact rec_w3 r hk h
  · exact rec_w4 r hk h
  · exact rec_w5 r hk h
  · exact rec_w6 r hk h
  · exact rec_w7 r hk h
  · exact rec_w8 r hk h
  · exact rec_w9 r hk h
  · exact rec_w10 r hk h
  · exact rec_w11 r hk h
  · exact rec_w12 r hk h
  · exact rec_w13 r hk h
  · exact rec_w14 r hk h
end Go.Proofs.YtckjgipcephmfaaDoor
