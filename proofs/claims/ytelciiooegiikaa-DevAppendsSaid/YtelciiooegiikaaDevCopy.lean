/- The reference's copy of Devices, in one's own memory. -/
import Derived.Test.YtelciiooegiikaaDevOwn
import Derived.Test.YtelciiooegiikaaTypes
namespace Go.Proofs.Ytelciiooegiikaa
open Go.RowKit
set_option maxRecDepth 100000
def c4_1 : SC := (.cond (.tmp 17) .skip (.exit 0))
theorem u4_1 : type_of% (@swc _ _ c4_1.eq_1) := @swc _ _ c4_1.eq_1
def o4_2 : List SO := ((SO.mk (some 24) (.load 29 (.tmp 23)) none) :: (SO.mk (some 25) (.bslice 24 1 [(0 , (.tmp 24))]) none) :: (SO.mk (some 26) (.call 9 [(.tmp 25)]) none) :: (SO.mk (some 5) (.move (.tmp 26)) none) :: [])
theorem v4_2 : type_of% (@swl _ _ o4_2.eq_1) := @swl _ _ o4_2.eq_1
def o4_3 : List SO := ((SO.mk (some 31) (.app 24 24 (.tmp 28) (.tmp 30)) none) :: (SO.mk (some 32) (.faddr 28 (.tmp 3) 0) none) :: (SO.mk none (.store 24 (.tmp 32) (.tmp 31)) none) :: [])
theorem v4_3 : type_of% (@swl _ _ o4_3.eq_1) := @swl _ _ o4_3.eq_1
def c4_4 : SC := (.reg ((SO.mk (some 27) (.faddr 28 (.tmp 3) 0) none) :: (SO.mk (some 28) (.load 24 (.tmp 27)) none) :: (SO.mk (some 29) (.move (.tmp 5)) none) :: (SO.mk (some 30) (.bslice 24 1 [(0 , (.tmp 29))]) none) :: o4_3))
theorem u4_4 : type_of% (@swc _ _ c4_4.eq_1) := @swc _ _ c4_4.eq_1
def c4_5 : SC := (.reg [SO.mk (some 18) (.move (.tmp 4)) none, SO.mk (some 19) (.bin .add 3 (.tmp 18) (.const (Value.int .i64 1))) none, SO.mk (some 4) (.move (.tmp 19)) none])
theorem u4_5 : type_of% (@swc _ _ c4_5.eq_1) := @swc _ _ c4_5.eq_1
def c4_6 : SC := (.seq (.block 1 (.seq (.reg ((SO.mk (some 20) (.faddr 28 (.tmp 1) 0) none) :: (SO.mk (some 21) (.load 24 (.tmp 20)) none) :: (SO.mk (some 22) (.move (.tmp 4)) none) :: (SO.mk (some 23) (.iaddr 24 (.tmp 21) (.tmp 22)) none) :: o4_2)) (.keep [5, 4, 1, 3, 2] c4_4))) (.keep [4, 1, 3, 2] c4_5))
theorem u4_6 : type_of% (@swc _ _ c4_6.eq_1) := @swc _ _ c4_6.eq_1
def c4_7 : SC := (.seq (.seq (.reg [SO.mk (some 13) (.move (.tmp 4)) none, SO.mk (some 14) (.faddr 28 (.tmp 1) 0) none, SO.mk (some 15) (.load 24 (.tmp 14)) none, SO.mk (some 16) (.len 24 (.tmp 15)) none, SO.mk (some 17) (.bin .lss 3 (.tmp 13) (.tmp 16)) none]) (.keep [17, 4, 1, 3, 2] c4_1)) (.keep [4, 1, 3, 2] c4_6))
theorem u4_7 : type_of% (@swc _ _ c4_7.eq_1) := @swc _ _ c4_7.eq_1
def c4_8 : SC := (.block 0 (.loop (.keep [4, 1, 3, 2] c4_7)))
theorem u4_8 : type_of% (@swc _ _ c4_8.eq_1) := @swc _ _ c4_8.eq_1
def c4_9 : SC := (.cond (.tmp 37) .skip (.exit 2))
theorem u4_9 : type_of% (@swc _ _ c4_9.eq_1) := @swc _ _ c4_9.eq_1
def o4_10 : List SO := ((SO.mk (some 7) (.move (.tmp 47)) none) :: [])
theorem v4_10 : type_of% (@swl _ _ o4_10.eq_1) := @swl _ _ o4_10.eq_1
def o4_11 : List SO := ((SO.mk (some 44) (.faddr 39 (.tmp 43) 1) none) :: (SO.mk (some 45) (.load 29 (.tmp 44)) none) :: (SO.mk (some 46) (.bslice 24 1 [(0 , (.tmp 45))]) none) :: (SO.mk (some 47) (.call 9 [(.tmp 46)]) none) :: o4_10)
theorem v4_11 : type_of% (@swl _ _ o4_11.eq_1) := @swl _ _ o4_11.eq_1
def o4_12 : List SO := ((SO.mk (some 56) (.move (.tmp 7)) none) :: (SO.mk (some 57) (.build 39 [(0 , (.tmp 55)), (1 , (.tmp 56))]) none) :: (SO.mk (some 58) (.bslice 25 1 [(0 , (.tmp 57))]) none) :: [])
theorem v4_12 : type_of% (@swd _ _ o4_12.eq_1) := @swd _ _ o4_12.eq_1
def o4_13 : List SO := ((SO.mk (some 52) (.move (.tmp 6)) none) :: (SO.mk (some 53) (.iaddr 25 (.tmp 51) (.tmp 52)) none) :: (SO.mk (some 54) (.faddr 39 (.tmp 53) 0) none) :: (SO.mk (some 55) (.load 3 (.tmp 54)) none) :: o4_12)
theorem v4_13 : type_of% (@swd _ _ o4_13.eq_1) := @swd _ _ o4_13.eq_1
def o4_14 : List SO := ((SO.mk (some 48) (.faddr 28 (.tmp 3) 1) none) :: (SO.mk (some 49) (.load 25 (.tmp 48)) none) :: (SO.mk (some 50) (.faddr 28 (.tmp 1) 1) none) :: (SO.mk (some 51) (.load 25 (.tmp 50)) none) :: o4_13)
theorem v4_14 : type_of% (@swd _ _ o4_14.eq_1) := @swd _ _ o4_14.eq_1
theorem m4_14 (B : Nat) : mkNames B o4_14 = [] := (rfl)
def c4_15 : SC := (.dreg false o4_14 [SO.mk (some 59) (.app 25 25 (.tmp 49) (.tmp 58)) none, SO.mk (some 60) (.faddr 28 (.tmp 3) 1) none, SO.mk none (.store 25 (.tmp 60) (.tmp 59)) none])
theorem u4_15 : type_of% (@swc _ _ c4_15.eq_1) := @swc _ _ c4_15.eq_1
def c4_16 : SC := (.reg [SO.mk (some 38) (.move (.tmp 6)) none, SO.mk (some 39) (.bin .add 3 (.tmp 38) (.const (Value.int .i64 1))) none, SO.mk (some 6) (.move (.tmp 39)) none])
theorem u4_16 : type_of% (@swc _ _ c4_16.eq_1) := @swc _ _ c4_16.eq_1
def c4_17 : SC := (.seq (.block 3 (.seq (.reg ((SO.mk (some 40) (.faddr 28 (.tmp 1) 1) none) :: (SO.mk (some 41) (.load 25 (.tmp 40)) none) :: (SO.mk (some 42) (.move (.tmp 6)) none) :: (SO.mk (some 43) (.iaddr 25 (.tmp 41) (.tmp 42)) none) :: o4_11)) (.keep [7, 6, 1, 3, 2] c4_15))) (.keep [6, 1, 3, 2] c4_16))
theorem u4_17 : type_of% (@swc _ _ c4_17.eq_1) := @swc _ _ c4_17.eq_1
def c4_18 : SC := (.seq (.seq (.reg [SO.mk (some 33) (.move (.tmp 6)) none, SO.mk (some 34) (.faddr 28 (.tmp 1) 1) none, SO.mk (some 35) (.load 25 (.tmp 34)) none, SO.mk (some 36) (.len 25 (.tmp 35)) none, SO.mk (some 37) (.bin .lss 3 (.tmp 33) (.tmp 36)) none]) (.keep [37, 6, 1, 3, 2] c4_9)) (.keep [6, 1, 3, 2] c4_17))
theorem u4_18 : type_of% (@swc _ _ c4_18.eq_1) := @swc _ _ c4_18.eq_1
def c4_19 : SC := (.block 2 (.loop (.keep [6, 1, 3, 2] c4_18)))
theorem u4_19 : type_of% (@swc _ _ c4_19.eq_1) := @swc _ _ c4_19.eq_1
def c4_20 : SC := (.cond (.tmp 65) .skip (.exit 4))
theorem u4_20 : type_of% (@swc _ _ c4_20.eq_1) := @swc _ _ c4_20.eq_1
def o4_21 : List SO := ((SO.mk (some 9) (.move (.tmp 75)) none) :: [])
theorem v4_21 : type_of% (@swl _ _ o4_21.eq_1) := @swl _ _ o4_21.eq_1
def o4_22 : List SO := ((SO.mk (some 72) (.faddr 41 (.tmp 71) 0) none) :: (SO.mk (some 73) (.load 29 (.tmp 72)) none) :: (SO.mk (some 74) (.bslice 24 1 [(0 , (.tmp 73))]) none) :: (SO.mk (some 75) (.call 9 [(.tmp 74)]) none) :: o4_21)
theorem v4_22 : type_of% (@swl _ _ o4_22.eq_1) := @swl _ _ o4_22.eq_1
def o4_23 : List SO := ((SO.mk (some 92) (.bslice 26 1 [(0 , (.tmp 91))]) none) :: [])
theorem v4_23 : type_of% (@swd _ _ o4_23.eq_1) := @swd _ _ o4_23.eq_1
def o4_24 : List SO := ((SO.mk (some 88) (.iaddr 26 (.tmp 86) (.tmp 87)) none) :: (SO.mk (some 89) (.faddr 41 (.tmp 88) 2) none) :: (SO.mk (some 90) (.load 4 (.tmp 89)) none) :: (SO.mk (some 91) (.build 41 [(0 , (.tmp 78)), (1 , (.tmp 84)), (2 , (.tmp 90))]) none) :: o4_23)
theorem v4_24 : type_of% (@swd _ _ o4_24.eq_1) := @swd _ _ o4_24.eq_1
def o4_25 : List SO := ((SO.mk (some 84) (.load 3 (.tmp 83)) none) :: (SO.mk (some 85) (.faddr 28 (.tmp 1) 2) none) :: (SO.mk (some 86) (.load 26 (.tmp 85)) none) :: (SO.mk (some 87) (.move (.tmp 8)) none) :: o4_24)
theorem v4_25 : type_of% (@swd _ _ o4_25.eq_1) := @swd _ _ o4_25.eq_1
def o4_26 : List SO := ((SO.mk (some 80) (.load 26 (.tmp 79)) none) :: (SO.mk (some 81) (.move (.tmp 8)) none) :: (SO.mk (some 82) (.iaddr 26 (.tmp 80) (.tmp 81)) none) :: (SO.mk (some 83) (.faddr 41 (.tmp 82) 1) none) :: o4_25)
theorem v4_26 : type_of% (@swd _ _ o4_26.eq_1) := @swd _ _ o4_26.eq_1
def o4_27 : List SO := ((SO.mk (some 76) (.faddr 28 (.tmp 3) 2) none) :: (SO.mk (some 77) (.load 26 (.tmp 76)) none) :: (SO.mk (some 78) (.move (.tmp 9)) none) :: (SO.mk (some 79) (.faddr 28 (.tmp 1) 2) none) :: o4_26)
theorem v4_27 : type_of% (@swd _ _ o4_27.eq_1) := @swd _ _ o4_27.eq_1
theorem m4_27 (B : Nat) : mkNames B o4_27 = [] := (rfl)
def c4_28 : SC := (.dreg false o4_27 [SO.mk (some 93) (.app 26 26 (.tmp 77) (.tmp 92)) none, SO.mk (some 94) (.faddr 28 (.tmp 3) 2) none, SO.mk none (.store 26 (.tmp 94) (.tmp 93)) none])
theorem u4_28 : type_of% (@swc _ _ c4_28.eq_1) := @swc _ _ c4_28.eq_1
def c4_29 : SC := (.reg [SO.mk (some 66) (.move (.tmp 8)) none, SO.mk (some 67) (.bin .add 3 (.tmp 66) (.const (Value.int .i64 1))) none, SO.mk (some 8) (.move (.tmp 67)) none])
theorem u4_29 : type_of% (@swc _ _ c4_29.eq_1) := @swc _ _ c4_29.eq_1
def c4_30 : SC := (.seq (.block 5 (.seq (.reg ((SO.mk (some 68) (.faddr 28 (.tmp 1) 2) none) :: (SO.mk (some 69) (.load 26 (.tmp 68)) none) :: (SO.mk (some 70) (.move (.tmp 8)) none) :: (SO.mk (some 71) (.iaddr 26 (.tmp 69) (.tmp 70)) none) :: o4_22)) (.keep [9, 8, 1, 3, 2] c4_28))) (.keep [8, 1, 3, 2] c4_29))
theorem u4_30 : type_of% (@swc _ _ c4_30.eq_1) := @swc _ _ c4_30.eq_1
def c4_31 : SC := (.seq (.seq (.reg [SO.mk (some 61) (.move (.tmp 8)) none, SO.mk (some 62) (.faddr 28 (.tmp 1) 2) none, SO.mk (some 63) (.load 26 (.tmp 62)) none, SO.mk (some 64) (.len 26 (.tmp 63)) none, SO.mk (some 65) (.bin .lss 3 (.tmp 61) (.tmp 64)) none]) (.keep [65, 1, 8, 3, 2] c4_20)) (.keep [8, 1, 3, 2] c4_30))
theorem u4_31 : type_of% (@swc _ _ c4_31.eq_1) := @swc _ _ c4_31.eq_1
def c4_32 : SC := (.block 4 (.loop (.keep [1, 8, 3, 2] c4_31)))
theorem u4_32 : type_of% (@swc _ _ c4_32.eq_1) := @swc _ _ c4_32.eq_1
def c4_33 : SC := (.seq (.reg [SO.mk (some 95) (.load 28 (.tmp 3)) none, SO.mk none (.store 28 (.tmp 2) (.tmp 95)) none]) (.keep [2] .ret))
theorem u4_33 : type_of% (@swc _ _ c4_33.eq_1) := @swc _ _ c4_33.eq_1
def c4_34 : SC := (.seq (.seq (.reg [SO.mk (some 8) (.move (.const (Value.int .i64 0))) none]) (.keep [1, 8, 3, 2] c4_32)) (.keep [3, 2] c4_33))
theorem u4_34 : type_of% (@swc _ _ c4_34.eq_1) := @swc _ _ c4_34.eq_1
def c4_35 : SC := (.seq (.seq (.reg [SO.mk (some 6) (.move (.const (Value.int .i64 0))) none]) (.keep [6, 1, 3, 2] c4_19)) (.keep [1, 3, 2] c4_34))
theorem u4_35 : type_of% (@swc _ _ c4_35.eq_1) := @swc _ _ c4_35.eq_1
def c4_36 : SC := (.seq (.seq (.reg [SO.mk (some 4) (.move (.const (Value.int .i64 0))) none]) (.keep [4, 1, 3, 2] c4_8)) (.keep [1, 3, 2] c4_35))
theorem u4_36 : type_of% (@swc _ _ c4_36.eq_1) := @swc _ _ c4_36.eq_1
def c4_37 : SC := (.seq (.reg [SO.mk (some 10) (.faddr 28 (.tmp 1) 3) none, SO.mk (some 11) (.load 3 (.tmp 10)) none, SO.mk (some 12) (.build 28 [(3 , (.tmp 11))]) none, SO.mk (some 3) (.alloc 28) none, SO.mk none (.store 28 (.tmp 3) (.tmp 12)) none]) (.keep [1, 3, 2] c4_36))
theorem u4_37 : type_of% (@swc _ _ c4_37.eq_1) := @swc _ _ c4_37.eq_1
def c4 : SC := (.seq (.reg [SO.mk (some 1) (.box 28 (.tmp 0)) none, SO.mk (some 2) (.alloc 28) none]) (.keep [1, 2] c4_37))
theorem c4_eq : annC Try.f4 = some c4 := by kernel_rfl
theorem r4 : Try.f4.results.toList = [.cell 2 28] := by kernel_rfl
theorem e4 : enters Try.prog 4 = true := by kernel_rfl
end Go.Proofs.Ytelciiooegiikaa
namespace Go.Proofs.Ytelciiooegiikaa
open Go.RowKit
set_option maxHeartbeats 4000000
set_option maxRecDepth 20000
attribute [local irreducible] SW OSW SWL SWLn SWD SEcall SEcallv SDv SE SO1 SOg ACalls ACallv Wk EndV
set_option linter.unusedSimpArgs false
set_option linter.unusedVariables false
theorem dev_el {d : DevD} (h : d.av.sz) : (∀ i, i < d.safe.length → (d.safe[i]!).length ≤ 2 ^ 47) ∧ (∀ i, i < d.cache.length → (d.cache[i]!).data.length ≤ 2 ^ 47) ∧ (∀ i, i < d.vols.length → (d.vols[i]!).data.length ≤ 2 ^ 47) := by
  simp only [DevD.av, AV.sz] at h
  have h1 := h (.d (.ro (d.safe.map secRow))) (by simp)
  have h2 := h (.d (.ro (d.cache.map WrD.row))) (by simp)
  have h3 := h (.d (.ro (d.vols.map VolD.row))) (by simp)
  refine ⟨fun i hi => ?_, fun i hi => ?_, fun i hi => ?_⟩
  · have := (Sized.cell h1 (r := secRow d.safe[i]!) (List.mem_map.2 ⟨d.safe[i]!, by simp [hi], rfl⟩) (c := bytes (d.safe[i]!)) (by simp [secRow])).len
    simpa using this
  · have := (Sized.cell h2 (r := WrD.row d.cache[i]!) (List.mem_map.2 ⟨d.cache[i]!, by simp [hi], rfl⟩) (c := bytes (d.cache[i]!).data) (by simp [WrD.row])).len
    simpa using this
  · have := (Sized.cell h3 (r := VolD.row d.vols[i]!) (List.mem_map.2 ⟨d.vols[i]!, by simp [hi], rfl⟩) (c := bytes (d.vols[i]!).data) (by simp [VolD.row])).len
    simpa using this
theorem joined1_p (l : List UInt8) (h : l.length ≤ 2 ^ 47) : Pure Try.prog 9 [.d (.ro [[bytes l]])] (.d (bytes l)) := by
  have := joined_p [l] (by simpa using h)
  simpa [secRow] using this
theorem devCopy_own (d : DevD) (hw : d.fit) (B : Nat) (σ : Sto) (m1 m2 m3 : Nat) (hf : Free3 B σ m1 m2 m3) : ACalls Try.prog 4 [d.av] σ B [m1, m2, m3] (fun v σ' => v = devA m1 m2 m3 d.safe.length d.cache.length d.vols.length d.fuel ∧ σ' = sto (devL m1 m2 m3 d.safe d.cache d.vols) σ) := by
  refine own_of follows Try.func4 c4_eq r4 (Nat.le_of_ble_eq_true rfl) fun hcl hsz => ?_
  obtain ⟨z1, z2, z3⟩ := dev_sz (hsz d.av (by simp))
  obtain ⟨z4, z5, z6⟩ := dev_el (hsz d.av (by simp))
  clear hsz
  obtain ⟨w1, w2, w3⟩ := hw
  obtain ⟨b1, b2, b3, k1, k2, k3, h12, h13, h23⟩ := hf
  have qe1 := nbF b1
  have qe2 := nbF b2
  have qe3 := nbF b3
  have qe4 := nbF' b1
  have qe5 := nbF' b2
  have qe6 := nbF' b3
  have qe7 := nbL b1
  have qe8 := nbL b2
  have qe9 := nbL b3
  have qe10 := neF h12
  have qe11 := neF h13
  have qe12 := neF h23
  have qe13 := neF' h12
  have qe14 := neF' h13
  have qe15 := neF' h23
  have g1 : decide (m1 < B + 100000) = true := by simp; omega
  have g2 : decide (m2 < B + 100000) = true := by simp; omega
  have g3 : decide (m3 < B + 100000) = true := by simp; omega
  repeat' (first | (simp -implicitDefEqProofs only [*, contN, contC, Nat.reduceBEq, Bool.or_false, Bool.or_true, Bool.false_or, Bool.true_or, Bool.not_true, Bool.not_false, SEconv, w_skip, w_ret, w_exit, w_reg, w_dreg, w_oreg, HO_app, w_odone, w_onil, w_ofst, w_obr, w_seq, SK_n, SK_r, SK_x, w_keep, w_block, w_cond, w_nil, w_cons, w_consg, w_nnil, w_ncons, w_dnil, w_dcons, w_dconsg, HK_app, HD_app, HQ_n, HQ_r, HQ_x, HQ_bn, HQ_br, HQ_bx, HQ_en, HQ_er, HQ_ex, CondB_true, CondB_false, SO1, w_sdv, SDe_alloc, SDe_box, SDe_bslice, SDe_app, true_imp_iff, false_imp_iff, and_false, false_and, not_false_eq_true, not_true_eq_false, addN, mkNames, killT, killD, killO, List.foldl_nil, List.foldl_cons, List.append_nil, List.nil_append, List.cons_append, GuardS_true, GuardS_false, GuardD_true, GuardD_false, DK_true, DK_false, lt_self_add, le_self_add, decide_true, decide_false, Bool.false_eq_true, Bool.true_eq_false, Nat.add_left_cancel_iff, SE, SEalloc, SEbox, SEstore, w_bs, SEbl, SEfz, SEbs0, fzName, osOf, AV.fz1, w_app, w_mk, aev, opd, Fr.get, putO, Fr.norm, List.map_cons, List.map_nil, with1, with2, onInt, AV.lit, entry, ↓reduceIte, Nat.reduceEqDiff, Nat.reduceAdd, reduceCtorEq, true_and, and_true, Option.map_some, Option.map_none, Option.bind_some, Option.bind_none, cond_true, cond_false, binV, unV, fieldV, loadV, sto, cellsAV, newF, newL, Fr.map, Loc.kill, Loc.set, AO.kill, AV.kill, AV.mapN, AV.mapNL, List.filter_nil, List.filter_cons, allP, EndV, retV, resV, resL, frz, dropL, AV.pick, nilV, tupV, imp_self, ne_eq, Int.cast_ofNat_Int, Int.reduceLT, Int.reduceToNat, List.getD_cons_zero, List.getD_cons_succ, bsliceV, buildV, afill, repl, chunk, rvs, AV.rv, RV.nrm, List.getElem?_nil, List.append_assoc, Nat.reduceMul, Nat.reducePow, Nat.zero_lt_succ, Nat.zero_add, Nat.add_zero, List.length_cons, List.length_nil, Nat.reduceLeDiff, Nat.le_refl, List.take_succ_cons, List.take_zero, List.drop_succ_cons, List.drop_zero, indexV, lenV, rowOf_mapD, rowOf_mapI, rowOf_mapA, List.length_map, Int.toNat_natCast, List.getElem?_cons_zero, List.getElem?_cons_succ, and_self, implies_true, if_true, if_false, HQ_zn, HQ_zr, HQ_wn, HQ_wr, AV.nz, AV.nzL, RV.nrm, SEbin, SEnil, nilK, srcV, dstV, appName, List.length_append, Nat.mul_one, take_map_len, take_map_app, List.getElem?_cons_zero, List.map_append, SEmkmap, SEmset, mgetV, kvOf, getM, setM, w_bsH, SEapA, SEapB, bsliceA, c4, r4, u4_1, v4_2, v4_3, u4_4, u4_5, u4_6, u4_7, u4_8, u4_9, v4_10, v4_11, v4_12, v4_13, v4_14, m4_14, u4_15, u4_16, u4_17, u4_18, u4_19, u4_20, v4_21, v4_22, v4_23, v4_24, v4_25, v4_26, v4_27, m4_27, u4_28, u4_29, u4_30, u4_31, u4_32, u4_33, u4_34, u4_35, u4_36, u4_37, ty28, ty3, ty24, ty29, ty25, ty39, ty26, ty41, ty4, ty5, DevD.av, DevD.cells, noN, secRow, bytes, WrD.row, VolD.row, qe1, qe2, qe3, qe4, qe5, qe6, qe10, qe11, qe12, qe13, qe14, qe15, takeE]) | (with_reducible refine And.intro ?_ ?_) | (refine call_ro e9 ( joined1_p d.safe[k]! (z4 k (dltL hg))) rfl ?_ ?_ ?_ ?_) | (refine gcall_ro e9 ( joined1_p d.safe[k]! (z4 k (dltL hg))) rfl ?_ ?_ ?_ ?_) | (refine dcall_ro e9 ( joined1_p d.safe[k]! (z4 k (dltL hg))) rfl ?_ ?_ ?_ ?_) | (refine gdcall_ro rfl e9 ( joined1_p d.safe[k]! (z4 k (dltL hg))) rfl ?_ ?_ ?_ ?_) | (refine call_ro e9 ( joined1_p d.cache[k]!.data (z5 k (dltL hg))) rfl ?_ ?_ ?_ ?_) | (refine gcall_ro e9 ( joined1_p d.cache[k]!.data (z5 k (dltL hg))) rfl ?_ ?_ ?_ ?_) | (refine dcall_ro e9 ( joined1_p d.cache[k]!.data (z5 k (dltL hg))) rfl ?_ ?_ ?_ ?_) | (refine gdcall_ro rfl e9 ( joined1_p d.cache[k]!.data (z5 k (dltL hg))) rfl ?_ ?_ ?_ ?_) | (refine call_ro e9 ( joined1_p d.vols[k]!.data (z6 k (dltL hg))) rfl ?_ ?_ ?_ ?_) | (refine gcall_ro e9 ( joined1_p d.vols[k]!.data (z6 k (dltL hg))) rfl ?_ ?_ ?_ ?_) | (refine dcall_ro e9 ( joined1_p d.vols[k]!.data (z6 k (dltL hg))) rfl ?_ ?_ ?_ ?_) | (refine gdcall_ro rfl e9 ( joined1_p d.vols[k]!.data (z6 k (dltL hg))) rfl ?_ ?_ ?_ ?_) | (refine loop_nat (d.safe.length) (fun _ => True) (fun k => [(4, I k), (1, .lp (B + 1) 0), (3, .lp (B + 3) 0), (2, .lp (B + 2) 0)]) (fun k => [(B + 1, .box d.cells), (B + 2, .box [.d (.v (.slice none 0 0)), .d (.v (.slice none 0 0)), .d (.v (.slice none 0 0)), I 0]), (B + 3, .box [.os m1 (d.safe.take k).length, .os m2 0, .os m3 0, I d.fuel]), (m1, .arr 1 29 ((d.safe.take k).map secRow)), (m2, .arr 2 39 []), (m3, .arr 3 41 [])]) ?_ (Wk.trans (Wk.name3 (b := B + 3) (m1 := m1) (m2 := m2) (m3 := m3) (k1 := 1) (k2 := 2) (k3 := 3) (E1 := 29) (E2 := 39) (E3 := 41) (f := d.fuel) (by simp [sto, qe1, qe2, qe3, qe4, qe5, qe6]) (by omega) (by omega) (by omega) h12 h13 h23 (by omega) (by omega) (by omega) (.inr (by simp)) (.inr (by simp)) (.inr (by simp)) k1 k2 k3) (Wk.keep hcl ?_ ?_ ?_)) fun k hk hF => ?_; rotate_left 1; (focus (simp [Fr.get, newF, Fr.map, AV.kill, AV.mapN, DevD.av, DevD.cells, noN, secRow, bytes, WrD.row, VolD.row, qe1, qe2, qe3, qe4, qe5, qe6, qe10, qe11, qe12, qe13, qe14, qe15, takeE] <;> fail)); (focus (simp [sto, newL, Loc.kill, Loc.set, AO.kill, AV.kill, AV.mapN, DevD.av, DevD.cells, noN, secRow, bytes, WrD.row, VolD.row, qe1, qe2, qe3, qe4, qe5, qe6, qe10, qe11, qe12, qe13, qe14, qe15, takeE] <;> fail)); (focus (simp [newL, Loc.kill, Loc.set, DevD.av, DevD.cells, noN, secRow, bytes, WrD.row, VolD.row, qe1, qe2, qe3, qe4, qe5, qe6, qe10, qe11, qe12, qe13, qe14, qe15, takeE] <;> fail)); (try have hw : IntKind.i64.wrap ((k : Int) + 1) = (k : Int) + 1 := IntWalk.i64_in _ (by omega))) | (refine loop_nat (d.cache.length) (fun _ => True) (fun k => [(6, I k), (1, .lp (B + 1) 0), (3, .lp (B + 3) 0), (2, .lp (B + 2) 0)]) (fun k => [(B + 1, .box d.cells), (B + 2, .box [.d (.v (.slice none 0 0)), .d (.v (.slice none 0 0)), .d (.v (.slice none 0 0)), I 0]), (B + 3, .box [.os m1 d.safe.length, .os m2 (d.cache.take k).length, .os m3 0, I d.fuel]), (m1, .arr 1 29 (d.safe.map secRow)), (m2, .arr 2 39 ((d.cache.take k).map WrD.row)), (m3, .arr 3 41 [])]) ?_ (Wk.keep hcl ?_ ?_ ?_) fun k hk hF => ?_; rotate_left 1; (focus (simp [Fr.get, newF, Fr.map, AV.kill, AV.mapN, DevD.av, DevD.cells, noN, secRow, bytes, WrD.row, VolD.row, qe1, qe2, qe3, qe4, qe5, qe6, qe10, qe11, qe12, qe13, qe14, qe15, takeE] <;> fail)); (focus (simp [sto, newL, Loc.kill, Loc.set, AO.kill, AV.kill, AV.mapN, DevD.av, DevD.cells, noN, secRow, bytes, WrD.row, VolD.row, qe1, qe2, qe3, qe4, qe5, qe6, qe10, qe11, qe12, qe13, qe14, qe15, takeE] <;> fail)); (focus (simp [newL, Loc.kill, Loc.set, DevD.av, DevD.cells, noN, secRow, bytes, WrD.row, VolD.row, qe1, qe2, qe3, qe4, qe5, qe6, qe10, qe11, qe12, qe13, qe14, qe15, takeE] <;> fail)); (try have hw : IntKind.i64.wrap ((k : Int) + 1) = (k : Int) + 1 := IntWalk.i64_in _ (by omega))) | (refine loop_nat (d.vols.length) (fun _ => True) (fun k => [(8, I k), (1, .lp (B + 1) 0), (3, .lp (B + 3) 0), (2, .lp (B + 2) 0)]) (fun k => [(B + 1, .box d.cells), (B + 2, .box [.d (.v (.slice none 0 0)), .d (.v (.slice none 0 0)), .d (.v (.slice none 0 0)), I 0]), (B + 3, .box [.os m1 d.safe.length, .os m2 d.cache.length, .os m3 (d.vols.take k).length, I d.fuel]), (m1, .arr 1 29 (d.safe.map secRow)), (m2, .arr 2 39 (d.cache.map WrD.row)), (m3, .arr 3 41 ((d.vols.take k).map VolD.row))]) ?_ (Wk.keep hcl ?_ ?_ ?_) fun k hk hF => ?_; rotate_left 1; (focus (simp [Fr.get, newF, Fr.map, AV.kill, AV.mapN, DevD.av, DevD.cells, noN, secRow, bytes, WrD.row, VolD.row, qe1, qe2, qe3, qe4, qe5, qe6, qe10, qe11, qe12, qe13, qe14, qe15, takeE] <;> fail)); (focus (simp [sto, newL, Loc.kill, Loc.set, AO.kill, AV.kill, AV.mapN, DevD.av, DevD.cells, noN, secRow, bytes, WrD.row, VolD.row, qe1, qe2, qe3, qe4, qe5, qe6, qe10, qe11, qe12, qe13, qe14, qe15, takeE] <;> fail)); (focus (simp [newL, Loc.kill, Loc.set, DevD.av, DevD.cells, noN, secRow, bytes, WrD.row, VolD.row, qe1, qe2, qe3, qe4, qe5, qe6, qe10, qe11, qe12, qe13, qe14, qe15, takeE] <;> fail)); (try have hw : IntKind.i64.wrap ((k : Int) + 1) = (k : Int) + 1 := IntWalk.i64_in _ (by omega))) | (refine EndX.plain ?_) | (refine nil_split (fun hn => ?_) (fun hn => ?_)) | (refine gcall_no not_false ?_) | (refine gdcall_no not_false ?_) | (refine GuardS_of _ _ _ _ _ _ (fun hg => ?_) (fun hg => ?_)) | (refine GuardD_of _ _ _ _ (fun hg => ?_) (fun hg => ?_)) | (refine CondB_of _ _ _ _ _ _ _ ?_ (fun hg => ?_) (fun hg => ?_)))
  all_goals (try (first | ((first | unfold noN | unfold Fr.below | unfold Loc.below); simp [Fr.allN, AV.allN, AV.allNL, AO.allN]; done) | rfl | trivial | assumption | (intro row hrow; simp only [List.mem_map] at hrow; obtain ⟨x, _, rfl⟩ := hrow; rfl) | (refine Wk.keep hcl ?_ ?_ ?_; (focus (simp [Fr.get, DevD.av, DevD.cells, noN, secRow, bytes, WrD.row, VolD.row, qe1, qe2, qe3, qe4, qe5, qe6, qe10, qe11, qe12, qe13, qe14, qe15, takeE] <;> fail)); (focus (simp [sto, DevD.av, DevD.cells, noN, secRow, bytes, WrD.row, VolD.row, qe1, qe2, qe3, qe4, qe5, qe6, qe10, qe11, qe12, qe13, qe14, qe15, takeE] <;> fail)); (focus (simp <;> fail))) | (simp [allP, opd, Fr.get, Fr.below, Fr.allN, AV.allN, AV.allNL, Loc.below, AO.allN, noN, killO, killT, killD, mkNames, AO.kill, AV.kill, AV.mapN, AV.mapNL]; done) | (with_reducible exact ltD (by assumption)) | omega | (simp only [decide_eq_true_eq, decide_eq_false_iff_not] at *; omega)))
  all_goals (try (simp [allP, opd, Fr.get, Fr.below, Fr.allN, AV.allN, AV.allNL, Loc.below, AO.allN, noN, killO, killT, killD, mkNames, AO.kill, AV.kill, AV.mapN, AV.mapNL, DevD.cells, g1, g2, g3, *]; done))
  all_goals (try (exact .inr ⟨by simp, by assumption⟩))
  all_goals (try (simp only [List.length_take]; simp only [decide_eq_true_eq] at *; omega))
  all_goals (try (
    rw [take_next (dltL hg)]
    refine Wk.keep hcl (by simp [Fr.get]) (by simp [sto, secRow, WrD.row, VolD.row, bytes, DevD.cells, qe1, qe2, qe3, qe4, qe5, qe6, qe10, qe11, qe12, qe13, qe14, qe15]) (by simp)))
end Go.Proofs.Ytelciiooegiikaa
