/- The reference's copy of Devices, in one's own memory. -/
import Derived.Test.YtalhjhmphdgaoaaDevOwn
import Derived.Test.YtalhjhmphdgaoaaTypes
namespace Go.Proofs.Ytalhjhmphdgaoaa
open Go.RowKit
set_option maxRecDepth 100000
def c9_1 : SC := (.cond (.tmp 17) .skip (.exit 0))
theorem u9_1 : type_of% (@swc _ _ c9_1.eq_1) := @swc _ _ c9_1.eq_1
def o9_2 : List SO := ((SO.mk (some 24) (.load 29 (.tmp 23)) none) :: (SO.mk (some 25) (.bslice 24 1 [(0 , (.tmp 24))]) none) :: (SO.mk (some 26) (.call 25 [(.tmp 25)]) none) :: (SO.mk (some 5) (.move (.tmp 26)) none) :: [])
theorem v9_2 : type_of% (@swl _ _ o9_2.eq_1) := @swl _ _ o9_2.eq_1
def o9_3 : List SO := ((SO.mk (some 31) (.app 24 24 (.tmp 28) (.tmp 30)) none) :: (SO.mk (some 32) (.faddr 28 (.tmp 3) 0) none) :: (SO.mk none (.store 24 (.tmp 32) (.tmp 31)) none) :: [])
theorem v9_3 : type_of% (@swl _ _ o9_3.eq_1) := @swl _ _ o9_3.eq_1
def c9_4 : SC := (.reg ((SO.mk (some 27) (.faddr 28 (.tmp 3) 0) none) :: (SO.mk (some 28) (.load 24 (.tmp 27)) none) :: (SO.mk (some 29) (.move (.tmp 5)) none) :: (SO.mk (some 30) (.bslice 24 1 [(0 , (.tmp 29))]) none) :: o9_3))
theorem u9_4 : type_of% (@swc _ _ c9_4.eq_1) := @swc _ _ c9_4.eq_1
def c9_5 : SC := (.reg [SO.mk (some 18) (.move (.tmp 4)) none, SO.mk (some 19) (.bin .add 3 (.tmp 18) (.const (Value.int .i64 1))) none, SO.mk (some 4) (.move (.tmp 19)) none])
theorem u9_5 : type_of% (@swc _ _ c9_5.eq_1) := @swc _ _ c9_5.eq_1
def c9_6 : SC := (.seq (.block 1 (.seq (.reg ((SO.mk (some 20) (.faddr 28 (.tmp 1) 0) none) :: (SO.mk (some 21) (.load 24 (.tmp 20)) none) :: (SO.mk (some 22) (.move (.tmp 4)) none) :: (SO.mk (some 23) (.iaddr 24 (.tmp 21) (.tmp 22)) none) :: o9_2)) (.keep [5, 4, 1, 3, 2] c9_4))) (.keep [4, 1, 3, 2] c9_5))
theorem u9_6 : type_of% (@swc _ _ c9_6.eq_1) := @swc _ _ c9_6.eq_1
def c9_7 : SC := (.seq (.seq (.reg [SO.mk (some 13) (.move (.tmp 4)) none, SO.mk (some 14) (.faddr 28 (.tmp 1) 0) none, SO.mk (some 15) (.load 24 (.tmp 14)) none, SO.mk (some 16) (.len 24 (.tmp 15)) none, SO.mk (some 17) (.bin .lss 3 (.tmp 13) (.tmp 16)) none]) (.keep [17, 4, 1, 3, 2] c9_1)) (.keep [4, 1, 3, 2] c9_6))
theorem u9_7 : type_of% (@swc _ _ c9_7.eq_1) := @swc _ _ c9_7.eq_1
def c9_8 : SC := (.block 0 (.loop (.keep [4, 1, 3, 2] c9_7)))
theorem u9_8 : type_of% (@swc _ _ c9_8.eq_1) := @swc _ _ c9_8.eq_1
def c9_9 : SC := (.cond (.tmp 37) .skip (.exit 2))
theorem u9_9 : type_of% (@swc _ _ c9_9.eq_1) := @swc _ _ c9_9.eq_1
def o9_10 : List SO := ((SO.mk (some 7) (.move (.tmp 47)) none) :: [])
theorem v9_10 : type_of% (@swl _ _ o9_10.eq_1) := @swl _ _ o9_10.eq_1
def o9_11 : List SO := ((SO.mk (some 44) (.faddr 55 (.tmp 43) 1) none) :: (SO.mk (some 45) (.load 29 (.tmp 44)) none) :: (SO.mk (some 46) (.bslice 24 1 [(0 , (.tmp 45))]) none) :: (SO.mk (some 47) (.call 25 [(.tmp 46)]) none) :: o9_10)
theorem v9_11 : type_of% (@swl _ _ o9_11.eq_1) := @swl _ _ o9_11.eq_1
def o9_12 : List SO := ((SO.mk (some 56) (.move (.tmp 7)) none) :: (SO.mk (some 57) (.build 55 [(0 , (.tmp 55)), (1 , (.tmp 56))]) none) :: (SO.mk (some 58) (.bslice 25 1 [(0 , (.tmp 57))]) none) :: [])
theorem v9_12 : type_of% (@swd _ _ o9_12.eq_1) := @swd _ _ o9_12.eq_1
def o9_13 : List SO := ((SO.mk (some 52) (.move (.tmp 6)) none) :: (SO.mk (some 53) (.iaddr 25 (.tmp 51) (.tmp 52)) none) :: (SO.mk (some 54) (.faddr 55 (.tmp 53) 0) none) :: (SO.mk (some 55) (.load 3 (.tmp 54)) none) :: o9_12)
theorem v9_13 : type_of% (@swd _ _ o9_13.eq_1) := @swd _ _ o9_13.eq_1
def o9_14 : List SO := ((SO.mk (some 48) (.faddr 28 (.tmp 3) 1) none) :: (SO.mk (some 49) (.load 25 (.tmp 48)) none) :: (SO.mk (some 50) (.faddr 28 (.tmp 1) 1) none) :: (SO.mk (some 51) (.load 25 (.tmp 50)) none) :: o9_13)
theorem v9_14 : type_of% (@swd _ _ o9_14.eq_1) := @swd _ _ o9_14.eq_1
theorem m9_14 (B : Nat) : mkNames B o9_14 = [] := (rfl)
def c9_15 : SC := (.dreg false o9_14 [SO.mk (some 59) (.app 25 25 (.tmp 49) (.tmp 58)) none, SO.mk (some 60) (.faddr 28 (.tmp 3) 1) none, SO.mk none (.store 25 (.tmp 60) (.tmp 59)) none])
theorem u9_15 : type_of% (@swc _ _ c9_15.eq_1) := @swc _ _ c9_15.eq_1
def c9_16 : SC := (.reg [SO.mk (some 38) (.move (.tmp 6)) none, SO.mk (some 39) (.bin .add 3 (.tmp 38) (.const (Value.int .i64 1))) none, SO.mk (some 6) (.move (.tmp 39)) none])
theorem u9_16 : type_of% (@swc _ _ c9_16.eq_1) := @swc _ _ c9_16.eq_1
def c9_17 : SC := (.seq (.block 3 (.seq (.reg ((SO.mk (some 40) (.faddr 28 (.tmp 1) 1) none) :: (SO.mk (some 41) (.load 25 (.tmp 40)) none) :: (SO.mk (some 42) (.move (.tmp 6)) none) :: (SO.mk (some 43) (.iaddr 25 (.tmp 41) (.tmp 42)) none) :: o9_11)) (.keep [7, 6, 1, 3, 2] c9_15))) (.keep [6, 1, 3, 2] c9_16))
theorem u9_17 : type_of% (@swc _ _ c9_17.eq_1) := @swc _ _ c9_17.eq_1
def c9_18 : SC := (.seq (.seq (.reg [SO.mk (some 33) (.move (.tmp 6)) none, SO.mk (some 34) (.faddr 28 (.tmp 1) 1) none, SO.mk (some 35) (.load 25 (.tmp 34)) none, SO.mk (some 36) (.len 25 (.tmp 35)) none, SO.mk (some 37) (.bin .lss 3 (.tmp 33) (.tmp 36)) none]) (.keep [37, 6, 1, 3, 2] c9_9)) (.keep [6, 1, 3, 2] c9_17))
theorem u9_18 : type_of% (@swc _ _ c9_18.eq_1) := @swc _ _ c9_18.eq_1
def c9_19 : SC := (.block 2 (.loop (.keep [6, 1, 3, 2] c9_18)))
theorem u9_19 : type_of% (@swc _ _ c9_19.eq_1) := @swc _ _ c9_19.eq_1
def c9_20 : SC := (.cond (.tmp 65) .skip (.exit 4))
theorem u9_20 : type_of% (@swc _ _ c9_20.eq_1) := @swc _ _ c9_20.eq_1
def o9_21 : List SO := ((SO.mk (some 9) (.move (.tmp 75)) none) :: [])
theorem v9_21 : type_of% (@swl _ _ o9_21.eq_1) := @swl _ _ o9_21.eq_1
def o9_22 : List SO := ((SO.mk (some 72) (.faddr 59 (.tmp 71) 0) none) :: (SO.mk (some 73) (.load 29 (.tmp 72)) none) :: (SO.mk (some 74) (.bslice 24 1 [(0 , (.tmp 73))]) none) :: (SO.mk (some 75) (.call 25 [(.tmp 74)]) none) :: o9_21)
theorem v9_22 : type_of% (@swl _ _ o9_22.eq_1) := @swl _ _ o9_22.eq_1
def o9_23 : List SO := ((SO.mk (some 92) (.bslice 26 1 [(0 , (.tmp 91))]) none) :: [])
theorem v9_23 : type_of% (@swd _ _ o9_23.eq_1) := @swd _ _ o9_23.eq_1
def o9_24 : List SO := ((SO.mk (some 88) (.iaddr 26 (.tmp 86) (.tmp 87)) none) :: (SO.mk (some 89) (.faddr 59 (.tmp 88) 2) none) :: (SO.mk (some 90) (.load 4 (.tmp 89)) none) :: (SO.mk (some 91) (.build 59 [(0 , (.tmp 78)), (1 , (.tmp 84)), (2 , (.tmp 90))]) none) :: o9_23)
theorem v9_24 : type_of% (@swd _ _ o9_24.eq_1) := @swd _ _ o9_24.eq_1
def o9_25 : List SO := ((SO.mk (some 84) (.load 3 (.tmp 83)) none) :: (SO.mk (some 85) (.faddr 28 (.tmp 1) 2) none) :: (SO.mk (some 86) (.load 26 (.tmp 85)) none) :: (SO.mk (some 87) (.move (.tmp 8)) none) :: o9_24)
theorem v9_25 : type_of% (@swd _ _ o9_25.eq_1) := @swd _ _ o9_25.eq_1
def o9_26 : List SO := ((SO.mk (some 80) (.load 26 (.tmp 79)) none) :: (SO.mk (some 81) (.move (.tmp 8)) none) :: (SO.mk (some 82) (.iaddr 26 (.tmp 80) (.tmp 81)) none) :: (SO.mk (some 83) (.faddr 59 (.tmp 82) 1) none) :: o9_25)
theorem v9_26 : type_of% (@swd _ _ o9_26.eq_1) := @swd _ _ o9_26.eq_1
def o9_27 : List SO := ((SO.mk (some 76) (.faddr 28 (.tmp 3) 2) none) :: (SO.mk (some 77) (.load 26 (.tmp 76)) none) :: (SO.mk (some 78) (.move (.tmp 9)) none) :: (SO.mk (some 79) (.faddr 28 (.tmp 1) 2) none) :: o9_26)
theorem v9_27 : type_of% (@swd _ _ o9_27.eq_1) := @swd _ _ o9_27.eq_1
theorem m9_27 (B : Nat) : mkNames B o9_27 = [] := (rfl)
def c9_28 : SC := (.dreg false o9_27 [SO.mk (some 93) (.app 26 26 (.tmp 77) (.tmp 92)) none, SO.mk (some 94) (.faddr 28 (.tmp 3) 2) none, SO.mk none (.store 26 (.tmp 94) (.tmp 93)) none])
theorem u9_28 : type_of% (@swc _ _ c9_28.eq_1) := @swc _ _ c9_28.eq_1
def c9_29 : SC := (.reg [SO.mk (some 66) (.move (.tmp 8)) none, SO.mk (some 67) (.bin .add 3 (.tmp 66) (.const (Value.int .i64 1))) none, SO.mk (some 8) (.move (.tmp 67)) none])
theorem u9_29 : type_of% (@swc _ _ c9_29.eq_1) := @swc _ _ c9_29.eq_1
def c9_30 : SC := (.seq (.block 5 (.seq (.reg ((SO.mk (some 68) (.faddr 28 (.tmp 1) 2) none) :: (SO.mk (some 69) (.load 26 (.tmp 68)) none) :: (SO.mk (some 70) (.move (.tmp 8)) none) :: (SO.mk (some 71) (.iaddr 26 (.tmp 69) (.tmp 70)) none) :: o9_22)) (.keep [9, 8, 1, 3, 2] c9_28))) (.keep [8, 1, 3, 2] c9_29))
theorem u9_30 : type_of% (@swc _ _ c9_30.eq_1) := @swc _ _ c9_30.eq_1
def c9_31 : SC := (.seq (.seq (.reg [SO.mk (some 61) (.move (.tmp 8)) none, SO.mk (some 62) (.faddr 28 (.tmp 1) 2) none, SO.mk (some 63) (.load 26 (.tmp 62)) none, SO.mk (some 64) (.len 26 (.tmp 63)) none, SO.mk (some 65) (.bin .lss 3 (.tmp 61) (.tmp 64)) none]) (.keep [65, 1, 8, 3, 2] c9_20)) (.keep [8, 1, 3, 2] c9_30))
theorem u9_31 : type_of% (@swc _ _ c9_31.eq_1) := @swc _ _ c9_31.eq_1
def c9_32 : SC := (.block 4 (.loop (.keep [1, 8, 3, 2] c9_31)))
theorem u9_32 : type_of% (@swc _ _ c9_32.eq_1) := @swc _ _ c9_32.eq_1
def c9_33 : SC := (.seq (.reg [SO.mk (some 95) (.load 28 (.tmp 3)) none, SO.mk none (.store 28 (.tmp 2) (.tmp 95)) none]) (.keep [2] .ret))
theorem u9_33 : type_of% (@swc _ _ c9_33.eq_1) := @swc _ _ c9_33.eq_1
def c9_34 : SC := (.seq (.seq (.reg [SO.mk (some 8) (.move (.const (Value.int .i64 0))) none]) (.keep [1, 8, 3, 2] c9_32)) (.keep [3, 2] c9_33))
theorem u9_34 : type_of% (@swc _ _ c9_34.eq_1) := @swc _ _ c9_34.eq_1
def c9_35 : SC := (.seq (.seq (.reg [SO.mk (some 6) (.move (.const (Value.int .i64 0))) none]) (.keep [6, 1, 3, 2] c9_19)) (.keep [1, 3, 2] c9_34))
theorem u9_35 : type_of% (@swc _ _ c9_35.eq_1) := @swc _ _ c9_35.eq_1
def c9_36 : SC := (.seq (.seq (.reg [SO.mk (some 4) (.move (.const (Value.int .i64 0))) none]) (.keep [4, 1, 3, 2] c9_8)) (.keep [1, 3, 2] c9_35))
theorem u9_36 : type_of% (@swc _ _ c9_36.eq_1) := @swc _ _ c9_36.eq_1
def c9_37 : SC := (.seq (.reg [SO.mk (some 10) (.faddr 28 (.tmp 1) 3) none, SO.mk (some 11) (.load 3 (.tmp 10)) none, SO.mk (some 12) (.build 28 [(3 , (.tmp 11))]) none, SO.mk (some 3) (.alloc 28) none, SO.mk none (.store 28 (.tmp 3) (.tmp 12)) none]) (.keep [1, 3, 2] c9_36))
theorem u9_37 : type_of% (@swc _ _ c9_37.eq_1) := @swc _ _ c9_37.eq_1
def c9 : SC := (.seq (.reg [SO.mk (some 1) (.box 28 (.tmp 0)) none, SO.mk (some 2) (.alloc 28) none]) (.keep [1, 2] c9_37))
theorem c9_eq : annC Try.f9 = some c9 := by kernel_rfl
theorem r9 : Try.f9.results.toList = [.cell 2 28] := by kernel_rfl
theorem e9 : enters Try.prog 9 = true := by kernel_rfl
end Go.Proofs.Ytalhjhmphdgaoaa
namespace Go.Proofs.Ytalhjhmphdgaoaa
open Go.RowKit
set_option maxHeartbeats 4000000
set_option maxRecDepth 20000
attribute [local irreducible] SW SWL SWLn SWD SEcall SEcallv SDv SE SO1 SOg ACalls ACallv Wk EndV
set_option linter.unusedSimpArgs false
set_option linter.unusedVariables false
theorem dev_el {d : DevD} (h : d.av.sz) : (∀ i, i < d.safe.length → (d.safe[i]!).length ≤ 2 ^ 47) ∧ (∀ i, i < d.cache.length → (d.cache[i]!).data.length ≤ 2 ^ 47) ∧ (∀ i, i < d.vols.length → (d.vols[i]!).data.length ≤ 2 ^ 47) := by
  simp only [DevD.av, AV.sz] at h
  have h1 := h (.d (.ro (d.safe.map secRow))) (by simp)
  have h2 := h (.d (.ro (d.cache.map WrD.row))) (by simp)
  have h3 := h (.d (.ro (d.vols.map VolD.row))) (by simp)
  refine ⟨fun i hi => ?_, fun i hi => ?_, fun i hi => ?_⟩
  · have := (Sized.cell h1 (r := secRow d.safe[i]!) (List.mem_map.2 ⟨d.safe[i]!, by simp [hi], rfl⟩) (c := bytes (d.safe[i]!)) (by simp [secRow])).len
    simpa using this
  · have := (Sized.cell h2 (r := WrD.row d.cache[i]!) (List.mem_map.2 ⟨d.cache[i]!, by simp [hi], rfl⟩) (c := bytes (d.cache[i]!).data) (by simp [WrD.row])).len
    simpa using this
  · have := (Sized.cell h3 (r := VolD.row d.vols[i]!) (List.mem_map.2 ⟨d.vols[i]!, by simp [hi], rfl⟩) (c := bytes (d.vols[i]!).data) (by simp [VolD.row])).len
    simpa using this
theorem joined1_p (l : List UInt8) (h : l.length ≤ 2 ^ 47) : Pure Try.prog 25 [.d (.ro [[bytes l]])] (.d (bytes l)) := by
  have := joined_p [l] (by simpa using h)
  simpa [secRow] using this
theorem devCopy_own (d : DevD) (hw : d.fit) (B : Nat) (σ : Sto) (m1 m2 m3 : Nat) (hf : Free3 B σ m1 m2 m3) : ACalls Try.prog 9 [d.av] σ B [m1, m2, m3] (fun v σ' => v = devA m1 m2 m3 d.safe.length d.cache.length d.vols.length d.fuel ∧ σ' = sto (devL m1 m2 m3 d.safe d.cache d.vols) σ) := by
  refine own_of follows Try.func9 c9_eq r9 (Nat.le_of_ble_eq_true rfl) fun hcl hsz => ?_
  obtain ⟨z1, z2, z3⟩ := dev_sz (hsz d.av (by simp))
  obtain ⟨z4, z5, z6⟩ := dev_el (hsz d.av (by simp))
  clear hsz
  obtain ⟨w1, w2, w3⟩ := hw
  obtain ⟨b1, b2, b3, k1, k2, k3, h12, h13, h23⟩ := hf
  have e1 := nbF b1
  have e2 := nbF b2
  have e3 := nbF b3
  have e4 := nbF' b1
  have e5 := nbF' b2
  have e6 := nbF' b3
  have e7 := nbL b1
  have e8 := nbL b2
  have e9 := nbL b3
  have e10 := neF h12
  have e11 := neF h13
  have e12 := neF h23
  have e13 := neF' h12
  have e14 := neF' h13
  have e15 := neF' h23
  have g1 : decide (m1 < B + 100000) = true := by simp; omega
  have g2 : decide (m2 < B + 100000) = true := by simp; omega
  have g3 : decide (m3 < B + 100000) = true := by simp; omega
  repeat' (first | (simp -implicitDefEqProofs only [*, contN, contC, Nat.reduceBEq, Bool.or_false, Bool.or_true, Bool.false_or, Bool.true_or, Bool.not_true, Bool.not_false, w_skip, w_ret, w_exit, w_reg, w_dreg, w_seq, SK_n, SK_r, SK_x, w_keep, w_block, w_cond, w_nil, w_cons, w_consg, w_nnil, w_ncons, w_dnil, w_dcons, w_dconsg, HK_app, HD_app, HQ_n, HQ_r, HQ_x, HQ_bn, HQ_br, HQ_bx, HQ_en, HQ_er, HQ_ex, CondB_true, CondB_false, SO1, w_sdv, SDe_alloc, SDe_box, SDe_bslice, SDe_app, true_imp_iff, false_imp_iff, and_false, false_and, not_false_eq_true, not_true_eq_false, addN, mkNames, killT, killD, killO, List.foldl_nil, List.foldl_cons, List.append_nil, List.nil_append, List.cons_append, GuardS_true, GuardS_false, GuardD_true, GuardD_false, DK_true, DK_false, lt_self_add, le_self_add, decide_true, decide_false, Bool.false_eq_true, Bool.true_eq_false, Nat.add_left_cancel_iff, SE, SEalloc, SEbox, SEstore, w_bs, SEbl, SEfz, SEbs0, fzName, osOf, AV.fz1, w_app, w_mk, aev, opd, Fr.get, putO, Fr.norm, List.map_cons, List.map_nil, with1, with2, onInt, AV.lit, entry, ↓reduceIte, Nat.reduceEqDiff, Nat.reduceAdd, reduceCtorEq, true_and, and_true, Option.map_some, Option.map_none, Option.bind_some, Option.bind_none, cond_true, cond_false, binV, unV, fieldV, loadV, sto, cellsAV, newF, newL, Fr.map, Loc.kill, Loc.set, AO.kill, AV.kill, AV.mapN, AV.mapNL, List.filter_nil, List.filter_cons, allP, EndV, retV, resV, resL, frz, dropL, AV.pick, nilV, tupV, imp_self, ne_eq, Int.cast_ofNat_Int, Int.reduceLT, Int.reduceToNat, List.getD_cons_zero, List.getD_cons_succ, bsliceV, buildV, afill, repl, chunk, rvs, AV.rv, RV.nrm, List.getElem?_nil, List.append_assoc, Nat.reduceMul, Nat.reducePow, Nat.zero_lt_succ, Nat.zero_add, Nat.add_zero, List.length_cons, List.length_nil, Nat.reduceLeDiff, Nat.le_refl, List.take_succ_cons, List.take_zero, List.drop_succ_cons, List.drop_zero, indexV, lenV, rowOf_mapD, rowOf_mapI, rowOf_mapA, List.length_map, Int.toNat_natCast, List.getElem?_cons_zero, List.getElem?_cons_succ, and_self, implies_true, if_true, if_false, HQ_zn, HQ_zr, HQ_wn, HQ_wr, AV.nz, AV.nzL, RV.nrm, SEbin, SEnil, nilK, srcV, dstV, appName, List.length_append, Nat.mul_one, take_map_len, take_map_app, List.getElem?_cons_zero, List.map_append, SEmkmap, SEmset, mgetV, kvOf, getM, setM, c9, r9, u9_1, v9_2, v9_3, u9_4, u9_5, u9_6, u9_7, u9_8, u9_9, v9_10, v9_11, v9_12, v9_13, v9_14, m9_14, u9_15, u9_16, u9_17, u9_18, u9_19, u9_20, v9_21, v9_22, v9_23, v9_24, v9_25, v9_26, v9_27, m9_27, u9_28, u9_29, u9_30, u9_31, u9_32, u9_33, u9_34, u9_35, u9_36, u9_37, ty28, ty3, ty24, ty29, ty25, ty55, ty26, ty59, ty4, ty5, DevD.av, DevD.cells, noN, secRow, bytes, WrD.row, VolD.row, e1, e2, e3, e4, e5, e6, e10, e11, e12, e13, e14, e15, takeE]) | (with_reducible refine And.intro ?_ ?_) | (refine call_ro e25 ( joined1_p d.safe[k]! (z4 k (dltL hg))) rfl ?_ ?_ ?_ ?_) | (refine gcall_ro e25 ( joined1_p d.safe[k]! (z4 k (dltL hg))) rfl ?_ ?_ ?_ ?_) | (refine dcall_ro e25 ( joined1_p d.safe[k]! (z4 k (dltL hg))) rfl ?_ ?_ ?_ ?_) | (refine gdcall_ro rfl e25 ( joined1_p d.safe[k]! (z4 k (dltL hg))) rfl ?_ ?_ ?_ ?_) | (refine call_ro e25 ( joined1_p d.cache[k]!.data (z5 k (dltL hg))) rfl ?_ ?_ ?_ ?_) | (refine gcall_ro e25 ( joined1_p d.cache[k]!.data (z5 k (dltL hg))) rfl ?_ ?_ ?_ ?_) | (refine dcall_ro e25 ( joined1_p d.cache[k]!.data (z5 k (dltL hg))) rfl ?_ ?_ ?_ ?_) | (refine gdcall_ro rfl e25 ( joined1_p d.cache[k]!.data (z5 k (dltL hg))) rfl ?_ ?_ ?_ ?_) | (refine call_ro e25 ( joined1_p d.vols[k]!.data (z6 k (dltL hg))) rfl ?_ ?_ ?_ ?_) | (refine gcall_ro e25 ( joined1_p d.vols[k]!.data (z6 k (dltL hg))) rfl ?_ ?_ ?_ ?_) | (refine dcall_ro e25 ( joined1_p d.vols[k]!.data (z6 k (dltL hg))) rfl ?_ ?_ ?_ ?_) | (refine gdcall_ro rfl e25 ( joined1_p d.vols[k]!.data (z6 k (dltL hg))) rfl ?_ ?_ ?_ ?_) | (refine loop_nat (d.safe.length) (fun _ => True) (fun k => [(4, I k), (1, .lp (B + 1) 0), (3, .lp (B + 3) 0), (2, .lp (B + 2) 0)]) (fun k => [(B + 1, .box d.cells), (B + 2, .box [.d (.v (.slice none 0 0)), .d (.v (.slice none 0 0)), .d (.v (.slice none 0 0)), I 0]), (B + 3, .box [.os m1 (d.safe.take k).length, .os m2 0, .os m3 0, I d.fuel]), (m1, .arr 1 29 ((d.safe.take k).map secRow)), (m2, .arr 2 55 []), (m3, .arr 3 59 [])]) ?_ (Wk.trans (Wk.name3 (b := B + 3) (m1 := m1) (m2 := m2) (m3 := m3) (k1 := 1) (k2 := 2) (k3 := 3) (E1 := 29) (E2 := 55) (E3 := 59) (f := d.fuel) (by simp [sto, e1, e2, e3, e4, e5, e6]) (by omega) (by omega) (by omega) h12 h13 h23 (by omega) (by omega) (by omega) (.inr (by simp)) (.inr (by simp)) (.inr (by simp)) k1 k2 k3) (Wk.keep hcl ?_ ?_ ?_)) fun k hk hF => ?_; rotate_left 1; (focus (simp [Fr.get, newF, Fr.map, AV.kill, AV.mapN, DevD.av, DevD.cells, noN, secRow, bytes, WrD.row, VolD.row, e1, e2, e3, e4, e5, e6, e10, e11, e12, e13, e14, e15, takeE] <;> fail)); (focus (simp [sto, newL, Loc.kill, Loc.set, AO.kill, AV.kill, AV.mapN, DevD.av, DevD.cells, noN, secRow, bytes, WrD.row, VolD.row, e1, e2, e3, e4, e5, e6, e10, e11, e12, e13, e14, e15, takeE] <;> fail)); (focus (simp [newL, Loc.kill, Loc.set, DevD.av, DevD.cells, noN, secRow, bytes, WrD.row, VolD.row, e1, e2, e3, e4, e5, e6, e10, e11, e12, e13, e14, e15, takeE] <;> fail)); (try have hw : IntKind.i64.wrap ((k : Int) + 1) = (k : Int) + 1 := IntWalk.i64_in _ (by omega))) | (refine loop_nat (d.cache.length) (fun _ => True) (fun k => [(6, I k), (1, .lp (B + 1) 0), (3, .lp (B + 3) 0), (2, .lp (B + 2) 0)]) (fun k => [(B + 1, .box d.cells), (B + 2, .box [.d (.v (.slice none 0 0)), .d (.v (.slice none 0 0)), .d (.v (.slice none 0 0)), I 0]), (B + 3, .box [.os m1 d.safe.length, .os m2 (d.cache.take k).length, .os m3 0, I d.fuel]), (m1, .arr 1 29 (d.safe.map secRow)), (m2, .arr 2 55 ((d.cache.take k).map WrD.row)), (m3, .arr 3 59 [])]) ?_ (Wk.keep hcl ?_ ?_ ?_) fun k hk hF => ?_; rotate_left 1; (focus (simp [Fr.get, newF, Fr.map, AV.kill, AV.mapN, DevD.av, DevD.cells, noN, secRow, bytes, WrD.row, VolD.row, e1, e2, e3, e4, e5, e6, e10, e11, e12, e13, e14, e15, takeE] <;> fail)); (focus (simp [sto, newL, Loc.kill, Loc.set, AO.kill, AV.kill, AV.mapN, DevD.av, DevD.cells, noN, secRow, bytes, WrD.row, VolD.row, e1, e2, e3, e4, e5, e6, e10, e11, e12, e13, e14, e15, takeE] <;> fail)); (focus (simp [newL, Loc.kill, Loc.set, DevD.av, DevD.cells, noN, secRow, bytes, WrD.row, VolD.row, e1, e2, e3, e4, e5, e6, e10, e11, e12, e13, e14, e15, takeE] <;> fail)); (try have hw : IntKind.i64.wrap ((k : Int) + 1) = (k : Int) + 1 := IntWalk.i64_in _ (by omega))) | (refine loop_nat (d.vols.length) (fun _ => True) (fun k => [(8, I k), (1, .lp (B + 1) 0), (3, .lp (B + 3) 0), (2, .lp (B + 2) 0)]) (fun k => [(B + 1, .box d.cells), (B + 2, .box [.d (.v (.slice none 0 0)), .d (.v (.slice none 0 0)), .d (.v (.slice none 0 0)), I 0]), (B + 3, .box [.os m1 d.safe.length, .os m2 d.cache.length, .os m3 (d.vols.take k).length, I d.fuel]), (m1, .arr 1 29 (d.safe.map secRow)), (m2, .arr 2 55 (d.cache.map WrD.row)), (m3, .arr 3 59 ((d.vols.take k).map VolD.row))]) ?_ (Wk.keep hcl ?_ ?_ ?_) fun k hk hF => ?_; rotate_left 1; (focus (simp [Fr.get, newF, Fr.map, AV.kill, AV.mapN, DevD.av, DevD.cells, noN, secRow, bytes, WrD.row, VolD.row, e1, e2, e3, e4, e5, e6, e10, e11, e12, e13, e14, e15, takeE] <;> fail)); (focus (simp [sto, newL, Loc.kill, Loc.set, AO.kill, AV.kill, AV.mapN, DevD.av, DevD.cells, noN, secRow, bytes, WrD.row, VolD.row, e1, e2, e3, e4, e5, e6, e10, e11, e12, e13, e14, e15, takeE] <;> fail)); (focus (simp [newL, Loc.kill, Loc.set, DevD.av, DevD.cells, noN, secRow, bytes, WrD.row, VolD.row, e1, e2, e3, e4, e5, e6, e10, e11, e12, e13, e14, e15, takeE] <;> fail)); (try have hw : IntKind.i64.wrap ((k : Int) + 1) = (k : Int) + 1 := IntWalk.i64_in _ (by omega))) | (refine EndX.plain ?_) | (refine nil_split (fun hn => ?_) (fun hn => ?_)) | (refine gcall_no not_false ?_) | (refine gdcall_no not_false ?_) | (refine GuardS_of _ _ _ _ _ _ (fun hg => ?_) (fun hg => ?_)) | (refine GuardD_of _ _ _ _ (fun hg => ?_) (fun hg => ?_)) | (refine CondB_of _ _ _ _ _ _ _ ?_ (fun hg => ?_) (fun hg => ?_)))
  all_goals (try (first | ((first | unfold noN | unfold Fr.below | unfold Loc.below); simp [Fr.allN, AV.allN, AV.allNL, AO.allN]; done) | rfl | trivial | assumption | (intro row hrow; simp only [List.mem_map] at hrow; obtain ⟨x, _, rfl⟩ := hrow; rfl) | (refine Wk.keep hcl ?_ ?_ ?_; (focus (simp [Fr.get, DevD.av, DevD.cells, noN, secRow, bytes, WrD.row, VolD.row, e1, e2, e3, e4, e5, e6, e10, e11, e12, e13, e14, e15, takeE] <;> fail)); (focus (simp [sto, DevD.av, DevD.cells, noN, secRow, bytes, WrD.row, VolD.row, e1, e2, e3, e4, e5, e6, e10, e11, e12, e13, e14, e15, takeE] <;> fail)); (focus (simp <;> fail))) | (simp [allP, opd, Fr.get, Fr.below, Fr.allN, AV.allN, AV.allNL, Loc.below, AO.allN, noN, killO, killT, killD, mkNames, AO.kill, AV.kill, AV.mapN, AV.mapNL]; done) | (with_reducible exact ltD (by assumption)) | omega | (simp only [decide_eq_true_eq, decide_eq_false_iff_not] at *; omega)))
  all_goals (try (simp [allP, opd, Fr.get, Fr.below, Fr.allN, AV.allN, AV.allNL, Loc.below, AO.allN, noN, killO, killT, killD, mkNames, AO.kill, AV.kill, AV.mapN, AV.mapNL, DevD.cells, g1, g2, g3, *]; done))
  all_goals (try (exact .inr ⟨by simp, by assumption⟩))
  all_goals (try (simp only [List.length_take]; simp only [decide_eq_true_eq] at *; omega))
  all_goals (try (
    rw [take_next (dltL hg)]
    refine Wk.keep hcl (by simp [Fr.get]) (by simp [sto, secRow, WrD.row, VolD.row, bytes, DevD.cells, e1, e2, e3, e4, e5, e6, e10, e11, e12, e13, e14, e15]) (by simp)))
end Go.Proofs.Ytalhjhmphdgaoaa
