/- Devices in one's own memory. -/
import Derived.Test.YtalhjhmphdgaoaaDevE
import Derived.Test.YtalhjhmphdgaoaaBytes
import Derived.Test.YtalhjhmphdgaoaaNameB
import Derived.Test.YtalhjhmphdgaoaaTypes
namespace Go.Proofs.Ytalhjhmphdgaoaa
open Go.RowKit
set_option maxRecDepth 100000
def o56_1 : List SO := ((SO.mk (some 24) (.bslice 24 1 [(0 , (.tmp 23))]) none) :: [])
theorem v56_1 : type_of% (@swd _ _ o56_1.eq_1) := @swd _ _ o56_1.eq_1
def o56_2 : List SO := ((SO.mk (some 20) (.faddr 28 (.tmp 3) 0) none) :: (SO.mk (some 21) (.load 24 (.tmp 20)) none) :: (SO.mk (some 22) (.move (.tmp 5)) none) :: (SO.mk (some 23) (.call 22 [(.tmp 22)]) none) :: o56_1)
theorem v56_2 : type_of% (@swd _ _ o56_2.eq_1) := @swd _ _ o56_2.eq_1
theorem m56_2 (B : Nat) : mkNames B o56_2 = [] := (rfl)
def c56_3 : SC := (.dreg false o56_2 [SO.mk (some 25) (.app 24 24 (.tmp 21) (.tmp 24)) none, SO.mk (some 26) (.faddr 28 (.tmp 3) 0) none, SO.mk none (.store 24 (.tmp 26) (.tmp 25)) none])
theorem u56_3 : type_of% (@swc _ _ c56_3.eq_1) := @swc _ _ c56_3.eq_1
def c56_4 : SC := (.reg [SO.mk (some 27) (.bin .add 3 (.tmp 16) (.const (Value.int .i64 1))) none, SO.mk (some 16) (.move (.tmp 27)) none])
theorem u56_4 : type_of% (@swc _ _ c56_4.eq_1) := @swc _ _ c56_4.eq_1
def c56_5 : SC := (.seq (.block 1 (.seq (.reg [SO.mk (some 18) (.iaddr 24 (.tmp 14) (.tmp 16)) none, SO.mk (some 19) (.load 29 (.tmp 18)) none, SO.mk (some 5) (.move (.tmp 19)) none]) (.keep [5, 16, 15, 14, 1, 3, 2] c56_3))) (.keep [16, 15, 14, 1, 3, 2] c56_4))
theorem u56_5 : type_of% (@swc _ _ c56_5.eq_1) := @swc _ _ c56_5.eq_1
def c56_6 : SC := (.seq (.cond (.tmp 17) .skip (.exit 0)) (.keep [16, 15, 14, 1, 3, 2] c56_5))
theorem u56_6 : type_of% (@swc _ _ c56_6.eq_1) := @swc _ _ c56_6.eq_1
def c56_7 : SC := (.seq (.reg [SO.mk (some 17) (.bin .lss 3 (.tmp 16) (.tmp 15)) none]) (.keep [17, 14, 15, 16, 1, 3, 2] c56_6))
theorem u56_7 : type_of% (@swc _ _ c56_7.eq_1) := @swc _ _ c56_7.eq_1
def c56_8 : SC := (.block 0 (.loop (.keep [14, 15, 16, 1, 3, 2] c56_7)))
theorem u56_8 : type_of% (@swc _ _ c56_8.eq_1) := @swc _ _ c56_8.eq_1
def o56_9 : List SO := ((SO.mk (some 43) (.bslice 25 1 [(0 , (.tmp 42))]) none) :: [])
theorem v56_9 : type_of% (@swd _ _ o56_9.eq_1) := @swd _ _ o56_9.eq_1
def o56_10 : List SO := ((SO.mk (some 39) (.faddr 55 (.tmp 7) 1) none) :: (SO.mk (some 40) (.load 29 (.tmp 39)) none) :: (SO.mk (some 41) (.call 22 [(.tmp 40)]) none) :: (SO.mk (some 42) (.build 55 [(0 , (.tmp 38)), (1 , (.tmp 41))]) none) :: o56_9)
theorem v56_10 : type_of% (@swd _ _ o56_10.eq_1) := @swd _ _ o56_10.eq_1
def o56_11 : List SO := ((SO.mk (some 35) (.faddr 28 (.tmp 3) 1) none) :: (SO.mk (some 36) (.load 25 (.tmp 35)) none) :: (SO.mk (some 37) (.faddr 55 (.tmp 7) 0) none) :: (SO.mk (some 38) (.load 3 (.tmp 37)) none) :: o56_10)
theorem v56_11 : type_of% (@swd _ _ o56_11.eq_1) := @swd _ _ o56_11.eq_1
theorem m56_11 (B : Nat) : mkNames B o56_11 = [] := (rfl)
def c56_12 : SC := (.dreg false o56_11 [SO.mk (some 44) (.app 25 25 (.tmp 36) (.tmp 43)) none, SO.mk (some 45) (.faddr 28 (.tmp 3) 1) none, SO.mk none (.store 25 (.tmp 45) (.tmp 44)) none])
theorem u56_12 : type_of% (@swc _ _ c56_12.eq_1) := @swc _ _ c56_12.eq_1
def c56_13 : SC := (.reg [SO.mk (some 46) (.bin .add 3 (.tmp 31) (.const (Value.int .i64 1))) none, SO.mk (some 31) (.move (.tmp 46)) none])
theorem u56_13 : type_of% (@swc _ _ c56_13.eq_1) := @swc _ _ c56_13.eq_1
def c56_14 : SC := (.seq (.block 3 (.seq (.reg [SO.mk (some 33) (.iaddr 25 (.tmp 29) (.tmp 31)) none, SO.mk (some 34) (.load 55 (.tmp 33)) none, SO.mk (some 7) (.alloc 55) none, SO.mk none (.store 55 (.tmp 7) (.tmp 34)) none]) (.keep [7, 31, 30, 29, 1, 3, 2] c56_12))) (.keep [31, 30, 29, 1, 3, 2] c56_13))
theorem u56_14 : type_of% (@swc _ _ c56_14.eq_1) := @swc _ _ c56_14.eq_1
def c56_15 : SC := (.seq (.cond (.tmp 32) .skip (.exit 2)) (.keep [31, 30, 29, 1, 3, 2] c56_14))
theorem u56_15 : type_of% (@swc _ _ c56_15.eq_1) := @swc _ _ c56_15.eq_1
def c56_16 : SC := (.seq (.reg [SO.mk (some 32) (.bin .lss 3 (.tmp 31) (.tmp 30)) none]) (.keep [32, 29, 30, 31, 1, 3, 2] c56_15))
theorem u56_16 : type_of% (@swc _ _ c56_16.eq_1) := @swc _ _ c56_16.eq_1
def c56_17 : SC := (.block 2 (.loop (.keep [29, 30, 31, 1, 3, 2] c56_16)))
theorem u56_17 : type_of% (@swc _ _ c56_17.eq_1) := @swc _ _ c56_17.eq_1
def o56_18 : List SO := ((SO.mk (some 62) (.app 26 26 (.tmp 59) (.tmp 61)) none) :: (SO.mk (some 63) (.faddr 28 (.tmp 3) 2) none) :: (SO.mk none (.store 26 (.tmp 63) (.tmp 62)) none) :: [])
theorem v56_18 : type_of% (@swl _ _ o56_18.eq_1) := @swl _ _ o56_18.eq_1
def c56_19 : SC := (.reg ((SO.mk (some 58) (.faddr 28 (.tmp 3) 2) none) :: (SO.mk (some 59) (.load 26 (.tmp 58)) none) :: (SO.mk (some 60) (.load 59 (.tmp 9)) none) :: (SO.mk (some 61) (.bslice 26 1 [(0 , (.tmp 60))]) none) :: o56_18))
theorem u56_19 : type_of% (@swc _ _ c56_19.eq_1) := @swc _ _ c56_19.eq_1
def c56_20 : SC := (.seq (.reg [SO.mk (some 54) (.faddr 59 (.tmp 9) 0) none, SO.mk (some 55) (.load 29 (.tmp 54)) none, SO.mk (some 56) (.call 22 [(.tmp 55)]) none, SO.mk (some 57) (.faddr 59 (.tmp 9) 0) none, SO.mk none (.store 29 (.tmp 57) (.tmp 56)) none]) (.keep [9, 50, 49, 48, 3, 2] c56_19))
theorem u56_20 : type_of% (@swc _ _ c56_20.eq_1) := @swc _ _ c56_20.eq_1
def c56_21 : SC := (.reg [SO.mk (some 64) (.bin .add 3 (.tmp 50) (.const (Value.int .i64 1))) none, SO.mk (some 50) (.move (.tmp 64)) none])
theorem u56_21 : type_of% (@swc _ _ c56_21.eq_1) := @swc _ _ c56_21.eq_1
def c56_22 : SC := (.seq (.block 5 (.seq (.reg [SO.mk (some 52) (.iaddr 26 (.tmp 48) (.tmp 50)) none, SO.mk (some 53) (.load 59 (.tmp 52)) none, SO.mk (some 9) (.alloc 59) none, SO.mk none (.store 59 (.tmp 9) (.tmp 53)) none]) (.keep [9, 50, 49, 48, 3, 2] c56_20))) (.keep [50, 49, 48, 3, 2] c56_21))
theorem u56_22 : type_of% (@swc _ _ c56_22.eq_1) := @swc _ _ c56_22.eq_1
def c56_23 : SC := (.seq (.cond (.tmp 51) .skip (.exit 4)) (.keep [50, 49, 48, 3, 2] c56_22))
theorem u56_23 : type_of% (@swc _ _ c56_23.eq_1) := @swc _ _ c56_23.eq_1
def c56_24 : SC := (.seq (.reg [SO.mk (some 51) (.bin .lss 3 (.tmp 50) (.tmp 49)) none]) (.keep [51, 48, 49, 50, 3, 2] c56_23))
theorem u56_24 : type_of% (@swc _ _ c56_24.eq_1) := @swc _ _ c56_24.eq_1
def c56_25 : SC := (.block 4 (.loop (.keep [48, 49, 50, 3, 2] c56_24)))
theorem u56_25 : type_of% (@swc _ _ c56_25.eq_1) := @swc _ _ c56_25.eq_1
def c56_26 : SC := (.seq (.reg [SO.mk (some 65) (.load 28 (.tmp 3)) none, SO.mk none (.store 28 (.tmp 2) (.tmp 65)) none]) (.keep [2] .ret))
theorem u56_26 : type_of% (@swc _ _ c56_26.eq_1) := @swc _ _ c56_26.eq_1
def c56_27 : SC := (.seq (.seq (.reg [SO.mk (some 47) (.faddr 28 (.tmp 1) 2) none, SO.mk (some 48) (.load 26 (.tmp 47)) none, SO.mk (some 49) (.len 26 (.tmp 48)) none, SO.mk (some 50) (.move (.const (Value.int .i64 0))) none]) (.keep [48, 49, 50, 3, 2] c56_25)) (.keep [3, 2] c56_26))
theorem u56_27 : type_of% (@swc _ _ c56_27.eq_1) := @swc _ _ c56_27.eq_1
def c56_28 : SC := (.seq (.seq (.reg [SO.mk (some 28) (.faddr 28 (.tmp 1) 1) none, SO.mk (some 29) (.load 25 (.tmp 28)) none, SO.mk (some 30) (.len 25 (.tmp 29)) none, SO.mk (some 31) (.move (.const (Value.int .i64 0))) none]) (.keep [29, 30, 31, 1, 3, 2] c56_17)) (.keep [1, 3, 2] c56_27))
theorem u56_28 : type_of% (@swc _ _ c56_28.eq_1) := @swc _ _ c56_28.eq_1
def c56_29 : SC := (.seq (.seq (.reg [SO.mk (some 13) (.faddr 28 (.tmp 1) 0) none, SO.mk (some 14) (.load 24 (.tmp 13)) none, SO.mk (some 15) (.len 24 (.tmp 14)) none, SO.mk (some 16) (.move (.const (Value.int .i64 0))) none]) (.keep [14, 15, 16, 1, 3, 2] c56_8)) (.keep [1, 3, 2] c56_28))
theorem u56_29 : type_of% (@swc _ _ c56_29.eq_1) := @swc _ _ c56_29.eq_1
def c56_30 : SC := (.seq (.reg [SO.mk (some 10) (.faddr 28 (.tmp 1) 3) none, SO.mk (some 11) (.load 3 (.tmp 10)) none, SO.mk (some 12) (.build 28 [(3 , (.tmp 11))]) none, SO.mk (some 3) (.alloc 28) none, SO.mk none (.store 28 (.tmp 3) (.tmp 12)) none]) (.keep [1, 3, 2] c56_29))
theorem u56_30 : type_of% (@swc _ _ c56_30.eq_1) := @swc _ _ c56_30.eq_1
def c56 : SC := (.seq (.reg [SO.mk (some 1) (.box 28 (.tmp 0)) none, SO.mk (some 2) (.alloc 28) none]) (.keep [1, 2] c56_30))
theorem c56_eq : annC Try.f56 = some c56 := by kernel_rfl
theorem r56 : Try.f56.results.toList = [.cell 2 28] := by kernel_rfl
theorem e56 : enters Try.prog 56 = true := by kernel_rfl
end Go.Proofs.Ytalhjhmphdgaoaa
namespace Go.Proofs.Ytalhjhmphdgaoaa
open Go.RowKit
set_option maxHeartbeats 4000000
set_option maxRecDepth 20000
attribute [local irreducible] SW SWL SWLn SWD SEcall SEcallv SDv SE SO1 SOg ACalls ACallv Wk EndV
set_option linter.unusedSimpArgs false
set_option linter.unusedVariables false
def devL (m1 m2 m3 : Nat) (s : List (List UInt8)) (c : List WrD) (v : List VolD) : Loc := [(m1, .arr 1 29 (s.map secRow)), (m2, .arr 2 55 (c.map WrD.row)), (m3, .arr 3 59 (v.map VolD.row))]
def devA (m1 m2 m3 : Nat) (s c v : Nat) (f : Int) : AV := .agg [.os m1 s, .os m2 c, .os m3 v, I f]
structure Free3 (B : Nat) (σ : Sto) (m1 m2 m3 : Nat) : Prop where
  b1 : m1 < B
  b2 : m2 < B
  b3 : m3 < B
  k1 : ∀ m, (σ m).kill m1 = σ m
  k2 : ∀ m, (σ m).kill m2 = σ m
  k3 : ∀ m, (σ m).kill m3 = σ m
  h12 : m1 ≠ m2
  h13 : m1 ≠ m3
  h23 : m2 ≠ m3
theorem nbF {m B : Nat} (h : m < B) (s : Nat) : (m = B + s) = False := by simp; omega
theorem nbF' {m B : Nat} (h : m < B) (s : Nat) : (B + s = m) = False := by simp; omega
theorem nbL {m B : Nat} (h : m < B) : (B ≤ m) = False := by simp; omega
theorem neF {m n : Nat} (h : m ≠ n) : (m = n) = False := by simp [h]
theorem neF' {m n : Nat} (h : m ≠ n) : (n = m) = False := by simp; exact fun e => h e.symm
def DevD.fit (d : DevD) : Prop := d.safe.length * 24 ≤ 2 ^ 47 ∧ d.cache.length * 32 ≤ 2 ^ 47 ∧ d.vols.length * 40 ≤ 2 ^ 47
theorem takeE {α : Type} {l : List α} {k : Nat} (h : decide ((k : Int) < l.length) = false) : l.take k = l := by
  simp at h; exact List.take_of_length_le (by omega)
theorem own_p (d : DevD) (hw : d.fit) (B : Nat) (σ : Sto) (m1 m2 m3 : Nat) (hf : Free3 B σ m1 m2 m3) : ACalls Try.prog 56 [d.av] σ B [m1, m2, m3] (fun v σ' => v = devA m1 m2 m3 d.safe.length d.cache.length d.vols.length d.fuel ∧ σ' = sto (devL m1 m2 m3 d.safe d.cache d.vols) σ) := by
  refine own_of follows Try.func56 c56_eq r56 (Nat.le_of_ble_eq_true rfl) fun hcl hsz => ?_
  obtain ⟨z1, z2, z3⟩ := dev_sz (hsz d.av (by simp))
  clear hsz
  obtain ⟨w1, w2, w3⟩ := hw
  obtain ⟨b1, b2, b3, k1, k2, k3, h12, h13, h23⟩ := hf
  have e1 := nbF b1
  have e2 := nbF b2
  have e3 := nbF b3
  have e4 := nbF' b1
  have e5 := nbF' b2
  have e6 := nbF' b3
  have e7 := nbL b1
  have e8 := nbL b2
  have e9 := nbL b3
  have e10 := neF h12
  have e11 := neF h13
  have e12 := neF h23
  have e13 := neF' h12
  have e14 := neF' h13
  have e15 := neF' h23
  have g1 : decide (m1 < B + 100000) = true := by simp; omega
  have g2 : decide (m2 < B + 100000) = true := by simp; omega
  have g3 : decide (m3 < B + 100000) = true := by simp; omega
  repeat' (first | (simp -implicitDefEqProofs only [*, contN, contC, Nat.reduceBEq, Bool.or_false, Bool.or_true, Bool.false_or, Bool.true_or, Bool.not_true, Bool.not_false, w_skip, w_ret, w_exit, w_reg, w_dreg, w_seq, SK_n, SK_r, SK_x, w_keep, w_block, w_cond, w_nil, w_cons, w_consg, w_nnil, w_ncons, w_dnil, w_dcons, w_dconsg, HK_app, HD_app, HQ_n, HQ_r, HQ_x, HQ_bn, HQ_br, HQ_bx, HQ_en, HQ_er, HQ_ex, CondB_true, CondB_false, SO1, w_sdv, SDe_alloc, SDe_box, SDe_bslice, SDe_app, true_imp_iff, false_imp_iff, and_false, false_and, not_false_eq_true, not_true_eq_false, addN, mkNames, killT, killD, killO, List.foldl_nil, List.foldl_cons, List.append_nil, List.nil_append, List.cons_append, GuardS_true, GuardS_false, GuardD_true, GuardD_false, DK_true, DK_false, lt_self_add, le_self_add, decide_true, decide_false, Bool.false_eq_true, Bool.true_eq_false, Nat.add_left_cancel_iff, SE, SEalloc, SEbox, SEstore, w_bs, SEbl, SEfz, SEbs0, fzName, osOf, AV.fz1, w_app, w_mk, aev, opd, Fr.get, putO, Fr.norm, List.map_cons, List.map_nil, with1, with2, onInt, AV.lit, entry, ↓reduceIte, Nat.reduceEqDiff, Nat.reduceAdd, reduceCtorEq, true_and, and_true, Option.map_some, Option.map_none, Option.bind_some, Option.bind_none, cond_true, cond_false, binV, unV, fieldV, loadV, sto, cellsAV, newF, newL, Fr.map, Loc.kill, Loc.set, AO.kill, AV.kill, AV.mapN, AV.mapNL, List.filter_nil, List.filter_cons, allP, EndV, retV, resV, resL, frz, dropL, AV.pick, nilV, tupV, imp_self, ne_eq, Int.cast_ofNat_Int, Int.reduceLT, Int.reduceToNat, List.getD_cons_zero, List.getD_cons_succ, bsliceV, buildV, afill, repl, chunk, rvs, AV.rv, RV.nrm, List.getElem?_nil, List.append_assoc, Nat.reduceMul, Nat.reducePow, Nat.zero_lt_succ, Nat.zero_add, Nat.add_zero, List.length_cons, List.length_nil, Nat.reduceLeDiff, Nat.le_refl, List.take_succ_cons, List.take_zero, List.drop_succ_cons, List.drop_zero, indexV, lenV, rowOf_mapD, rowOf_mapI, rowOf_mapA, List.length_map, Int.toNat_natCast, List.getElem?_cons_zero, List.getElem?_cons_succ, and_self, implies_true, if_true, if_false, HQ_zn, HQ_zr, HQ_wn, HQ_wr, AV.nz, AV.nzL, RV.nrm, SEbin, SEnil, nilK, srcV, dstV, appName, List.length_append, Nat.mul_one, take_map_len, take_map_app, List.getElem?_cons_zero, List.map_append, SEmkmap, SEmset, mgetV, kvOf, getM, setM, c56, r56, v56_1, v56_2, m56_2, u56_3, u56_4, u56_5, u56_6, u56_7, u56_8, v56_9, v56_10, v56_11, m56_11, u56_12, u56_13, u56_14, u56_15, u56_16, u56_17, v56_18, u56_19, u56_20, u56_21, u56_22, u56_23, u56_24, u56_25, u56_26, u56_27, u56_28, u56_29, u56_30, ty28, ty3, ty24, ty29, ty25, ty55, ty26, ty59, ty5, DevD.av, DevD.cells, noN, secRow, bytes, WrD.row, VolD.row, e1, e2, e3, e4, e5, e6, e10, e11, e12, e13, e14, e15, takeE]) | (with_reducible refine And.intro ?_ ?_) | (refine call_ro e22 ( clone_p _) rfl ?_ ?_ ?_ ?_) | (refine gcall_ro e22 ( clone_p _) rfl ?_ ?_ ?_ ?_) | (refine dcall_ro e22 ( clone_p _) rfl ?_ ?_ ?_ ?_) | (refine gdcall_ro rfl e22 ( clone_p _) rfl ?_ ?_ ?_ ?_) | (refine loop_nat (d.safe.length) (fun _ => True) (fun k => [(14, .d (.ro (d.safe.map secRow))), (15, I d.safe.length), (16, I k), (1, .lp (B + 1) 0), (3, .lp (B + 3) 0), (2, .lp (B + 2) 0)]) (fun k => [(B + 1, .box d.cells), (B + 2, .box [.d (.v (.slice none 0 0)), .d (.v (.slice none 0 0)), .d (.v (.slice none 0 0)), I 0]), (B + 3, .box [.os m1 (d.safe.take k).length, .os m2 0, .os m3 0, I d.fuel]), (m1, .arr 1 29 ((d.safe.take k).map secRow)), (m2, .arr 2 55 []), (m3, .arr 3 59 [])]) ?_ (Wk.trans (Wk.name3 (b := B + 3) (m1 := m1) (m2 := m2) (m3 := m3) (k1 := 1) (k2 := 2) (k3 := 3) (E1 := 29) (E2 := 55) (E3 := 59) (f := d.fuel) (by simp [sto, e1, e2, e3, e4, e5, e6]) (by omega) (by omega) (by omega) h12 h13 h23 (by omega) (by omega) (by omega) (.inr (by simp)) (.inr (by simp)) (.inr (by simp)) k1 k2 k3) (Wk.keep hcl ?_ ?_ ?_)) fun k hk hF => ?_; rotate_left 1; (focus (simp [Fr.get, newF, Fr.map, AV.kill, AV.mapN, DevD.av, DevD.cells, noN, secRow, bytes, WrD.row, VolD.row, e1, e2, e3, e4, e5, e6, e10, e11, e12, e13, e14, e15, takeE] <;> fail)); (focus (simp [sto, newL, Loc.kill, Loc.set, AO.kill, AV.kill, AV.mapN, DevD.av, DevD.cells, noN, secRow, bytes, WrD.row, VolD.row, e1, e2, e3, e4, e5, e6, e10, e11, e12, e13, e14, e15, takeE] <;> fail)); (focus (simp [newL, Loc.kill, Loc.set, DevD.av, DevD.cells, noN, secRow, bytes, WrD.row, VolD.row, e1, e2, e3, e4, e5, e6, e10, e11, e12, e13, e14, e15, takeE] <;> fail)); (try have hw : IntKind.i64.wrap ((k : Int) + 1) = (k : Int) + 1 := IntWalk.i64_in _ (by omega))) | (refine loop_nat (d.cache.length) (fun _ => True) (fun k => [(29, .d (.ro (d.cache.map WrD.row))), (30, I d.cache.length), (31, I k), (1, .lp (B + 1) 0), (3, .lp (B + 3) 0), (2, .lp (B + 2) 0)]) (fun k => [(B + 1, .box d.cells), (B + 2, .box [.d (.v (.slice none 0 0)), .d (.v (.slice none 0 0)), .d (.v (.slice none 0 0)), I 0]), (B + 3, .box [.os m1 d.safe.length, .os m2 (d.cache.take k).length, .os m3 0, I d.fuel]), (m1, .arr 1 29 (d.safe.map secRow)), (m2, .arr 2 55 ((d.cache.take k).map WrD.row)), (m3, .arr 3 59 [])]) ?_ (Wk.keep hcl ?_ ?_ ?_) fun k hk hF => ?_; rotate_left 1; (focus (simp [Fr.get, newF, Fr.map, AV.kill, AV.mapN, DevD.av, DevD.cells, noN, secRow, bytes, WrD.row, VolD.row, e1, e2, e3, e4, e5, e6, e10, e11, e12, e13, e14, e15, takeE] <;> fail)); (focus (simp [sto, newL, Loc.kill, Loc.set, AO.kill, AV.kill, AV.mapN, DevD.av, DevD.cells, noN, secRow, bytes, WrD.row, VolD.row, e1, e2, e3, e4, e5, e6, e10, e11, e12, e13, e14, e15, takeE] <;> fail)); (focus (simp [newL, Loc.kill, Loc.set, DevD.av, DevD.cells, noN, secRow, bytes, WrD.row, VolD.row, e1, e2, e3, e4, e5, e6, e10, e11, e12, e13, e14, e15, takeE] <;> fail)); (try have hw : IntKind.i64.wrap ((k : Int) + 1) = (k : Int) + 1 := IntWalk.i64_in _ (by omega))) | (refine loop_nat (d.vols.length) (fun _ => True) (fun k => [(48, .d (.ro (d.vols.map VolD.row))), (49, I d.vols.length), (50, I k), (3, .lp (B + 3) 0), (2, .lp (B + 2) 0)]) (fun k => [(B + 2, .box [.d (.v (.slice none 0 0)), .d (.v (.slice none 0 0)), .d (.v (.slice none 0 0)), I 0]), (B + 3, .box [.os m1 d.safe.length, .os m2 d.cache.length, .os m3 (d.vols.take k).length, I d.fuel]), (m1, .arr 1 29 (d.safe.map secRow)), (m2, .arr 2 55 (d.cache.map WrD.row)), (m3, .arr 3 59 ((d.vols.take k).map VolD.row))]) ?_ (Wk.keep hcl ?_ ?_ ?_) fun k hk hF => ?_; rotate_left 1; (focus (simp [Fr.get, newF, Fr.map, AV.kill, AV.mapN, DevD.av, DevD.cells, noN, secRow, bytes, WrD.row, VolD.row, e1, e2, e3, e4, e5, e6, e10, e11, e12, e13, e14, e15, takeE] <;> fail)); (focus (simp [sto, newL, Loc.kill, Loc.set, AO.kill, AV.kill, AV.mapN, DevD.av, DevD.cells, noN, secRow, bytes, WrD.row, VolD.row, e1, e2, e3, e4, e5, e6, e10, e11, e12, e13, e14, e15, takeE] <;> fail)); (focus (simp [newL, Loc.kill, Loc.set, DevD.av, DevD.cells, noN, secRow, bytes, WrD.row, VolD.row, e1, e2, e3, e4, e5, e6, e10, e11, e12, e13, e14, e15, takeE] <;> fail)); (try have hw : IntKind.i64.wrap ((k : Int) + 1) = (k : Int) + 1 := IntWalk.i64_in _ (by omega))) | (refine EndX.plain ?_) | (refine nil_split (fun hn => ?_) (fun hn => ?_)) | (refine gcall_no not_false ?_) | (refine gdcall_no not_false ?_) | (refine GuardS_of _ _ _ _ _ _ (fun hg => ?_) (fun hg => ?_)) | (refine GuardD_of _ _ _ _ (fun hg => ?_) (fun hg => ?_)) | (refine CondB_of _ _ _ _ _ _ _ ?_ (fun hg => ?_) (fun hg => ?_)))
  all_goals (try (first | ((first | unfold noN | unfold Fr.below | unfold Loc.below); simp [Fr.allN, AV.allN, AV.allNL, AO.allN]; done) | rfl | trivial | assumption | (intro row hrow; simp only [List.mem_map] at hrow; obtain ⟨x, _, rfl⟩ := hrow; rfl) | (refine Wk.keep hcl ?_ ?_ ?_; (focus (simp [Fr.get, DevD.av, DevD.cells, noN, secRow, bytes, WrD.row, VolD.row, e1, e2, e3, e4, e5, e6, e10, e11, e12, e13, e14, e15, takeE] <;> fail)); (focus (simp [sto, DevD.av, DevD.cells, noN, secRow, bytes, WrD.row, VolD.row, e1, e2, e3, e4, e5, e6, e10, e11, e12, e13, e14, e15, takeE] <;> fail)); (focus (simp <;> fail))) | (simp [allP, opd, Fr.get, Fr.below, Fr.allN, AV.allN, AV.allNL, Loc.below, AO.allN, noN, killO, killT, killD, mkNames, AO.kill, AV.kill, AV.mapN, AV.mapNL]; done) | (with_reducible exact ltD (by assumption)) | omega | (simp only [decide_eq_true_eq, decide_eq_false_iff_not] at *; omega)))
  all_goals (try (simp [allP, opd, Fr.get, Fr.below, Fr.allN, AV.allN, AV.allNL, Loc.below, AO.allN, noN, killO, killT, killD, mkNames, AO.kill, AV.kill, AV.mapN, AV.mapNL, DevD.cells, g1, g2, g3, *]; done))
  all_goals (try (exact .inr ⟨by simp, by assumption⟩))
  all_goals (try (simp only [List.length_take]; simp only [decide_eq_true_eq] at *; omega))
  all_goals (try (
    rw [take_next (dltL hg)]
    refine Wk.keep hcl (by simp [Fr.get]) (by simp [sto, secRow, WrD.row, VolD.row, bytes, DevD.cells, e1, e2, e3, e4, e5, e6, e10, e11, e12, e13, e14, e15]) (by simp)))
end Go.Proofs.Ytalhjhmphdgaoaa
