/- Devices in one's own memory. -/
import Derived.Test.YtelciiooegiikaaDevE
import Derived.Test.YtelciiooegiikaaBytes
import Derived.Test.YtelciiooegiikaaNameB
import Derived.Test.YtelciiooegiikaaTypes
namespace Go.Proofs.Ytelciiooegiikaa
open Go.RowKit
set_option maxRecDepth 100000
def o25_1 : List SO := ((SO.mk (some 24) (.bslice 24 1 [(0 , (.tmp 23))]) none) :: [])
theorem v25_1 : type_of% (@swd _ _ o25_1.eq_1) := @swd _ _ o25_1.eq_1
def o25_2 : List SO := ((SO.mk (some 20) (.faddr 28 (.tmp 3) 0) none) :: (SO.mk (some 21) (.load 24 (.tmp 20)) none) :: (SO.mk (some 22) (.move (.tmp 5)) none) :: (SO.mk (some 23) (.call 32 [(.tmp 22)]) none) :: o25_1)
theorem v25_2 : type_of% (@swd _ _ o25_2.eq_1) := @swd _ _ o25_2.eq_1
theorem m25_2 (B : Nat) : mkNames B o25_2 = [] := (rfl)
def c25_3 : SC := (.dreg false o25_2 [SO.mk (some 25) (.app 24 24 (.tmp 21) (.tmp 24)) none, SO.mk (some 26) (.faddr 28 (.tmp 3) 0) none, SO.mk none (.store 24 (.tmp 26) (.tmp 25)) none])
theorem u25_3 : type_of% (@swc _ _ c25_3.eq_1) := @swc _ _ c25_3.eq_1
def c25_4 : SC := (.reg [SO.mk (some 27) (.bin .add 3 (.tmp 16) (.const (Value.int .i64 1))) none, SO.mk (some 16) (.move (.tmp 27)) none])
theorem u25_4 : type_of% (@swc _ _ c25_4.eq_1) := @swc _ _ c25_4.eq_1
def c25_5 : SC := (.seq (.block 1 (.seq (.reg [SO.mk (some 18) (.iaddr 24 (.tmp 14) (.tmp 16)) none, SO.mk (some 19) (.load 29 (.tmp 18)) none, SO.mk (some 5) (.move (.tmp 19)) none]) (.keep [5, 16, 15, 14, 1, 3, 2] c25_3))) (.keep [16, 15, 14, 1, 3, 2] c25_4))
theorem u25_5 : type_of% (@swc _ _ c25_5.eq_1) := @swc _ _ c25_5.eq_1
def c25_6 : SC := (.seq (.cond (.tmp 17) .skip (.exit 0)) (.keep [16, 15, 14, 1, 3, 2] c25_5))
theorem u25_6 : type_of% (@swc _ _ c25_6.eq_1) := @swc _ _ c25_6.eq_1
def c25_7 : SC := (.seq (.reg [SO.mk (some 17) (.bin .lss 3 (.tmp 16) (.tmp 15)) none]) (.keep [17, 14, 15, 16, 1, 3, 2] c25_6))
theorem u25_7 : type_of% (@swc _ _ c25_7.eq_1) := @swc _ _ c25_7.eq_1
def c25_8 : SC := (.block 0 (.loop (.keep [14, 15, 16, 1, 3, 2] c25_7)))
theorem u25_8 : type_of% (@swc _ _ c25_8.eq_1) := @swc _ _ c25_8.eq_1
def o25_9 : List SO := ((SO.mk (some 43) (.bslice 25 1 [(0 , (.tmp 42))]) none) :: [])
theorem v25_9 : type_of% (@swd _ _ o25_9.eq_1) := @swd _ _ o25_9.eq_1
def o25_10 : List SO := ((SO.mk (some 39) (.faddr 39 (.tmp 7) 1) none) :: (SO.mk (some 40) (.load 29 (.tmp 39)) none) :: (SO.mk (some 41) (.call 32 [(.tmp 40)]) none) :: (SO.mk (some 42) (.build 39 [(0 , (.tmp 38)), (1 , (.tmp 41))]) none) :: o25_9)
theorem v25_10 : type_of% (@swd _ _ o25_10.eq_1) := @swd _ _ o25_10.eq_1
def o25_11 : List SO := ((SO.mk (some 35) (.faddr 28 (.tmp 3) 1) none) :: (SO.mk (some 36) (.load 25 (.tmp 35)) none) :: (SO.mk (some 37) (.faddr 39 (.tmp 7) 0) none) :: (SO.mk (some 38) (.load 3 (.tmp 37)) none) :: o25_10)
theorem v25_11 : type_of% (@swd _ _ o25_11.eq_1) := @swd _ _ o25_11.eq_1
theorem m25_11 (B : Nat) : mkNames B o25_11 = [] := (rfl)
def c25_12 : SC := (.dreg false o25_11 [SO.mk (some 44) (.app 25 25 (.tmp 36) (.tmp 43)) none, SO.mk (some 45) (.faddr 28 (.tmp 3) 1) none, SO.mk none (.store 25 (.tmp 45) (.tmp 44)) none])
theorem u25_12 : type_of% (@swc _ _ c25_12.eq_1) := @swc _ _ c25_12.eq_1
def c25_13 : SC := (.reg [SO.mk (some 46) (.bin .add 3 (.tmp 31) (.const (Value.int .i64 1))) none, SO.mk (some 31) (.move (.tmp 46)) none])
theorem u25_13 : type_of% (@swc _ _ c25_13.eq_1) := @swc _ _ c25_13.eq_1
def c25_14 : SC := (.seq (.block 3 (.seq (.reg [SO.mk (some 33) (.iaddr 25 (.tmp 29) (.tmp 31)) none, SO.mk (some 34) (.load 39 (.tmp 33)) none, SO.mk (some 7) (.alloc 39) none, SO.mk none (.store 39 (.tmp 7) (.tmp 34)) none]) (.keep [7, 31, 30, 29, 1, 3, 2] c25_12))) (.keep [31, 30, 29, 1, 3, 2] c25_13))
theorem u25_14 : type_of% (@swc _ _ c25_14.eq_1) := @swc _ _ c25_14.eq_1
def c25_15 : SC := (.seq (.cond (.tmp 32) .skip (.exit 2)) (.keep [31, 30, 29, 1, 3, 2] c25_14))
theorem u25_15 : type_of% (@swc _ _ c25_15.eq_1) := @swc _ _ c25_15.eq_1
def c25_16 : SC := (.seq (.reg [SO.mk (some 32) (.bin .lss 3 (.tmp 31) (.tmp 30)) none]) (.keep [32, 29, 30, 31, 1, 3, 2] c25_15))
theorem u25_16 : type_of% (@swc _ _ c25_16.eq_1) := @swc _ _ c25_16.eq_1
def c25_17 : SC := (.block 2 (.loop (.keep [29, 30, 31, 1, 3, 2] c25_16)))
theorem u25_17 : type_of% (@swc _ _ c25_17.eq_1) := @swc _ _ c25_17.eq_1
def o25_18 : List SO := ((SO.mk (some 62) (.app 26 26 (.tmp 59) (.tmp 61)) none) :: (SO.mk (some 63) (.faddr 28 (.tmp 3) 2) none) :: (SO.mk none (.store 26 (.tmp 63) (.tmp 62)) none) :: [])
theorem v25_18 : type_of% (@swl _ _ o25_18.eq_1) := @swl _ _ o25_18.eq_1
def c25_19 : SC := (.reg ((SO.mk (some 58) (.faddr 28 (.tmp 3) 2) none) :: (SO.mk (some 59) (.load 26 (.tmp 58)) none) :: (SO.mk (some 60) (.load 41 (.tmp 9)) none) :: (SO.mk (some 61) (.bslice 26 1 [(0 , (.tmp 60))]) none) :: o25_18))
theorem u25_19 : type_of% (@swc _ _ c25_19.eq_1) := @swc _ _ c25_19.eq_1
def c25_20 : SC := (.seq (.reg [SO.mk (some 54) (.faddr 41 (.tmp 9) 0) none, SO.mk (some 55) (.load 29 (.tmp 54)) none, SO.mk (some 56) (.call 32 [(.tmp 55)]) none, SO.mk (some 57) (.faddr 41 (.tmp 9) 0) none, SO.mk none (.store 29 (.tmp 57) (.tmp 56)) none]) (.keep [9, 50, 49, 48, 3, 2] c25_19))
theorem u25_20 : type_of% (@swc _ _ c25_20.eq_1) := @swc _ _ c25_20.eq_1
def c25_21 : SC := (.reg [SO.mk (some 64) (.bin .add 3 (.tmp 50) (.const (Value.int .i64 1))) none, SO.mk (some 50) (.move (.tmp 64)) none])
theorem u25_21 : type_of% (@swc _ _ c25_21.eq_1) := @swc _ _ c25_21.eq_1
def c25_22 : SC := (.seq (.block 5 (.seq (.reg [SO.mk (some 52) (.iaddr 26 (.tmp 48) (.tmp 50)) none, SO.mk (some 53) (.load 41 (.tmp 52)) none, SO.mk (some 9) (.alloc 41) none, SO.mk none (.store 41 (.tmp 9) (.tmp 53)) none]) (.keep [9, 50, 49, 48, 3, 2] c25_20))) (.keep [50, 49, 48, 3, 2] c25_21))
theorem u25_22 : type_of% (@swc _ _ c25_22.eq_1) := @swc _ _ c25_22.eq_1
def c25_23 : SC := (.seq (.cond (.tmp 51) .skip (.exit 4)) (.keep [50, 49, 48, 3, 2] c25_22))
theorem u25_23 : type_of% (@swc _ _ c25_23.eq_1) := @swc _ _ c25_23.eq_1
def c25_24 : SC := (.seq (.reg [SO.mk (some 51) (.bin .lss 3 (.tmp 50) (.tmp 49)) none]) (.keep [51, 48, 49, 50, 3, 2] c25_23))
theorem u25_24 : type_of% (@swc _ _ c25_24.eq_1) := @swc _ _ c25_24.eq_1
def c25_25 : SC := (.block 4 (.loop (.keep [48, 49, 50, 3, 2] c25_24)))
theorem u25_25 : type_of% (@swc _ _ c25_25.eq_1) := @swc _ _ c25_25.eq_1
def c25_26 : SC := (.seq (.reg [SO.mk (some 65) (.load 28 (.tmp 3)) none, SO.mk none (.store 28 (.tmp 2) (.tmp 65)) none]) (.keep [2] .ret))
theorem u25_26 : type_of% (@swc _ _ c25_26.eq_1) := @swc _ _ c25_26.eq_1
def c25_27 : SC := (.seq (.seq (.reg [SO.mk (some 47) (.faddr 28 (.tmp 1) 2) none, SO.mk (some 48) (.load 26 (.tmp 47)) none, SO.mk (some 49) (.len 26 (.tmp 48)) none, SO.mk (some 50) (.move (.const (Value.int .i64 0))) none]) (.keep [48, 49, 50, 3, 2] c25_25)) (.keep [3, 2] c25_26))
theorem u25_27 : type_of% (@swc _ _ c25_27.eq_1) := @swc _ _ c25_27.eq_1
def c25_28 : SC := (.seq (.seq (.reg [SO.mk (some 28) (.faddr 28 (.tmp 1) 1) none, SO.mk (some 29) (.load 25 (.tmp 28)) none, SO.mk (some 30) (.len 25 (.tmp 29)) none, SO.mk (some 31) (.move (.const (Value.int .i64 0))) none]) (.keep [29, 30, 31, 1, 3, 2] c25_17)) (.keep [1, 3, 2] c25_27))
theorem u25_28 : type_of% (@swc _ _ c25_28.eq_1) := @swc _ _ c25_28.eq_1
def c25_29 : SC := (.seq (.seq (.reg [SO.mk (some 13) (.faddr 28 (.tmp 1) 0) none, SO.mk (some 14) (.load 24 (.tmp 13)) none, SO.mk (some 15) (.len 24 (.tmp 14)) none, SO.mk (some 16) (.move (.const (Value.int .i64 0))) none]) (.keep [14, 15, 16, 1, 3, 2] c25_8)) (.keep [1, 3, 2] c25_28))
theorem u25_29 : type_of% (@swc _ _ c25_29.eq_1) := @swc _ _ c25_29.eq_1
def c25_30 : SC := (.seq (.reg [SO.mk (some 10) (.faddr 28 (.tmp 1) 3) none, SO.mk (some 11) (.load 3 (.tmp 10)) none, SO.mk (some 12) (.build 28 [(3 , (.tmp 11))]) none, SO.mk (some 3) (.alloc 28) none, SO.mk none (.store 28 (.tmp 3) (.tmp 12)) none]) (.keep [1, 3, 2] c25_29))
theorem u25_30 : type_of% (@swc _ _ c25_30.eq_1) := @swc _ _ c25_30.eq_1
def c25 : SC := (.seq (.reg [SO.mk (some 1) (.box 28 (.tmp 0)) none, SO.mk (some 2) (.alloc 28) none]) (.keep [1, 2] c25_30))
theorem c25_eq : annC Try.f25 = some c25 := by kernel_rfl
theorem r25 : Try.f25.results.toList = [.cell 2 28] := by kernel_rfl
theorem e25 : enters Try.prog 25 = true := by kernel_rfl
end Go.Proofs.Ytelciiooegiikaa
namespace Go.Proofs.Ytelciiooegiikaa
open Go.RowKit
set_option maxHeartbeats 4000000
set_option maxRecDepth 20000
attribute [local irreducible] SW OSW SWL SWLn SWD SEcall SEcallv SDv SE SO1 SOg ACalls ACallv Wk EndV
set_option linter.unusedSimpArgs false
set_option linter.unusedVariables false
def devL (m1 m2 m3 : Nat) (s : List (List UInt8)) (c : List WrD) (v : List VolD) : Loc := [(m1, .arr 1 29 (s.map secRow)), (m2, .arr 2 39 (c.map WrD.row)), (m3, .arr 3 41 (v.map VolD.row))]
def devA (m1 m2 m3 : Nat) (s c v : Nat) (f : Int) : AV := .agg [.os m1 s, .os m2 c, .os m3 v, I f]
structure Free3 (B : Nat) (σ : Sto) (m1 m2 m3 : Nat) : Prop where
  b1 : m1 < B
  b2 : m2 < B
  b3 : m3 < B
  k1 : ∀ m, (σ m).kill m1 = σ m
  k2 : ∀ m, (σ m).kill m2 = σ m
  k3 : ∀ m, (σ m).kill m3 = σ m
  h12 : m1 ≠ m2
  h13 : m1 ≠ m3
  h23 : m2 ≠ m3
theorem nbF {m B : Nat} (h : m < B) (s : Nat) : (m = B + s) = False := by simp; omega
theorem nbF' {m B : Nat} (h : m < B) (s : Nat) : (B + s = m) = False := by simp; omega
theorem nbL {m B : Nat} (h : m < B) : (B ≤ m) = False := by simp; omega
theorem neF {m n : Nat} (h : m ≠ n) : (m = n) = False := by simp [h]
theorem neF' {m n : Nat} (h : m ≠ n) : (n = m) = False := by simp; exact fun e => h e.symm
def DevD.fit (d : DevD) : Prop := d.safe.length * 24 ≤ 2 ^ 47 ∧ d.cache.length * 32 ≤ 2 ^ 47 ∧ d.vols.length * 40 ≤ 2 ^ 47
theorem takeE {α : Type} {l : List α} {k : Nat} (h : decide ((k : Int) < l.length) = false) : l.take k = l := by
  simp at h; exact List.take_of_length_le (by omega)
theorem own_p (d : DevD) (hw : d.fit) (B : Nat) (σ : Sto) (m1 m2 m3 : Nat) (hf : Free3 B σ m1 m2 m3) : ACalls Try.prog 25 [d.av] σ B [m1, m2, m3] (fun v σ' => v = devA m1 m2 m3 d.safe.length d.cache.length d.vols.length d.fuel ∧ σ' = sto (devL m1 m2 m3 d.safe d.cache d.vols) σ) := by
  refine own_of follows Try.func25 c25_eq r25 (Nat.le_of_ble_eq_true rfl) fun hcl hsz => ?_
  obtain ⟨z1, z2, z3⟩ := dev_sz (hsz d.av (by simp))
  clear hsz
  obtain ⟨w1, w2, w3⟩ := hw
  obtain ⟨b1, b2, b3, k1, k2, k3, h12, h13, h23⟩ := hf
  have qe1 := nbF b1
  have qe2 := nbF b2
  have qe3 := nbF b3
  have qe4 := nbF' b1
  have qe5 := nbF' b2
  have qe6 := nbF' b3
  have qe7 := nbL b1
  have qe8 := nbL b2
  have qe9 := nbL b3
  have qe10 := neF h12
  have qe11 := neF h13
  have qe12 := neF h23
  have qe13 := neF' h12
  have qe14 := neF' h13
  have qe15 := neF' h23
  have g1 : decide (m1 < B + 100000) = true := by simp; omega
  have g2 : decide (m2 < B + 100000) = true := by simp; omega
  have g3 : decide (m3 < B + 100000) = true := by simp; omega
  repeat' (first | (simp -implicitDefEqProofs only [*, contN, contC, Nat.reduceBEq, Bool.or_false, Bool.or_true, Bool.false_or, Bool.true_or, Bool.not_true, Bool.not_false, SEconv, w_skip, w_ret, w_exit, w_reg, w_dreg, w_oreg, HO_app, w_odone, w_onil, w_ofst, w_obr, w_seq, SK_n, SK_r, SK_x, w_keep, w_block, w_cond, w_nil, w_cons, w_consg, w_nnil, w_ncons, w_dnil, w_dcons, w_dconsg, HK_app, HD_app, HQ_n, HQ_r, HQ_x, HQ_bn, HQ_br, HQ_bx, HQ_en, HQ_er, HQ_ex, CondB_true, CondB_false, SO1, w_sdv, SDe_alloc, SDe_box, SDe_bslice, SDe_app, true_imp_iff, false_imp_iff, and_false, false_and, not_false_eq_true, not_true_eq_false, addN, mkNames, killT, killD, killO, List.foldl_nil, List.foldl_cons, List.append_nil, List.nil_append, List.cons_append, GuardS_true, GuardS_false, GuardD_true, GuardD_false, DK_true, DK_false, lt_self_add, le_self_add, decide_true, decide_false, Bool.false_eq_true, Bool.true_eq_false, Nat.add_left_cancel_iff, SE, SEalloc, SEbox, SEstore, w_bs, SEbl, SEfz, SEbs0, fzName, osOf, AV.fz1, w_app, w_mk, aev, opd, Fr.get, putO, Fr.norm, List.map_cons, List.map_nil, with1, with2, onInt, AV.lit, entry, ↓reduceIte, Nat.reduceEqDiff, Nat.reduceAdd, reduceCtorEq, true_and, and_true, Option.map_some, Option.map_none, Option.bind_some, Option.bind_none, cond_true, cond_false, binV, unV, fieldV, loadV, sto, cellsAV, newF, newL, Fr.map, Loc.kill, Loc.set, AO.kill, AV.kill, AV.mapN, AV.mapNL, List.filter_nil, List.filter_cons, allP, EndV, retV, resV, resL, frz, dropL, AV.pick, nilV, tupV, imp_self, ne_eq, Int.cast_ofNat_Int, Int.reduceLT, Int.reduceToNat, List.getD_cons_zero, List.getD_cons_succ, bsliceV, buildV, afill, repl, chunk, rvs, AV.rv, RV.nrm, List.getElem?_nil, List.append_assoc, Nat.reduceMul, Nat.reducePow, Nat.zero_lt_succ, Nat.zero_add, Nat.add_zero, List.length_cons, List.length_nil, Nat.reduceLeDiff, Nat.le_refl, List.take_succ_cons, List.take_zero, List.drop_succ_cons, List.drop_zero, indexV, lenV, rowOf_mapD, rowOf_mapI, rowOf_mapA, List.length_map, Int.toNat_natCast, List.getElem?_cons_zero, List.getElem?_cons_succ, and_self, implies_true, if_true, if_false, HQ_zn, HQ_zr, HQ_wn, HQ_wr, AV.nz, AV.nzL, RV.nrm, SEbin, SEnil, nilK, srcV, dstV, appName, List.length_append, Nat.mul_one, take_map_len, take_map_app, List.getElem?_cons_zero, List.map_append, SEmkmap, SEmset, mgetV, kvOf, getM, setM, w_bsH, SEapA, SEapB, bsliceA, c25, r25, v25_1, v25_2, m25_2, u25_3, u25_4, u25_5, u25_6, u25_7, u25_8, v25_9, v25_10, v25_11, m25_11, u25_12, u25_13, u25_14, u25_15, u25_16, u25_17, v25_18, u25_19, u25_20, u25_21, u25_22, u25_23, u25_24, u25_25, u25_26, u25_27, u25_28, u25_29, u25_30, ty28, ty3, ty24, ty29, ty25, ty39, ty26, ty41, ty5, DevD.av, DevD.cells, noN, secRow, bytes, WrD.row, VolD.row, qe1, qe2, qe3, qe4, qe5, qe6, qe10, qe11, qe12, qe13, qe14, qe15, takeE]) | (with_reducible refine And.intro ?_ ?_) | (refine call_ro e32 ( clone_p _) rfl ?_ ?_ ?_ ?_) | (refine gcall_ro e32 ( clone_p _) rfl ?_ ?_ ?_ ?_) | (refine dcall_ro e32 ( clone_p _) rfl ?_ ?_ ?_ ?_) | (refine gdcall_ro rfl e32 ( clone_p _) rfl ?_ ?_ ?_ ?_) | (refine loop_nat (d.safe.length) (fun _ => True) (fun k => [(14, .d (.ro (d.safe.map secRow))), (15, I d.safe.length), (16, I k), (1, .lp (B + 1) 0), (3, .lp (B + 3) 0), (2, .lp (B + 2) 0)]) (fun k => [(B + 1, .box d.cells), (B + 2, .box [.d (.v (.slice none 0 0)), .d (.v (.slice none 0 0)), .d (.v (.slice none 0 0)), I 0]), (B + 3, .box [.os m1 (d.safe.take k).length, .os m2 0, .os m3 0, I d.fuel]), (m1, .arr 1 29 ((d.safe.take k).map secRow)), (m2, .arr 2 39 []), (m3, .arr 3 41 [])]) ?_ (Wk.trans (Wk.name3 (b := B + 3) (m1 := m1) (m2 := m2) (m3 := m3) (k1 := 1) (k2 := 2) (k3 := 3) (E1 := 29) (E2 := 39) (E3 := 41) (f := d.fuel) (by simp [sto, qe1, qe2, qe3, qe4, qe5, qe6]) (by omega) (by omega) (by omega) h12 h13 h23 (by omega) (by omega) (by omega) (.inr (by simp)) (.inr (by simp)) (.inr (by simp)) k1 k2 k3) (Wk.keep hcl ?_ ?_ ?_)) fun k hk hF => ?_; rotate_left 1; (focus (simp [Fr.get, newF, Fr.map, AV.kill, AV.mapN, DevD.av, DevD.cells, noN, secRow, bytes, WrD.row, VolD.row, qe1, qe2, qe3, qe4, qe5, qe6, qe10, qe11, qe12, qe13, qe14, qe15, takeE] <;> fail)); (focus (simp [sto, newL, Loc.kill, Loc.set, AO.kill, AV.kill, AV.mapN, DevD.av, DevD.cells, noN, secRow, bytes, WrD.row, VolD.row, qe1, qe2, qe3, qe4, qe5, qe6, qe10, qe11, qe12, qe13, qe14, qe15, takeE] <;> fail)); (focus (simp [newL, Loc.kill, Loc.set, DevD.av, DevD.cells, noN, secRow, bytes, WrD.row, VolD.row, qe1, qe2, qe3, qe4, qe5, qe6, qe10, qe11, qe12, qe13, qe14, qe15, takeE] <;> fail)); (try have hw : IntKind.i64.wrap ((k : Int) + 1) = (k : Int) + 1 := IntWalk.i64_in _ (by omega))) | (refine loop_nat (d.cache.length) (fun _ => True) (fun k => [(29, .d (.ro (d.cache.map WrD.row))), (30, I d.cache.length), (31, I k), (1, .lp (B + 1) 0), (3, .lp (B + 3) 0), (2, .lp (B + 2) 0)]) (fun k => [(B + 1, .box d.cells), (B + 2, .box [.d (.v (.slice none 0 0)), .d (.v (.slice none 0 0)), .d (.v (.slice none 0 0)), I 0]), (B + 3, .box [.os m1 d.safe.length, .os m2 (d.cache.take k).length, .os m3 0, I d.fuel]), (m1, .arr 1 29 (d.safe.map secRow)), (m2, .arr 2 39 ((d.cache.take k).map WrD.row)), (m3, .arr 3 41 [])]) ?_ (Wk.keep hcl ?_ ?_ ?_) fun k hk hF => ?_; rotate_left 1; (focus (simp [Fr.get, newF, Fr.map, AV.kill, AV.mapN, DevD.av, DevD.cells, noN, secRow, bytes, WrD.row, VolD.row, qe1, qe2, qe3, qe4, qe5, qe6, qe10, qe11, qe12, qe13, qe14, qe15, takeE] <;> fail)); (focus (simp [sto, newL, Loc.kill, Loc.set, AO.kill, AV.kill, AV.mapN, DevD.av, DevD.cells, noN, secRow, bytes, WrD.row, VolD.row, qe1, qe2, qe3, qe4, qe5, qe6, qe10, qe11, qe12, qe13, qe14, qe15, takeE] <;> fail)); (focus (simp [newL, Loc.kill, Loc.set, DevD.av, DevD.cells, noN, secRow, bytes, WrD.row, VolD.row, qe1, qe2, qe3, qe4, qe5, qe6, qe10, qe11, qe12, qe13, qe14, qe15, takeE] <;> fail)); (try have hw : IntKind.i64.wrap ((k : Int) + 1) = (k : Int) + 1 := IntWalk.i64_in _ (by omega))) | (refine loop_nat (d.vols.length) (fun _ => True) (fun k => [(48, .d (.ro (d.vols.map VolD.row))), (49, I d.vols.length), (50, I k), (3, .lp (B + 3) 0), (2, .lp (B + 2) 0)]) (fun k => [(B + 2, .box [.d (.v (.slice none 0 0)), .d (.v (.slice none 0 0)), .d (.v (.slice none 0 0)), I 0]), (B + 3, .box [.os m1 d.safe.length, .os m2 d.cache.length, .os m3 (d.vols.take k).length, I d.fuel]), (m1, .arr 1 29 (d.safe.map secRow)), (m2, .arr 2 39 (d.cache.map WrD.row)), (m3, .arr 3 41 ((d.vols.take k).map VolD.row))]) ?_ (Wk.keep hcl ?_ ?_ ?_) fun k hk hF => ?_; rotate_left 1; (focus (simp [Fr.get, newF, Fr.map, AV.kill, AV.mapN, DevD.av, DevD.cells, noN, secRow, bytes, WrD.row, VolD.row, qe1, qe2, qe3, qe4, qe5, qe6, qe10, qe11, qe12, qe13, qe14, qe15, takeE] <;> fail)); (focus (simp [sto, newL, Loc.kill, Loc.set, AO.kill, AV.kill, AV.mapN, DevD.av, DevD.cells, noN, secRow, bytes, WrD.row, VolD.row, qe1, qe2, qe3, qe4, qe5, qe6, qe10, qe11, qe12, qe13, qe14, qe15, takeE] <;> fail)); (focus (simp [newL, Loc.kill, Loc.set, DevD.av, DevD.cells, noN, secRow, bytes, WrD.row, VolD.row, qe1, qe2, qe3, qe4, qe5, qe6, qe10, qe11, qe12, qe13, qe14, qe15, takeE] <;> fail)); (try have hw : IntKind.i64.wrap ((k : Int) + 1) = (k : Int) + 1 := IntWalk.i64_in _ (by omega))) | (refine EndX.plain ?_) | (refine nil_split (fun hn => ?_) (fun hn => ?_)) | (refine gcall_no not_false ?_) | (refine gdcall_no not_false ?_) | (refine GuardS_of _ _ _ _ _ _ (fun hg => ?_) (fun hg => ?_)) | (refine GuardD_of _ _ _ _ (fun hg => ?_) (fun hg => ?_)) | (refine CondB_of _ _ _ _ _ _ _ ?_ (fun hg => ?_) (fun hg => ?_)))
  all_goals (try (first | ((first | unfold noN | unfold Fr.below | unfold Loc.below); simp [Fr.allN, AV.allN, AV.allNL, AO.allN]; done) | rfl | trivial | assumption | (intro row hrow; simp only [List.mem_map] at hrow; obtain ⟨x, _, rfl⟩ := hrow; rfl) | (refine Wk.keep hcl ?_ ?_ ?_; (focus (simp [Fr.get, DevD.av, DevD.cells, noN, secRow, bytes, WrD.row, VolD.row, qe1, qe2, qe3, qe4, qe5, qe6, qe10, qe11, qe12, qe13, qe14, qe15, takeE] <;> fail)); (focus (simp [sto, DevD.av, DevD.cells, noN, secRow, bytes, WrD.row, VolD.row, qe1, qe2, qe3, qe4, qe5, qe6, qe10, qe11, qe12, qe13, qe14, qe15, takeE] <;> fail)); (focus (simp <;> fail))) | (simp [allP, opd, Fr.get, Fr.below, Fr.allN, AV.allN, AV.allNL, Loc.below, AO.allN, noN, killO, killT, killD, mkNames, AO.kill, AV.kill, AV.mapN, AV.mapNL]; done) | (with_reducible exact ltD (by assumption)) | omega | (simp only [decide_eq_true_eq, decide_eq_false_iff_not] at *; omega)))
  all_goals (try (simp [allP, opd, Fr.get, Fr.below, Fr.allN, AV.allN, AV.allNL, Loc.below, AO.allN, noN, killO, killT, killD, mkNames, AO.kill, AV.kill, AV.mapN, AV.mapNL, DevD.cells, g1, g2, g3, *]; done))
  all_goals (try (exact .inr ⟨by simp, by assumption⟩))
  all_goals (try (simp only [List.length_take]; simp only [decide_eq_true_eq] at *; omega))
  all_goals (try (
    rw [take_next (dltL hg)]
    refine Wk.keep hcl (by simp [Fr.get]) (by simp [sto, secRow, WrD.row, VolD.row, bytes, DevD.cells, qe1, qe2, qe3, qe4, qe5, qe6, qe10, qe11, qe12, qe13, qe14, qe15]) (by simp)))
end Go.Proofs.Ytelciiooegiikaa
