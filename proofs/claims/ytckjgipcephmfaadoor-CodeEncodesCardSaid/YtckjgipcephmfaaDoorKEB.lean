/- icehouseref.RecordsBytes. -/
import Derived.Test.YtckjgipcephmfaaDoorKBR
import Derived.Test.YtckjgipcephmfaaDoorKGood
import Derived.Test.YtckjgipcephmfaaDoorTypes
namespace Go.Proofs.YtckjgipcephmfaaDoor
open Go.RowKit
set_option maxRecDepth 100000
def c5_1 : SC := (.seq (.reg [SO.mk (some 2) (.move (.const (Value.slice none 0 0))) none, SO.mk (some 3) (.move (.const (Value.int .i64 1))) none]) (.keep [2, 3] .ret))
theorem u5_1 : type_of% (@swc _ _ c5_1.eq_1) := @swc _ _ c5_1.eq_1
def c5_2 : SC := (.cond (.tmp 9) c5_1 .skip)
theorem u5_2 : type_of% (@swc _ _ c5_2.eq_1) := @swc _ _ c5_2.eq_1
def c5_3 : SC := (.cond (.tmp 17) .skip (.exit 0))
theorem u5_3 : type_of% (@swc _ _ c5_3.eq_1) := @swc _ _ c5_3.eq_1
def o5_4 : List SO := ((SO.mk (some 24) (.call 9 [(.tmp 23)]) none) :: (SO.mk (some 6) (.move (.tmp 24)) none) :: [])
theorem v5_4 : type_of% (@swl _ _ o5_4.eq_1) := @swl _ _ o5_4.eq_1
def c5_5 : SC := (.seq (.reg [SO.mk (some 27) (.move (.tmp 6)) none, SO.mk (some 2) (.move (.const (Value.slice none 0 0))) none, SO.mk (some 3) (.move (.tmp 27)) none]) (.keep [2, 3] .ret))
theorem u5_5 : type_of% (@swc _ _ c5_5.eq_1) := @swc _ _ c5_5.eq_1
def c5_6 : SC := (.cond (.tmp 26) c5_5 .skip)
theorem u5_6 : type_of% (@swc _ _ c5_6.eq_1) := @swc _ _ c5_6.eq_1
def o5_7 : List SO := ((SO.mk (some 4) (.move (.tmp 35)) none) :: [])
theorem v5_7 : type_of% (@swl _ _ o5_7.eq_1) := @swl _ _ o5_7.eq_1
def o5_8 : List SO := ((SO.mk (some 32) (.load 42 (.tmp 31)) none) :: (SO.mk (some 33) (.call 11 [(.tmp 32)]) none) :: (SO.mk (some 34) (.bslice 61 2 [(0 , (.tmp 28)), (1 , (.tmp 33))]) none) :: (SO.mk (some 35) (.call 10 [(.tmp 34)]) none) :: o5_7)
theorem v5_8 : type_of% (@swl _ _ o5_8.eq_1) := @swl _ _ o5_8.eq_1
def c5_9 : SC := (.reg ((SO.mk (some 28) (.move (.tmp 4)) none) :: (SO.mk (some 29) (.move (.tmp 0)) none) :: (SO.mk (some 30) (.move (.tmp 5)) none) :: (SO.mk (some 31) (.iaddr 22 (.tmp 29) (.tmp 30)) none) :: o5_8))
theorem u5_9 : type_of% (@swc _ _ c5_9.eq_1) := @swc _ _ c5_9.eq_1
def c5_10 : SC := (.seq (.seq (.reg [SO.mk (some 25) (.move (.tmp 6)) none, SO.mk (some 26) (.bin .neq 24 (.tmp 25) (.const (Value.int .i64 0))) none]) (.keep [26, 6, 4, 5, 0] c5_6)) (.keep [4, 5, 0] c5_9))
theorem u5_10 : type_of% (@swc _ _ c5_10.eq_1) := @swc _ _ c5_10.eq_1
def c5_11 : SC := (.reg [SO.mk (some 18) (.move (.tmp 5)) none, SO.mk (some 19) (.bin .add 3 (.tmp 18) (.const (Value.int .i64 1))) none, SO.mk (some 5) (.move (.tmp 19)) none])
theorem u5_11 : type_of% (@swc _ _ c5_11.eq_1) := @swc _ _ c5_11.eq_1
def c5_12 : SC := (.seq (.block 1 (.seq (.reg ((SO.mk (some 20) (.move (.tmp 0)) none) :: (SO.mk (some 21) (.move (.tmp 5)) none) :: (SO.mk (some 22) (.iaddr 22 (.tmp 20) (.tmp 21)) none) :: (SO.mk (some 23) (.load 42 (.tmp 22)) none) :: o5_4)) (.keep [6, 4, 5, 0] c5_10))) (.keep [5, 0, 4] c5_11))
theorem u5_12 : type_of% (@swc _ _ c5_12.eq_1) := @swc _ _ c5_12.eq_1
def c5_13 : SC := (.seq (.seq (.reg [SO.mk (some 14) (.move (.tmp 5)) none, SO.mk (some 15) (.move (.tmp 0)) none, SO.mk (some 16) (.len 22 (.tmp 15)) none, SO.mk (some 17) (.bin .lss 3 (.tmp 14) (.tmp 16)) none]) (.keep [17, 0, 5, 4] c5_3)) (.keep [4, 5, 0] c5_12))
theorem u5_13 : type_of% (@swc _ _ c5_13.eq_1) := @swc _ _ c5_13.eq_1
def c5_14 : SC := (.block 0 (.loop (.keep [0, 5, 4] c5_13)))
theorem u5_14 : type_of% (@swc _ _ c5_14.eq_1) := @swc _ _ c5_14.eq_1
def c5_15 : SC := (.seq (.reg [SO.mk (some 36) (.move (.tmp 4)) none, SO.mk (some 2) (.move (.tmp 36)) none, SO.mk (some 3) (.move (.const (Value.int .i64 0))) none]) (.keep [2, 3] .ret))
theorem u5_15 : type_of% (@swc _ _ c5_15.eq_1) := @swc _ _ c5_15.eq_1
def c5_16 : SC := (.seq (.seq (.reg [SO.mk (some 5) (.move (.const (Value.int .i64 0))) none]) (.keep [0, 5, 4] c5_14)) (.keep [4] c5_15))
theorem u5_16 : type_of% (@swc _ _ c5_16.eq_1) := @swc _ _ c5_16.eq_1
def c5_17 : SC := (.seq (.reg [SO.mk (some 10) (.move (.tmp 0)) none, SO.mk (some 11) (.len 22 (.tmp 10)) none, SO.mk (some 12) (.conv 3 5 (.tmp 11)) none, SO.mk (some 13) (.bslice 23 1 [(0 , (.tmp 12))]) none, SO.mk (some 4) (.move (.tmp 13)) none]) (.keep [0, 4] c5_16))
theorem u5_17 : type_of% (@swc _ _ c5_17.eq_1) := @swc _ _ c5_17.eq_1
def c5_18 : SC := (.seq (.seq (.reg [SO.mk (some 7) (.move (.tmp 0)) none, SO.mk (some 8) (.len 22 (.tmp 7)) none, SO.mk (some 9) (.bin .gtr 3 (.tmp 8) (.const (Value.int .i64 255))) none]) (.keep [9, 0] c5_2)) (.keep [0] c5_17))
theorem u5_18 : type_of% (@swc _ _ c5_18.eq_1) := @swc _ _ c5_18.eq_1
def c5 : SC := (.seq (.reg [SO.mk (some 2) (.move (.const (Value.slice none 0 0))) none, SO.mk (some 3) (.move (.const (Value.int .i64 0))) none]) (.keep [0] c5_18))
theorem c5_eq : annC Tryd.f5 = some c5 := by kernel_rfl
theorem r5 : Tryd.f5.results.toList = [.tmp 2, .tmp 3] := by kernel_rfl
theorem e5 : enters Tryd.prog 5 = true := by kernel_rfl
end Go.Proofs.YtckjgipcephmfaaDoor
namespace Go.Proofs.YtckjgipcephmfaaDoor
open Go.RowKit
set_option maxHeartbeats 4000000
set_option maxRecDepth 20000
attribute [local irreducible] SW SWL SWLn SWD SEcall SEcallv SDv SE SO1 SOg ACalls ACallv Wk EndV
set_option linter.unusedSimpArgs false
set_option linter.unusedVariables false
def eB2 (l : List RecD) (k : Nat) : List UInt8 := [b8 l.length] ++ catR l k
theorem eB2_0 (l : List RecD) : eB2 l 0 = [b8 l.length] := by simp [eB2, catR_0]
theorem eB2_next {l : List RecD} {k : Nat} (h : k < l.length) : eB2 l (k + 1) = eB2 l k ++ recB l[k]! := by unfold eB2; rw [catR_next h, List.append_assoc]
theorem eB2_len {l : List RecD} {k : Nat} (hk : k ≤ l.length) (h : okN l k) : (eB2 l k).length ≤ 2200 * k + 1 := by
  have := catR_len hk h
  unfold eB2; simp; omega
attribute [local irreducible] eB2 recB encV b8
theorem recsBytes_p (l : List RecD) (hw : ∀ k : Nat, k < l.length → RecD.wf l[k]!) : Pure Tryd.prog 5 [.d (.ro (l.map RecD.row))] (encV l) := by
  refine pureZ_of follows Tryd.func5 c5_eq r5 (Nat.le_of_ble_eq_true rfl) fun B σ hcl hsz => ?_
  clear hsz
  have hz : ∀ k : Nat, (recF l[k]! != 0) = false → recF l[k]! = 0 := fun k h => by simpa using h
  have hj : ∀ k, k < l.length → okN l k → (recF l[k]! != 0) = false → decide ((l.length : Int) > 255) = false → Pure Tryd.prog 10 [.d (.ro ([eB2 l k, recB l[k]!].map secRow))] (.d (.ro ((eB2 l (k + 1)).map by_))) := fun k hk h1 h2 h3 => by
    have a1 := eB2_len (by omega) h1
    have a2 := recB_len (recF_sm (hz k h2))
    refine joinedL _ _ (by rw [eB2_next hk]; simp) ?_
    rw [eB2_next hk, List.length_append]
    simp at h3; omega
  have hb := b8_wrap l.length
  repeat' (first | (simp -implicitDefEqProofs only [*, contN, contC, Nat.reduceBEq, Bool.or_false, Bool.or_true, Bool.false_or, Bool.true_or, Bool.not_true, Bool.not_false, SEconv, w_skip, w_ret, w_exit, w_reg, w_dreg, w_seq, SK_n, SK_r, SK_x, w_keep, w_block, w_cond, w_nil, w_cons, w_consg, w_nnil, w_ncons, w_dnil, w_dcons, w_dconsg, HK_app, HD_app, HQ_n, HQ_r, HQ_x, HQ_bn, HQ_br, HQ_bx, HQ_en, HQ_er, HQ_ex, CondB_true, CondB_false, SO1, w_sdv, SDe_alloc, SDe_box, SDe_bslice, SDe_app, true_imp_iff, false_imp_iff, and_false, false_and, not_false_eq_true, not_true_eq_false, addN, mkNames, killT, killD, killO, List.foldl_nil, List.foldl_cons, List.append_nil, List.nil_append, List.cons_append, GuardS_true, GuardS_false, GuardD_true, GuardD_false, DK_true, DK_false, lt_self_add, le_self_add, decide_true, decide_false, Bool.false_eq_true, Bool.true_eq_false, Nat.add_left_cancel_iff, SE, SEalloc, SEbox, SEstore, w_bs, SEbl, SEfz, SEbs0, fzName, osOf, AV.fz1, w_app, w_mk, aev, opd, Fr.get, putO, Fr.norm, List.map_cons, List.map_nil, with1, with2, onInt, AV.lit, entry, ↓reduceIte, Nat.reduceEqDiff, Nat.reduceAdd, reduceCtorEq, true_and, and_true, Option.map_some, Option.map_none, Option.bind_some, Option.bind_none, cond_true, cond_false, binV, unV, fieldV, loadV, sto, cellsAV, newF, newL, Fr.map, Loc.kill, Loc.set, AO.kill, AV.kill, AV.mapN, AV.mapNL, List.filter_nil, List.filter_cons, allP, EndV, retV, resV, resL, frz, dropL, AV.pick, nilV, tupV, imp_self, ne_eq, Int.cast_ofNat_Int, Int.reduceLT, Int.reduceToNat, List.getD_cons_zero, List.getD_cons_succ, bsliceV, buildV, afill, repl, chunk, rvs, AV.rv, RV.nrm, List.getElem?_nil, List.append_assoc, Nat.reduceMul, Nat.reducePow, Nat.zero_lt_succ, Nat.zero_add, Nat.add_zero, List.length_cons, List.length_nil, Nat.reduceLeDiff, Nat.le_refl, List.take_succ_cons, List.take_zero, List.drop_succ_cons, List.drop_zero, indexV, lenV, rowOf_mapD, rowOf_mapI, rowOf_mapA, List.length_map, Int.toNat_natCast, List.getElem?_cons_zero, List.getElem?_cons_succ, and_self, implies_true, if_true, if_false, HQ_zn, HQ_zr, HQ_wn, HQ_wr, AV.nz, AV.nzL, RV.nrm, SEbin, SEnil, nilK, srcV, dstV, appName, List.length_append, Nat.mul_one, take_map_len, take_map_app, List.getElem?_cons_zero, List.map_append, SEmkmap, SEmset, mgetV, kvOf, getM, setM, c5, r5, u5_1, u5_2, u5_3, v5_4, u5_5, u5_6, v5_7, v5_8, u5_9, u5_10, u5_11, u5_12, u5_13, u5_14, u5_15, u5_16, u5_17, u5_18, ty22, ty3, ty5, ty23, ty42, ty24, ty61, RecD.av, RecD.row, ints, secRow, bytes, by_, convV, eB2_0]) | (with_reducible refine And.intro ?_ ?_) | (refine call_ro e9 ( recFault_p l[k]! (hw k (ltD (by assumption)))) rfl ?_ ?_ ?_ ?_) | (refine gcall_ro e9 ( recFault_p l[k]! (hw k (ltD (by assumption)))) rfl ?_ ?_ ?_ ?_) | (refine dcall_ro e9 ( recFault_p l[k]! (hw k (ltD (by assumption)))) rfl ?_ ?_ ?_ ?_) | (refine gdcall_ro rfl e9 ( recFault_p l[k]! (hw k (ltD (by assumption)))) rfl ?_ ?_ ?_ ?_) | (refine call_ro e11 ( recOf_p l[k]! (hw k (ltD (by assumption))) (hz k (by assumption))) rfl ?_ ?_ ?_ ?_) | (refine gcall_ro e11 ( recOf_p l[k]! (hw k (ltD (by assumption))) (hz k (by assumption))) rfl ?_ ?_ ?_ ?_) | (refine dcall_ro e11 ( recOf_p l[k]! (hw k (ltD (by assumption))) (hz k (by assumption))) rfl ?_ ?_ ?_ ?_) | (refine gdcall_ro rfl e11 ( recOf_p l[k]! (hw k (ltD (by assumption))) (hz k (by assumption))) rfl ?_ ?_ ?_ ?_) | (refine call_ro e10 ( hj k (ltD (by assumption)) hF (by assumption) (by assumption)) rfl ?_ ?_ ?_ ?_) | (refine gcall_ro e10 ( hj k (ltD (by assumption)) hF (by assumption) (by assumption)) rfl ?_ ?_ ?_ ?_) | (refine dcall_ro e10 ( hj k (ltD (by assumption)) hF (by assumption) (by assumption)) rfl ?_ ?_ ?_ ?_) | (refine gdcall_ro rfl e10 ( hj k (ltD (by assumption)) hF (by assumption) (by assumption)) rfl ?_ ?_ ?_ ?_) | (refine loop_nat (l.length) (fun k => okN l k) (fun k => [(0, .d (.ro (l.map RecD.row))), (5, I k), (4, .d (.ro ((eB2 l k).map by_)))]) (fun k => []) ?_ (Wk.keep hcl ?_ ?_ ?_) fun k hk hF => ?_; rotate_left 1; (focus (simp [Fr.get, newF, Fr.map, AV.kill, AV.mapN, RecD.av, RecD.row, ints, secRow, bytes, by_, convV, eB2_0] <;> fail)); (focus (simp [sto, newL, Loc.kill, Loc.set, AO.kill, AV.kill, AV.mapN, RecD.av, RecD.row, ints, secRow, bytes, by_, convV, eB2_0] <;> fail)); (focus (simp [newL, Loc.kill, Loc.set, RecD.av, RecD.row, ints, secRow, bytes, by_, convV, eB2_0] <;> fail)); (try have hw : IntKind.i64.wrap ((k : Int) + 1) = (k : Int) + 1 := IntWalk.i64_in _ (by omega))) | (refine EndX.plain ?_) | (refine nil_split (fun hn => ?_) (fun hn => ?_)) | (refine gcall_no not_false ?_) | (refine gdcall_no not_false ?_) | (refine GuardS_of _ _ _ _ _ _ (fun hg => ?_) (fun hg => ?_)) | (refine GuardD_of _ _ _ _ (fun hg => ?_) (fun hg => ?_)) | (refine CondB_of _ _ _ _ _ _ _ ?_ (fun hg => ?_) (fun hg => ?_)))
  all_goals (try (first | ((first | unfold noN | unfold Fr.below | unfold Loc.below); simp [Fr.allN, AV.allN, AV.allNL, AO.allN]; done) | rfl | trivial | assumption | (intro row hrow; simp only [List.mem_map] at hrow; obtain ⟨x, _, rfl⟩ := hrow; rfl) | (refine Wk.keep hcl ?_ ?_ ?_; (focus (simp [Fr.get, RecD.av, RecD.row, ints, secRow, bytes, by_, convV, eB2_0] <;> fail)); (focus (simp [sto, RecD.av, RecD.row, ints, secRow, bytes, by_, convV, eB2_0] <;> fail)); (focus (simp <;> fail))) | (simp [allP, opd, Fr.get, Fr.below, Fr.allN, AV.allN, AV.allNL, Loc.below, AO.allN, noN, killO, killT, killD, mkNames, AO.kill, AV.kill, AV.mapN, AV.mapNL]; done) | (with_reducible exact ltD (by assumption)) | omega | (simp only [decide_eq_true_eq, decide_eq_false_iff_not] at *; omega)))
  all_goals (try (have hs5 : decide ((l.length : Int) > 255) = false := by assumption))
  all_goals (try (have hlt := ltD (by assumption : decide ((k : Int) < (l.length : Int)) = true)))
  all_goals first
    | exact okN_0 l
    | exact enc_size (by assumption)
    | exact enc_bad hs5 hlt hF (by simpa [bne] using (by assumption : (recF l[k]! != 0) = true))
    | exact okN_next hF (hz k (by assumption))
    | (have hk2 : k = l.length := Nat.le_antisymm hk (geD (by assumption))
       have he := enc_ok hs5 hk2 hF
       unfold eB2
       exact he)
    | (rw [IntWalk.i64_in ((k : Int) + 1) (by simp at hs5; omega)]
       refine Wk.keep hcl ?_ ?_ ?_ <;> simp [Fr.get, sto])
end Go.Proofs.YtckjgipcephmfaaDoor
