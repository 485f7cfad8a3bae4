/- The reference's small: a number from bytes. -/
import Derived.Test.YtijpmidnclbhpaaDoorNumK
import Derived.Test.YtijpmidnclbhpaaDoorTypes
namespace Go.Proofs.YtijpmidnclbhpaaDoor
open Go.RowKit
set_option maxRecDepth 100000
def c43_1 : SC := (.cond (.tmp 8) .skip (.exit 0))
theorem u43_1 : type_of% (@swc _ _ c43_1.eq_1) := @swc _ _ c43_1.eq_1
def o43_2 : List SO := ((SO.mk (some 3) (.move (.tmp 18)) none) :: [])
theorem v43_2 : type_of% (@swl _ _ o43_2.eq_1) := @swl _ _ o43_2.eq_1
def o43_3 : List SO := ((SO.mk (some 15) (.iaddr 36 (.tmp 13) (.tmp 14)) none) :: (SO.mk (some 16) (.load 5 (.tmp 15)) none) :: (SO.mk (some 17) (.conv 5 3 (.tmp 16)) none) :: (SO.mk (some 18) (.bin .add 3 (.tmp 12) (.tmp 17)) none) :: o43_2)
theorem v43_3 : type_of% (@swl _ _ o43_3.eq_1) := @swl _ _ o43_3.eq_1
def c43_4 : SC := (.reg [SO.mk (some 9) (.move (.tmp 4)) none, SO.mk (some 10) (.bin .add 3 (.tmp 9) (.const (Value.int .i64 1))) none, SO.mk (some 4) (.move (.tmp 10)) none])
theorem u43_4 : type_of% (@swc _ _ c43_4.eq_1) := @swc _ _ c43_4.eq_1
def c43_5 : SC := (.seq (.block 1 (.reg ((SO.mk (some 11) (.move (.tmp 3)) none) :: (SO.mk (some 12) (.bin .mul 3 (.const (Value.int .i64 256)) (.tmp 11)) none) :: (SO.mk (some 13) (.move (.tmp 0)) none) :: (SO.mk (some 14) (.move (.tmp 4)) none) :: o43_3))) (.keep [4, 0, 3] c43_4))
theorem u43_5 : type_of% (@swc _ _ c43_5.eq_1) := @swc _ _ c43_5.eq_1
def c43_6 : SC := (.seq (.seq (.reg [SO.mk (some 5) (.move (.tmp 4)) none, SO.mk (some 6) (.move (.tmp 0)) none, SO.mk (some 7) (.len 36 (.tmp 6)) none, SO.mk (some 8) (.bin .lss 3 (.tmp 5) (.tmp 7)) none]) (.keep [8, 0, 4, 3] c43_1)) (.keep [3, 4, 0] c43_5))
theorem u43_6 : type_of% (@swc _ _ c43_6.eq_1) := @swc _ _ c43_6.eq_1
def c43_7 : SC := (.block 0 (.loop (.keep [0, 4, 3] c43_6)))
theorem u43_7 : type_of% (@swc _ _ c43_7.eq_1) := @swc _ _ c43_7.eq_1
def c43_8 : SC := (.seq (.reg [SO.mk (some 19) (.move (.tmp 3)) none, SO.mk (some 2) (.move (.tmp 19)) none]) (.keep [2] .ret))
theorem u43_8 : type_of% (@swc _ _ c43_8.eq_1) := @swc _ _ c43_8.eq_1
def c43_9 : SC := (.seq (.seq (.reg [SO.mk (some 4) (.move (.const (Value.int .i64 0))) none]) (.keep [0, 4, 3] c43_7)) (.keep [3] c43_8))
theorem u43_9 : type_of% (@swc _ _ c43_9.eq_1) := @swc _ _ c43_9.eq_1
def c43_10 : SC := (.seq (.reg [SO.mk (some 3) (.move (.const (Value.int .i64 0))) none]) (.keep [0, 3] c43_9))
theorem u43_10 : type_of% (@swc _ _ c43_10.eq_1) := @swc _ _ c43_10.eq_1
def c43 : SC := (.seq (.reg [SO.mk (some 2) (.move (.const (Value.int .i64 0))) none]) (.keep [0] c43_10))
theorem c43_eq : annC Tryd.f43 = some c43 := by kernel_rfl
theorem r43 : Tryd.f43.results.toList = [.tmp 2] := by kernel_rfl
theorem e43 : enters Tryd.prog 43 = true := by kernel_rfl
end Go.Proofs.YtijpmidnclbhpaaDoor
namespace Go.Proofs.YtijpmidnclbhpaaDoor
open Go.RowKit
set_option maxHeartbeats 4000000
set_option maxRecDepth 20000
attribute [local irreducible] SW SWL SWLn SWD SEcall SEcallv SDv SE SO1 SOg ACalls ACallv Wk EndV
set_option linter.unusedSimpArgs false
set_option linter.unusedVariables false
theorem small_p (l : List UInt8) (hl : l.length ≤ 4) : Pure Tryd.prog 43 [.d (bytes l)] (I (numK l l.length)) := by
  refine pure_of follows Tryd.func43 c43_eq r43 (Nat.le_of_ble_eq_true rfl) fun B σ hcl hsz => ?_
  clear hsz
  repeat' (first | (simp -implicitDefEqProofs only [*, contN, contC, Nat.reduceBEq, Bool.or_false, Bool.or_true, Bool.false_or, Bool.true_or, Bool.not_true, Bool.not_false, w_skip, w_ret, w_exit, w_reg, w_dreg, w_seq, SK_n, SK_r, SK_x, w_keep, w_block, w_cond, w_nil, w_cons, w_consg, w_nnil, w_ncons, w_dnil, w_dcons, w_dconsg, HK_app, HD_app, HQ_n, HQ_r, HQ_x, HQ_bn, HQ_br, HQ_bx, HQ_en, HQ_er, HQ_ex, CondB_true, CondB_false, SO1, w_sdv, SDe_alloc, SDe_box, SDe_bslice, SDe_app, true_imp_iff, false_imp_iff, and_false, false_and, not_false_eq_true, not_true_eq_false, addN, mkNames, killT, killD, killO, List.foldl_nil, List.foldl_cons, List.append_nil, List.nil_append, List.cons_append, GuardS_true, GuardS_false, GuardD_true, GuardD_false, DK_true, DK_false, lt_self_add, le_self_add, decide_true, decide_false, Bool.false_eq_true, Bool.true_eq_false, Nat.add_left_cancel_iff, SE, SEalloc, SEbox, SEstore, w_bs, SEbl, SEfz, SEbs0, fzName, osOf, AV.fz1, w_app, w_mk, aev, opd, Fr.get, putO, Fr.norm, List.map_cons, List.map_nil, with1, with2, onInt, AV.lit, entry, ↓reduceIte, Nat.reduceEqDiff, Nat.reduceAdd, reduceCtorEq, true_and, and_true, Option.map_some, Option.map_none, Option.bind_some, Option.bind_none, cond_true, cond_false, binV, unV, fieldV, loadV, sto, cellsAV, newF, newL, Fr.map, Loc.kill, Loc.set, AO.kill, AV.kill, AV.mapN, AV.mapNL, List.filter_nil, List.filter_cons, allP, EndV, retV, resV, resL, frz, dropL, AV.pick, nilV, tupV, imp_self, ne_eq, Int.cast_ofNat_Int, Int.reduceLT, Int.reduceToNat, List.getD_cons_zero, List.getD_cons_succ, bsliceV, buildV, afill, repl, chunk, rvs, AV.rv, RV.nrm, List.getElem?_nil, List.append_assoc, Nat.reduceMul, Nat.reducePow, Nat.zero_lt_succ, Nat.zero_add, Nat.add_zero, List.length_cons, List.length_nil, Nat.reduceLeDiff, Nat.le_refl, List.take_succ_cons, List.take_zero, List.drop_succ_cons, List.drop_zero, indexV, lenV, rowOf_mapD, rowOf_mapI, rowOf_mapA, List.length_map, Int.toNat_natCast, List.getElem?_cons_zero, List.getElem?_cons_succ, and_self, implies_true, if_true, if_false, HQ_zn, HQ_zr, HQ_wn, HQ_wr, AV.nz, AV.nzL, RV.nrm, SEbin, SEnil, nilK, srcV, dstV, appName, List.length_append, Nat.mul_one, take_map_len, take_map_app, List.getElem?_cons_zero, List.map_append, SEmkmap, SEmset, mgetV, kvOf, getM, setM, c43, r43, u43_1, v43_2, v43_3, u43_4, u43_5, u43_6, u43_7, u43_8, u43_9, u43_10, ty36, ty3, ty5, bytes, by_, numK_0, convV]) | (with_reducible refine And.intro ?_ ?_) | (refine loop_nat (l.length) (fun _ => True) (fun k => [(0, .d (bytes l)), (4, I k), (3, I (numK l k))]) (fun k => []) ?_ (Wk.keep hcl ?_ ?_ ?_) fun k hk hF => ?_; rotate_left 1; (focus (simp [Fr.get, newF, Fr.map, AV.kill, AV.mapN, bytes, by_, numK_0, convV] <;> fail)); (focus (simp [sto, newL, Loc.kill, Loc.set, AO.kill, AV.kill, AV.mapN, bytes, by_, numK_0, convV] <;> fail)); (focus (simp [newL, Loc.kill, Loc.set, bytes, by_, numK_0, convV] <;> fail)); (try have hw : IntKind.i64.wrap ((k : Int) + 1) = (k : Int) + 1 := IntWalk.i64_in _ (by omega))) | (refine EndX.plain ?_) | (refine nil_split (fun hn => ?_) (fun hn => ?_)) | (refine gcall_no not_false ?_) | (refine gdcall_no not_false ?_) | (refine GuardS_of _ _ _ _ _ _ (fun hg => ?_) (fun hg => ?_)) | (refine GuardD_of _ _ _ _ (fun hg => ?_) (fun hg => ?_)) | (refine CondB_of _ _ _ _ _ _ _ ?_ (fun hg => ?_) (fun hg => ?_)))
  all_goals (try (first | ((first | unfold noN | unfold Fr.below | unfold Loc.below); simp [Fr.allN, AV.allN, AV.allNL, AO.allN]; done) | rfl | trivial | assumption | (intro row hrow; simp only [List.mem_map] at hrow; obtain ⟨x, _, rfl⟩ := hrow; rfl) | (refine Wk.keep hcl ?_ ?_ ?_; (focus (simp [Fr.get, bytes, by_, numK_0, convV] <;> fail)); (focus (simp [sto, bytes, by_, numK_0, convV] <;> fail)); (focus (simp <;> fail))) | (simp [allP, opd, Fr.get, Fr.below, Fr.allN, AV.allN, AV.allNL, Loc.below, AO.allN, noN, killO, killT, killD, mkNames, AO.kill, AV.kill, AV.mapN, AV.mapNL]; done) | (with_reducible exact ltD (by assumption)) | omega | (simp only [decide_eq_true_eq, decide_eq_false_iff_not] at *; omega)))
  all_goals first
    | (have hk2 : k < l.length := ltD (by assumption)
       have h1 := numK_7 l (k := k + 1) (by omega)
       have h2 := (numK_le l k).1
       have h3 : (l[k]!.toNat : Int) < 256 := by have := l[k]!.toNat_lt; omega
       have e : numK l (k + 1) = 256 * numK l k + (l[k]!.toNat : Int) := rfl
       rw [IntWalk.i64_in (256 * numK l k) (by omega), IntWalk.i64_in (l[k]!.toNat : Int) (by omega), ← e, IntWalk.i64_in _ (by omega)]
       refine Wk.keep hcl ?_ ?_ ?_ <;> simp [Fr.get, sto])
    | (have hk2 : k = l.length := Nat.le_antisymm hk (geD (by assumption))
       rw [hk2])
end Go.Proofs.YtijpmidnclbhpaaDoor
