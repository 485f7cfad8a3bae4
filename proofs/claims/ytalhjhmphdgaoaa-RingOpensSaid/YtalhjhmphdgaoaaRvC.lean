/- The journal that the document reads from a sector. -/
import Derived.Test.YtalhjhmphdgaoaaRvB
import Derived.Test.YtalhjhmphdgaoaaGet64
import Derived.Test.YtalhjhmphdgaoaaTypes
namespace Go.Proofs.Ytalhjhmphdgaoaa
open Go.RowKit
set_option maxRecDepth 100000
def o40_1 : List SO := ((SO.mk (some 8) (.move (.tmp 16)) none) :: [])
theorem v40_1 : type_of% (@swl _ _ o40_1.eq_1) := @swl _ _ o40_1.eq_1
def o40_2 : List SO := ((SO.mk (some 10) (.move (.tmp 14)) none) :: (SO.mk (some 15) (.extract (.tmp 10) 0) none) :: (SO.mk (some 16) (.extract (.tmp 10) 1) none) :: (SO.mk (some 7) (.move (.tmp 15)) none) :: o40_1)
theorem v40_2 : type_of% (@swl _ _ o40_2.eq_1) := @swl _ _ o40_2.eq_1
def o40_3 : List SO := ((SO.mk (some 33) (.slice 29 (.tmp 32) (some (.const (Value.int .i64 15))) (some (.const (Value.int .i64 19)))) none) :: (SO.mk (some 34) (.call 42 [(.tmp 33)]) none) :: (SO.mk (some 35) (.build 45 [(0 , (.tmp 19)), (1 , (.tmp 22)), (2 , (.tmp 25)), (3 , (.tmp 28)), (4 , (.tmp 31)), (5 , (.tmp 34))]) none) :: (SO.mk (some 9) (.alloc 45) none) :: [])
theorem v40_3 : type_of% (@swd _ _ o40_3.eq_1) := @swd _ _ o40_3.eq_1
def o40_4 : List SO := ((SO.mk (some 29) (.move (.tmp 7)) none) :: (SO.mk (some 30) (.slice 29 (.tmp 29) (some (.const (Value.int .i64 13))) (some (.const (Value.int .i64 15)))) none) :: (SO.mk (some 31) (.call 42 [(.tmp 30)]) none) :: (SO.mk (some 32) (.move (.tmp 7)) none) :: o40_3)
theorem v40_4 : type_of% (@swd _ _ o40_4.eq_1) := @swd _ _ o40_4.eq_1
def o40_5 : List SO := ((SO.mk (some 25) (.call 42 [(.tmp 24)]) none) :: (SO.mk (some 26) (.move (.tmp 7)) none) :: (SO.mk (some 27) (.slice 29 (.tmp 26) (some (.const (Value.int .i64 9))) (some (.const (Value.int .i64 13)))) none) :: (SO.mk (some 28) (.call 42 [(.tmp 27)]) none) :: o40_4)
theorem v40_5 : type_of% (@swd _ _ o40_5.eq_1) := @swd _ _ o40_5.eq_1
def o40_6 : List SO := ((SO.mk (some 21) (.slice 29 (.tmp 20) (some (.const (Value.int .i64 4))) (some (.const (Value.int .i64 8)))) none) :: (SO.mk (some 22) (.call 42 [(.tmp 21)]) none) :: (SO.mk (some 23) (.move (.tmp 7)) none) :: (SO.mk (some 24) (.slice 29 (.tmp 23) (some (.const (Value.int .i64 8))) (some (.const (Value.int .i64 9)))) none) :: o40_5)
theorem v40_6 : type_of% (@swd _ _ o40_6.eq_1) := @swd _ _ o40_6.eq_1
def o40_7 : List SO := ((SO.mk (some 17) (.move (.tmp 7)) none) :: (SO.mk (some 18) (.slice 29 (.tmp 17) (some (.const (Value.int .i64 0))) (some (.const (Value.int .i64 4)))) none) :: (SO.mk (some 19) (.call 42 [(.tmp 18)]) none) :: (SO.mk (some 20) (.move (.tmp 7)) none) :: o40_6)
theorem v40_7 : type_of% (@swd _ _ o40_7.eq_1) := @swd _ _ o40_7.eq_1
theorem m40_7 (B : Nat) : mkNames B o40_7 = [B + 9] := (rfl)
def o40_8 : List SO := ((SO.mk (some 50) (.move (.tmp 2)) (some (46 , false))) :: (SO.mk (some 51) (.bin .neq 3 (.tmp 49) (.tmp 50)) (some (46 , false))) :: (SO.mk (some 52) (.pick (.tmp 46) (.const (Value.bool true)) (.tmp 51)) none) :: [])
theorem v40_8 : type_of% (@swl _ _ o40_8.eq_1) := @swl _ _ o40_8.eq_1
def o40_9 : List SO := ((SO.mk (some 46) (.move (.tmp 45)) none) :: (SO.mk (some 47) (.faddr 45 (.tmp 9) 0) (some (46 , false))) :: (SO.mk (some 48) (.load 3 (.tmp 47)) (some (46 , false))) :: (SO.mk (some 49) (.bin .rem 3 (.tmp 48) (.const (Value.int .i64 2))) (some (46 , false))) :: o40_8)
theorem v40_9 : type_of% (@swl _ _ o40_9.eq_1) := @swl _ _ o40_9.eq_1
def c40_10 : SC := (.seq (.reg [SO.mk (some 53) (.build 45 []) none, SO.mk none (.store 45 (.tmp 6) (.tmp 53)) none]) (.keep [6] .ret))
theorem u40_10 : type_of% (@swc _ _ c40_10.eq_1) := @swc _ _ c40_10.eq_1
def c40_11 : SC := (.cond (.tmp 52) c40_10 .skip)
theorem u40_11 : type_of% (@swc _ _ c40_11.eq_1) := @swc _ _ c40_11.eq_1
def c40_12 : SC := (.seq (.reg [SO.mk (some 54) (.load 45 (.tmp 9)) none, SO.mk none (.store 45 (.tmp 6) (.tmp 54)) none]) (.keep [6] .ret))
theorem u40_12 : type_of% (@swc _ _ c40_12.eq_1) := @swc _ _ c40_12.eq_1
def c40_13 : SC := (.seq (.seq (.reg ((SO.mk (some 42) (.load 23 (.tmp 3)) none) :: (SO.mk (some 43) (.load 45 (.tmp 9)) none) :: (SO.mk (some 44) (.call 65 [(.tmp 42), (.tmp 43)]) none) :: (SO.mk (some 45) (.bin .neq 30 (.tmp 44) (.const (Value.int .i64 0))) none) :: o40_9)) (.keep [52, 9, 6] c40_11)) (.keep [9, 6] c40_12))
theorem u40_13 : type_of% (@swc _ _ c40_13.eq_1) := @swc _ _ c40_13.eq_1
def c40_14 : SC := (.seq (.reg [SO.mk (some 39) (.faddr 45 (.tmp 9) 5) none, SO.mk (some 40) (.load 3 (.tmp 39)) none, SO.mk (some 41) (.faddr 45 (.tmp 9) 7) none, SO.mk none (.store 3 (.tmp 41) (.tmp 40)) none]) (.keep [3, 2, 9, 6] c40_13))
theorem u40_14 : type_of% (@swc _ _ c40_14.eq_1) := @swc _ _ c40_14.eq_1
def c40_15 : SC := (.seq (.reg [SO.mk (some 36) (.faddr 45 (.tmp 9) 4) none, SO.mk (some 37) (.load 3 (.tmp 36)) none, SO.mk (some 38) (.faddr 45 (.tmp 9) 6) none, SO.mk none (.store 3 (.tmp 38) (.tmp 37)) none]) (.keep [3, 2, 9, 6] c40_14))
theorem u40_15 : type_of% (@swc _ _ c40_15.eq_1) := @swc _ _ c40_15.eq_1
def c40_16 : SC := (.seq (.dreg false o40_7 [SO.mk none (.store 45 (.tmp 9) (.tmp 35)) none]) (.keep [3, 2, 9, 6] c40_15))
theorem u40_16 : type_of% (@swc _ _ c40_16.eq_1) := @swc _ _ c40_16.eq_1
def c40_17 : SC := (.seq (.reg ((SO.mk (some 11) (.load 23 (.tmp 3)) none) :: (SO.mk (some 12) (.load 28 (.tmp 4)) none) :: (SO.mk (some 13) (.move (.tmp 2)) none) :: (SO.mk (some 14) (.call 8 [(.tmp 11), (.tmp 12), (.tmp 13)]) none) :: o40_2)) (.keep [7, 3, 2, 6] c40_16))
theorem u40_17 : type_of% (@swc _ _ c40_17.eq_1) := @swc _ _ c40_17.eq_1
def c40 : SC := (.seq (.reg [SO.mk (some 3) (.box 23 (.tmp 0)) none, SO.mk (some 4) (.box 28 (.tmp 1)) none, SO.mk (some 6) (.alloc 45) none]) (.keep [4, 3, 2, 6] c40_17))
theorem c40_eq : annC Try.f40 = some c40 := by kernel_rfl
theorem r40 : Try.f40.results.toList = [.cell 6 45] := by kernel_rfl
theorem e40 : enters Try.prog 40 = true := by kernel_rfl
end Go.Proofs.Ytalhjhmphdgaoaa
namespace Go.Proofs.Ytalhjhmphdgaoaa
open Go.RowKit
set_option maxHeartbeats 4000000
set_option maxRecDepth 20000
attribute [local irreducible] SW SWL SWLn SWD SEcall SEcallv SDv SE SO1 SOg ACalls ACallv Wk EndV
set_option linter.unusedSimpArgs false
set_option linter.unusedVariables false
noncomputable def supOk (g : GeoD) (a : Int) (b : List UInt8) : Bool := jrnF g (unsJ b) == 0 && (unsJ b).gen.tmod 2 == a
noncomputable def supJ (g : GeoD) (d : DevD) (a : Int) : JrnD := bif supOk g a (getR g d a) then unsJ (getR g d a) else nilJ
theorem superAt_p (g : GeoD) (d : DevD) (a : Int) (hb : (getR g d a).length = 64) : Pure Try.prog 40 [g.av, d.av, I a] (supJ g d a).av := by
  refine pure_of follows Try.func40 c40_eq r40 (Nat.le_of_ble_eq_true rfl) fun B σ hcl hsz => ?_
  clear hsz
  repeat' (first | (simp -implicitDefEqProofs only [*, contN, contC, Nat.reduceBEq, Bool.or_false, Bool.or_true, Bool.false_or, Bool.true_or, Bool.not_true, Bool.not_false, w_skip, w_ret, w_exit, w_reg, w_dreg, w_seq, SK_n, SK_r, SK_x, w_keep, w_block, w_cond, w_nil, w_cons, w_consg, w_nnil, w_ncons, w_dnil, w_dcons, w_dconsg, HK_app, HD_app, HQ_n, HQ_r, HQ_x, HQ_bn, HQ_br, HQ_bx, HQ_en, HQ_er, HQ_ex, CondB_true, CondB_false, SO1, w_sdv, SDe_alloc, SDe_box, SDe_bslice, SDe_app, true_imp_iff, false_imp_iff, and_false, false_and, not_false_eq_true, not_true_eq_false, addN, mkNames, killT, killD, killO, List.foldl_nil, List.foldl_cons, List.append_nil, List.nil_append, List.cons_append, GuardS_true, GuardS_false, GuardD_true, GuardD_false, DK_true, DK_false, lt_self_add, le_self_add, decide_true, decide_false, Bool.false_eq_true, Bool.true_eq_false, Nat.add_left_cancel_iff, SE, SEalloc, SEbox, SEstore, w_bs, SEbl, SEfz, SEbs0, fzName, osOf, AV.fz1, w_app, w_mk, aev, opd, Fr.get, putO, Fr.norm, List.map_cons, List.map_nil, with1, with2, onInt, AV.lit, entry, ↓reduceIte, Nat.reduceEqDiff, Nat.reduceAdd, reduceCtorEq, true_and, and_true, Option.map_some, Option.map_none, Option.bind_some, Option.bind_none, cond_true, cond_false, binV, unV, fieldV, loadV, sto, cellsAV, newF, newL, Fr.map, Loc.kill, Loc.set, AO.kill, AV.kill, AV.mapN, AV.mapNL, List.filter_nil, List.filter_cons, allP, EndV, retV, resV, resL, frz, dropL, AV.pick, nilV, tupV, imp_self, ne_eq, Int.cast_ofNat_Int, Int.reduceLT, Int.reduceToNat, List.getD_cons_zero, List.getD_cons_succ, bsliceV, buildV, afill, repl, chunk, rvs, AV.rv, RV.nrm, List.getElem?_nil, List.append_assoc, Nat.reduceMul, Nat.reducePow, Nat.zero_lt_succ, Nat.zero_add, Nat.add_zero, List.length_cons, List.length_nil, Nat.reduceLeDiff, Nat.le_refl, List.take_succ_cons, List.take_zero, List.drop_succ_cons, List.drop_zero, indexV, lenV, rowOf_mapD, rowOf_mapI, rowOf_mapA, List.length_map, Int.toNat_natCast, List.getElem?_cons_zero, List.getElem?_cons_succ, and_self, implies_true, if_true, if_false, HQ_zn, HQ_zr, HQ_wn, HQ_wr, AV.nz, AV.nzL, RV.nrm, SEbin, SEnil, nilK, srcV, dstV, appName, List.length_append, Nat.mul_one, take_map_len, take_map_app, List.getElem?_cons_zero, List.map_append, SEmkmap, SEmset, mgetV, kvOf, getM, setM, c40, r40, v40_1, v40_2, v40_3, v40_4, v40_5, v40_6, v40_7, m40_7, v40_8, v40_9, u40_10, u40_11, u40_12, u40_13, u40_14, u40_15, u40_16, u40_17, ty23, ty28, ty45, ty29, ty3, ty30, ty5, GeoD.av, DevD.av, bytes, ← List.map_take, ← List.map_drop, bnd, sliceV, Option.getD_some, Option.getD_none, Rows_byV, JrnD.av, JrnD.cells]) | (with_reducible refine And.intro ?_ ?_) | (refine call_ro e8 ( getOf_p g d a) rfl ?_ ?_ ?_ ?_) | (refine gcall_ro e8 ( getOf_p g d a) rfl ?_ ?_ ?_ ?_) | (refine dcall_ro e8 ( getOf_p g d a) rfl ?_ ?_ ?_ ?_) | (refine gdcall_ro rfl e8 ( getOf_p g d a) rfl ?_ ?_ ?_ ?_) | (refine call_ro e42 ( small_at _ hb 0 4 (by omega) (by omega)) rfl ?_ ?_ ?_ ?_) | (refine gcall_ro e42 ( small_at _ hb 0 4 (by omega) (by omega)) rfl ?_ ?_ ?_ ?_) | (refine dcall_ro e42 ( small_at _ hb 0 4 (by omega) (by omega)) rfl ?_ ?_ ?_ ?_) | (refine gdcall_ro rfl e42 ( small_at _ hb 0 4 (by omega) (by omega)) rfl ?_ ?_ ?_ ?_) | (refine call_ro e42 ( small_at _ hb 4 4 (by omega) (by omega)) rfl ?_ ?_ ?_ ?_) | (refine gcall_ro e42 ( small_at _ hb 4 4 (by omega) (by omega)) rfl ?_ ?_ ?_ ?_) | (refine dcall_ro e42 ( small_at _ hb 4 4 (by omega) (by omega)) rfl ?_ ?_ ?_ ?_) | (refine gdcall_ro rfl e42 ( small_at _ hb 4 4 (by omega) (by omega)) rfl ?_ ?_ ?_ ?_) | (refine call_ro e42 ( small_at _ hb 8 1 (by omega) (by omega)) rfl ?_ ?_ ?_ ?_) | (refine gcall_ro e42 ( small_at _ hb 8 1 (by omega) (by omega)) rfl ?_ ?_ ?_ ?_) | (refine dcall_ro e42 ( small_at _ hb 8 1 (by omega) (by omega)) rfl ?_ ?_ ?_ ?_) | (refine gdcall_ro rfl e42 ( small_at _ hb 8 1 (by omega) (by omega)) rfl ?_ ?_ ?_ ?_) | (refine call_ro e42 ( small_at _ hb 9 4 (by omega) (by omega)) rfl ?_ ?_ ?_ ?_) | (refine gcall_ro e42 ( small_at _ hb 9 4 (by omega) (by omega)) rfl ?_ ?_ ?_ ?_) | (refine dcall_ro e42 ( small_at _ hb 9 4 (by omega) (by omega)) rfl ?_ ?_ ?_ ?_) | (refine gdcall_ro rfl e42 ( small_at _ hb 9 4 (by omega) (by omega)) rfl ?_ ?_ ?_ ?_) | (refine call_ro e42 ( small_at _ hb 13 2 (by omega) (by omega)) rfl ?_ ?_ ?_ ?_) | (refine gcall_ro e42 ( small_at _ hb 13 2 (by omega) (by omega)) rfl ?_ ?_ ?_ ?_) | (refine dcall_ro e42 ( small_at _ hb 13 2 (by omega) (by omega)) rfl ?_ ?_ ?_ ?_) | (refine gdcall_ro rfl e42 ( small_at _ hb 13 2 (by omega) (by omega)) rfl ?_ ?_ ?_ ?_) | (refine call_ro e42 ( small_at _ hb 15 4 (by omega) (by omega)) rfl ?_ ?_ ?_ ?_) | (refine gcall_ro e42 ( small_at _ hb 15 4 (by omega) (by omega)) rfl ?_ ?_ ?_ ?_) | (refine dcall_ro e42 ( small_at _ hb 15 4 (by omega) (by omega)) rfl ?_ ?_ ?_ ?_) | (refine gdcall_ro rfl e42 ( small_at _ hb 15 4 (by omega) (by omega)) rfl ?_ ?_ ?_ ?_) | (refine call_ro e65 ( journalFault_p g (unsJ (getR g d a))) rfl ?_ ?_ ?_ ?_) | (refine gcall_ro e65 ( journalFault_p g (unsJ (getR g d a))) rfl ?_ ?_ ?_ ?_) | (refine dcall_ro e65 ( journalFault_p g (unsJ (getR g d a))) rfl ?_ ?_ ?_ ?_) | (refine gdcall_ro rfl e65 ( journalFault_p g (unsJ (getR g d a))) rfl ?_ ?_ ?_ ?_) | (refine EndX.plain ?_) | (refine nil_split (fun hn => ?_) (fun hn => ?_)) | (refine gcall_no not_false ?_) | (refine gdcall_no not_false ?_) | (refine GuardS_of _ _ _ _ _ _ (fun hg => ?_) (fun hg => ?_)) | (refine GuardD_of _ _ _ _ (fun hg => ?_) (fun hg => ?_)) | (refine CondB_of _ _ _ _ _ _ _ ?_ (fun hg => ?_) (fun hg => ?_)))
  all_goals (try (first | ((first | unfold noN | unfold Fr.below | unfold Loc.below); simp [Fr.allN, AV.allN, AV.allNL, AO.allN]; done) | rfl | trivial | assumption | (intro row hrow; simp only [List.mem_map] at hrow; obtain ⟨x, _, rfl⟩ := hrow; rfl) | (refine Wk.keep hcl ?_ ?_ ?_; (focus (simp [Fr.get, GeoD.av, DevD.av, bytes, ← List.map_take, ← List.map_drop, bnd, sliceV, Option.getD_some, Option.getD_none, Rows_byV, JrnD.av, JrnD.cells] <;> fail)); (focus (simp [sto, GeoD.av, DevD.av, bytes, ← List.map_take, ← List.map_drop, bnd, sliceV, Option.getD_some, Option.getD_none, Rows_byV, JrnD.av, JrnD.cells] <;> fail)); (focus (simp <;> fail))) | (simp [allP, opd, Fr.get, Fr.below, Fr.allN, AV.allN, AV.allNL, Loc.below, AO.allN, noN, killO, killT, killD, mkNames, AO.kill, AV.kill, AV.mapN, AV.mapNL]; done) | (with_reducible exact ltD (by assumption)) | omega | (simp only [decide_eq_true_eq, decide_eq_false_iff_not] at *; omega)))
  all_goals (try (simp [avName, loadNames, opd, Fr.get]; done))
  all_goals (try (
    have h0 : (jrnF g (unsJ (getR g d a)) == 0) = false := by
      have : (jrnF g (unsJ (getR g d a)) != 0) = true := by assumption
      simpa using this
    have e : supJ g d a = nilJ := by unfold supJ supOk; rw [h0]; rfl
    rw [e]; rfl))
  all_goals (
    have h0 : (jrnF g (unsJ (getR g d a)) == 0) = true := by
      have : (jrnF g (unsJ (getR g d a)) != 0) = false := by assumption
      simpa using this
    first
    | (have h1 : ((unsJ (getR g d a)).gen.tmod 2 == a) = false := by
         have : ((nA (getR g d a) 0 4).tmod 2 != a) = true := by assumption
         have h2 : ((nA (getR g d a) 0 4).tmod 2 == a) = false := by simpa using this
         exact h2
       have e : supJ g d a = nilJ := by unfold supJ supOk; rw [h0, h1]; rfl
       rw [e]; rfl)
    | (have h1 : ((unsJ (getR g d a)).gen.tmod 2 == a) = true := by
         have : ((nA (getR g d a) 0 4).tmod 2 != a) = false := by assumption
         have h2 : ((nA (getR g d a) 0 4).tmod 2 == a) = true := by simpa using this
         exact h2
       have e : supJ g d a = unsJ (getR g d a) := by unfold supJ supOk; rw [h0, h1]; rfl
       rw [e]; rfl))
end Go.Proofs.Ytalhjhmphdgaoaa
