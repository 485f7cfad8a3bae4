/- ring.newest: the newer of the two journals. -/
import Derived.Test.YtalhjhmphdgaoaaRvC
import Derived.Test.YtalhjhmphdgaoaaTypes
namespace Go.Proofs.Ytalhjhmphdgaoaa
open Go.RowKit
set_option maxRecDepth 100000
def o33_1 : List SO := ((SO.mk (some 9) (.move (.tmp 21)) none) :: [])
theorem v33_1 : type_of% (@swl _ _ o33_1.eq_1) := @swl _ _ o33_1.eq_1
def o33_2 : List SO := ((SO.mk (some 15) (.move (.tmp 19)) none) :: (SO.mk (some 20) (.extract (.tmp 15) 0) none) :: (SO.mk (some 21) (.extract (.tmp 15) 1) none) :: (SO.mk (some 8) (.move (.tmp 20)) none) :: o33_1)
theorem v33_2 : type_of% (@swl _ _ o33_2.eq_1) := @swl _ _ o33_2.eq_1
def o33_3 : List SO := ((SO.mk none (.store 45 (.tmp 10) (.tmp 27)) none) :: (SO.mk (some 11) (.move (.tmp 28)) none) :: [])
theorem v33_3 : type_of% (@swl _ _ o33_3.eq_1) := @swl _ _ o33_3.eq_1
def o33_4 : List SO := ((SO.mk (some 22) (.move (.tmp 26)) none) :: (SO.mk (some 27) (.extract (.tmp 22) 0) none) :: (SO.mk (some 28) (.extract (.tmp 22) 1) none) :: (SO.mk (some 10) (.alloc 45) none) :: o33_3)
theorem v33_4 : type_of% (@swl _ _ o33_4.eq_1) := @swl _ _ o33_4.eq_1
def o33_5 : List SO := ((SO.mk (some 33) (.faddr 45 (.tmp 6) 0) (some (30 , true))) :: (SO.mk (some 34) (.load 3 (.tmp 33)) (some (30 , true))) :: (SO.mk (some 35) (.bin .gtr 3 (.tmp 32) (.tmp 34)) (some (30 , true))) :: (SO.mk (some 36) (.pick (.tmp 30) (.tmp 35) (.const (Value.bool false))) none) :: [])
theorem v33_5 : type_of% (@swl _ _ o33_5.eq_1) := @swl _ _ o33_5.eq_1
def c33_6 : SC := (.reg [SO.mk (some 37) (.load 45 (.tmp 10)) none, SO.mk none (.store 45 (.tmp 6) (.tmp 37)) none])
theorem u33_6 : type_of% (@swc _ _ c33_6.eq_1) := @swc _ _ c33_6.eq_1
def c33_7 : SC := (.cond (.tmp 36) c33_6 .skip)
theorem u33_7 : type_of% (@swc _ _ c33_7.eq_1) := @swc _ _ c33_7.eq_1
def c33_8 : SC := (.seq (.reg ((SO.mk (some 29) (.move (.tmp 11)) none) :: (SO.mk (some 30) (.move (.tmp 29)) none) :: (SO.mk (some 31) (.faddr 45 (.tmp 10) 0) (some (30 , true))) :: (SO.mk (some 32) (.load 3 (.tmp 31)) (some (30 , true))) :: o33_5)) (.keep [36, 10, 12, 2, 3, 6, 4] c33_7))
theorem u33_8 : type_of% (@swc _ _ c33_8.eq_1) := @swc _ _ c33_8.eq_1
def c33_9 : SC := (.seq (.reg ((SO.mk (some 23) (.load 23 (.tmp 2)) none) :: (SO.mk (some 24) (.move (.tmp 7)) none) :: (SO.mk (some 25) (.move (.tmp 8)) none) :: (SO.mk (some 26) (.call 59 [(.tmp 23), (.tmp 24), (.tmp 25)]) none) :: o33_4)) (.keep [11, 10, 12, 2, 3, 6, 4] c33_8))
theorem u33_9 : type_of% (@swc _ _ c33_9.eq_1) := @swc _ _ c33_9.eq_1
def c33_10 : SC := (.seq (.reg ((SO.mk (some 16) (.load 23 (.tmp 2)) none) :: (SO.mk (some 17) (.load 28 (.tmp 3)) none) :: (SO.mk (some 18) (.move (.tmp 7)) none) :: (SO.mk (some 19) (.call 7 [(.tmp 16), (.tmp 17), (.tmp 18)]) none) :: o33_2)) (.keep [7, 8, 12, 2, 3, 6, 4] c33_9))
theorem u33_10 : type_of% (@swc _ _ c33_10.eq_1) := @swc _ _ c33_10.eq_1
def c33_11 : SC := (.reg [SO.mk (some 38) (.bin .add 3 (.tmp 12) (.const (Value.int .i64 1))) none, SO.mk (some 12) (.move (.tmp 38)) none])
theorem u33_11 : type_of% (@swc _ _ c33_11.eq_1) := @swc _ _ c33_11.eq_1
def c33_12 : SC := (.seq (.block 1 (.seq (.reg [SO.mk (some 14) (.move (.tmp 12)) none, SO.mk (some 7) (.move (.tmp 14)) none]) (.keep [7, 12, 2, 3, 6, 4] c33_10))) (.keep [12, 2, 3, 6, 4] c33_11))
theorem u33_12 : type_of% (@swc _ _ c33_12.eq_1) := @swc _ _ c33_12.eq_1
def c33_13 : SC := (.seq (.cond (.tmp 13) .skip (.exit 0)) (.keep [12, 2, 3, 6, 4] c33_12))
theorem u33_13 : type_of% (@swc _ _ c33_13.eq_1) := @swc _ _ c33_13.eq_1
def c33_14 : SC := (.seq (.reg [SO.mk (some 13) (.bin .lss 3 (.tmp 12) (.const (Value.int .i64 2))) none]) (.keep [13, 3, 2, 12, 6, 4] c33_13))
theorem u33_14 : type_of% (@swc _ _ c33_14.eq_1) := @swc _ _ c33_14.eq_1
def c33_15 : SC := (.block 0 (.loop (.keep [3, 2, 12, 6, 4] c33_14)))
theorem u33_15 : type_of% (@swc _ _ c33_15.eq_1) := @swc _ _ c33_15.eq_1
def c33_16 : SC := (.seq (.dreg true [SO.mk (some 39) (.load 45 (.tmp 6)) none, SO.mk (some 40) (.faddr 45 (.tmp 6) 0) none, SO.mk (some 41) (.load 3 (.tmp 40)) none, SO.mk (some 42) (.bin .gtr 3 (.tmp 41) (.const (Value.int .i64 0))) none] [SO.mk none (.store 45 (.tmp 4) (.tmp 39)) none, SO.mk (some 5) (.move (.tmp 42)) none]) (.keep [4, 5] .ret))
theorem u33_16 : type_of% (@swc _ _ c33_16.eq_1) := @swc _ _ c33_16.eq_1
def c33_17 : SC := (.seq (.seq (.reg [SO.mk (some 12) (.move (.const (Value.int .i64 0))) none]) (.keep [3, 2, 12, 6, 4] c33_15)) (.keep [6, 4] c33_16))
theorem u33_17 : type_of% (@swc _ _ c33_17.eq_1) := @swc _ _ c33_17.eq_1
def c33_18 : SC := (.seq (.reg [SO.mk (some 6) (.alloc 45) none]) (.keep [3, 2, 6, 4] c33_17))
theorem u33_18 : type_of% (@swc _ _ c33_18.eq_1) := @swc _ _ c33_18.eq_1
def c33 : SC := (.seq (.reg [SO.mk (some 2) (.box 23 (.tmp 0)) none, SO.mk (some 3) (.box 28 (.tmp 1)) none, SO.mk (some 4) (.alloc 45) none, SO.mk (some 5) (.move (.const (Value.bool false))) none]) (.keep [3, 2, 4] c33_18))
theorem c33_eq : annC Try.f33 = some c33 := by kernel_rfl
theorem r33 : Try.f33.results.toList = [.cell 4 45, .tmp 5] := by kernel_rfl
theorem e33 : enters Try.prog 33 = true := by kernel_rfl
end Go.Proofs.Ytalhjhmphdgaoaa
namespace Go.Proofs.Ytalhjhmphdgaoaa
open Go.RowKit
set_option maxHeartbeats 4000000
set_option maxRecDepth 20000
attribute [local irreducible] SW SWL SWLn SWD SEcall SEcallv SDv SE SO1 SOg ACalls ACallv Wk EndV
set_option linter.unusedSimpArgs false
set_option linter.unusedVariables false
noncomputable def newK (g : GeoD) (d : DevD) : Nat → JrnD
  | 0 => nilJ
  | k + 1 => bif supOk g k (getR g d k) && decide ((unsJ (getR g d k)).gen > (newK g d k).gen) then unsJ (getR g d k) else newK g d k
theorem newK_0 (g : GeoD) (d : DevD) : newK g d 0 = ⟨0, 0, 0, 0, 0, 0, 0, 0, 0⟩ := rfl
theorem newK_yes {g : GeoD} {d : DevD} {k : Nat} (h1 : (jrnF g (unsJ (getR g d k)) == 0 && (unsJ (getR g d k)).gen.tmod 2 == (k : Int)) = true) (h2 : decide ((unsJ (getR g d k)).gen > (newK g d k).gen) = true) : newK g d (k + 1) = unsJ (getR g d k) := by
  show cond _ _ _ = _; unfold supOk; rw [h1, h2]; rfl
theorem newK_no1 {g : GeoD} {d : DevD} {k : Nat} (h1 : (jrnF g (unsJ (getR g d k)) == 0 && (unsJ (getR g d k)).gen.tmod 2 == (k : Int)) = false) : newK g d (k + 1) = newK g d k := by
  show cond _ _ _ = _; unfold supOk; rw [h1]; rfl
theorem newK_no2 {g : GeoD} {d : DevD} {k : Nat} (h2 : decide ((unsJ (getR g d k)).gen > (newK g d k).gen) = false) : newK g d (k + 1) = newK g d k := by
  show cond _ _ _ = _; rw [h2, Bool.and_false]; rfl
theorem newest_p (g : GeoD) (d : DevD) (h64 : ∀ k : Nat, k < 2 → (getR g d k).length = 64) : Pure Try.prog 33 [g.av, d.av] (.tup [(newK g d 2).av, Bo (decide ((newK g d 2).gen > 0))]) := by
  refine pure_of follows Try.func33 c33_eq r33 (Nat.le_of_ble_eq_true rfl) fun B σ hcl hsz => ?_
  clear hsz
  repeat' (first | (simp -implicitDefEqProofs only [*, contN, contC, Nat.reduceBEq, Bool.or_false, Bool.or_true, Bool.false_or, Bool.true_or, Bool.not_true, Bool.not_false, w_skip, w_ret, w_exit, w_reg, w_dreg, w_seq, SK_n, SK_r, SK_x, w_keep, w_block, w_cond, w_nil, w_cons, w_consg, w_nnil, w_ncons, w_dnil, w_dcons, w_dconsg, HK_app, HD_app, HQ_n, HQ_r, HQ_x, HQ_bn, HQ_br, HQ_bx, HQ_en, HQ_er, HQ_ex, CondB_true, CondB_false, SO1, w_sdv, SDe_alloc, SDe_box, SDe_bslice, SDe_app, true_imp_iff, false_imp_iff, and_false, false_and, not_false_eq_true, not_true_eq_false, addN, mkNames, killT, killD, killO, List.foldl_nil, List.foldl_cons, List.append_nil, List.nil_append, List.cons_append, GuardS_true, GuardS_false, GuardD_true, GuardD_false, DK_true, DK_false, lt_self_add, le_self_add, decide_true, decide_false, Bool.false_eq_true, Bool.true_eq_false, Nat.add_left_cancel_iff, SE, SEalloc, SEbox, SEstore, w_bs, SEbl, SEfz, SEbs0, fzName, osOf, AV.fz1, w_app, w_mk, aev, opd, Fr.get, putO, Fr.norm, List.map_cons, List.map_nil, with1, with2, onInt, AV.lit, entry, ↓reduceIte, Nat.reduceEqDiff, Nat.reduceAdd, reduceCtorEq, true_and, and_true, Option.map_some, Option.map_none, Option.bind_some, Option.bind_none, cond_true, cond_false, binV, unV, fieldV, loadV, sto, cellsAV, newF, newL, Fr.map, Loc.kill, Loc.set, AO.kill, AV.kill, AV.mapN, AV.mapNL, List.filter_nil, List.filter_cons, allP, EndV, retV, resV, resL, frz, dropL, AV.pick, nilV, tupV, imp_self, ne_eq, Int.cast_ofNat_Int, Int.reduceLT, Int.reduceToNat, List.getD_cons_zero, List.getD_cons_succ, bsliceV, buildV, afill, repl, chunk, rvs, AV.rv, RV.nrm, List.getElem?_nil, List.append_assoc, Nat.reduceMul, Nat.reducePow, Nat.zero_lt_succ, Nat.zero_add, Nat.add_zero, List.length_cons, List.length_nil, Nat.reduceLeDiff, Nat.le_refl, List.take_succ_cons, List.take_zero, List.drop_succ_cons, List.drop_zero, indexV, lenV, rowOf_mapD, rowOf_mapI, rowOf_mapA, List.length_map, Int.toNat_natCast, List.getElem?_cons_zero, List.getElem?_cons_succ, and_self, implies_true, if_true, if_false, HQ_zn, HQ_zr, HQ_wn, HQ_wr, AV.nz, AV.nzL, RV.nrm, SEbin, SEnil, nilK, srcV, dstV, appName, List.length_append, Nat.mul_one, take_map_len, take_map_app, List.getElem?_cons_zero, List.map_append, SEmkmap, SEmset, mgetV, kvOf, getM, setM, c33, r33, v33_1, v33_2, v33_3, v33_4, v33_5, u33_6, u33_7, u33_8, u33_9, u33_10, u33_11, u33_12, u33_13, u33_14, u33_15, u33_16, u33_17, u33_18, ty23, ty28, ty45, ty3, GeoD.av, DevD.av, GeoD.cells, DevD.cells, bytes, JrnD.av, JrnD.cells, newK_0, nilJ]) | (with_reducible refine And.intro ?_ ?_) | (refine call_ro e7 ( get_p g d (k : Int)) rfl ?_ ?_ ?_ ?_) | (refine gcall_ro e7 ( get_p g d (k : Int)) rfl ?_ ?_ ?_ ?_) | (refine dcall_ro e7 ( get_p g d (k : Int)) rfl ?_ ?_ ?_ ?_) | (refine gdcall_ro rfl e7 ( get_p g d (k : Int)) rfl ?_ ?_ ?_ ?_) | (refine call_ro e59 ( unsuper_p g (k : Int) (getR g d k) (h64 k (by simp at *; omega))) rfl ?_ ?_ ?_ ?_) | (refine gcall_ro e59 ( unsuper_p g (k : Int) (getR g d k) (h64 k (by simp at *; omega))) rfl ?_ ?_ ?_ ?_) | (refine dcall_ro e59 ( unsuper_p g (k : Int) (getR g d k) (h64 k (by simp at *; omega))) rfl ?_ ?_ ?_ ?_) | (refine gdcall_ro rfl e59 ( unsuper_p g (k : Int) (getR g d k) (h64 k (by simp at *; omega))) rfl ?_ ?_ ?_ ?_) | (refine loop_nat (2) (fun _ => True) (fun k => [(3, .lp (B + 3) 0), (2, .lp (B + 2) 0), (12, I k), (6, .lp (B + 6) 0), (4, .lp (B + 4) 0)]) (fun k => [(B + 2, .box g.cells), (B + 3, .box d.cells), (B + 6, .box (newK g d k).cells), (B + 4, .box nilJ.cells)]) ?_ (Wk.keep hcl ?_ ?_ ?_) fun k hk hF => ?_; rotate_left 1; (focus (simp [Fr.get, newF, Fr.map, AV.kill, AV.mapN, GeoD.av, DevD.av, GeoD.cells, DevD.cells, bytes, JrnD.av, JrnD.cells, newK_0, nilJ] <;> fail)); (focus (simp [sto, newL, Loc.kill, Loc.set, AO.kill, AV.kill, AV.mapN, GeoD.av, DevD.av, GeoD.cells, DevD.cells, bytes, JrnD.av, JrnD.cells, newK_0, nilJ] <;> fail)); (focus (simp [newL, Loc.kill, Loc.set, GeoD.av, DevD.av, GeoD.cells, DevD.cells, bytes, JrnD.av, JrnD.cells, newK_0, nilJ] <;> fail)); (try have hw : IntKind.i64.wrap ((k : Int) + 1) = (k : Int) + 1 := IntWalk.i64_in _ (by omega))) | (refine EndX.plain ?_) | (refine nil_split (fun hn => ?_) (fun hn => ?_)) | (refine gcall_no not_false ?_) | (refine gdcall_no not_false ?_) | (refine GuardS_of _ _ _ _ _ _ (fun hg => ?_) (fun hg => ?_)) | (refine GuardD_of _ _ _ _ (fun hg => ?_) (fun hg => ?_)) | (refine CondB_of _ _ _ _ _ _ _ ?_ (fun hg => ?_) (fun hg => ?_)))
  all_goals (try (first | ((first | unfold noN | unfold Fr.below | unfold Loc.below); simp [Fr.allN, AV.allN, AV.allNL, AO.allN]; done) | rfl | trivial | assumption | (intro row hrow; simp only [List.mem_map] at hrow; obtain ⟨x, _, rfl⟩ := hrow; rfl) | (refine Wk.keep hcl ?_ ?_ ?_; (focus (simp [Fr.get, GeoD.av, DevD.av, GeoD.cells, DevD.cells, bytes, JrnD.av, JrnD.cells, newK_0, nilJ] <;> fail)); (focus (simp [sto, GeoD.av, DevD.av, GeoD.cells, DevD.cells, bytes, JrnD.av, JrnD.cells, newK_0, nilJ] <;> fail)); (focus (simp <;> fail))) | (simp [allP, opd, Fr.get, Fr.below, Fr.allN, AV.allN, AV.allNL, Loc.below, AO.allN, noN, killO, killT, killD, mkNames, AO.kill, AV.kill, AV.mapN, AV.mapNL]; done) | (with_reducible exact ltD (by assumption)) | omega | (simp only [decide_eq_true_eq, decide_eq_false_iff_not] at *; omega)))
  all_goals (try (simp [avName, loadNames, opd, Fr.get]; done))
  all_goals first
    | (first | rw [newK_yes (by assumption) (by assumption)] | rw [newK_no2 (by assumption)] | rw [newK_no1 (by assumption)]
       refine Wk.keep hcl ?_ ?_ ?_ <;> simp [Fr.get, sto])
    | (have hk2 : k = 2 := Nat.le_antisymm hk (geD (n := 2) (by assumption))
       subst hk2; rfl)
end Go.Proofs.Ytalhjhmphdgaoaa
