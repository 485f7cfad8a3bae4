/- Tiers: the document's answers on what is to be frozen, dropped, made cold again. -/
import Derived.Test.YtaacjghgniljpaaTierC
import Derived.Test.YtaacjghgniljpaaMayP
import Derived.Test.YtaacjghgniljpaaTypes
namespace Go.Proofs.Ytaacjghgniljpaa
open Go.RowKit
set_option maxRecDepth 100000
def c30_1 : SC := (.seq (.reg [SO.mk (some 2) (.move (.const (Value.slice none 0 0))) none, SO.mk (some 3) (.move (.const (Value.int .i64 9))) none]) (.keep [2, 3] .ret))
theorem u30_1 : type_of% (@swc _ _ c30_1.eq_1) := @swc _ _ c30_1.eq_1
def c30_2 : SC := (.cond (.tmp 8) c30_1 .skip)
theorem u30_2 : type_of% (@swc _ _ c30_2.eq_1) := @swc _ _ c30_2.eq_1
def c30_3 : SC := (.cond (.tmp 13) .skip (.exit 0))
theorem u30_3 : type_of% (@swc _ _ c30_3.eq_1) := @swc _ _ c30_3.eq_1
def o30_4 : List SO := ((SO.mk (some 28) (.iaddr 23 (.tmp 26) (.tmp 27)) (some (23 , true))) :: (SO.mk (some 29) (.load 48 (.tmp 28)) (some (23 , true))) :: [])
theorem v30_4 : type_of% (@swd _ _ o30_4.eq_1) := @swd _ _ o30_4.eq_1
def o30_5 : List SO := ((SO.mk (some 24) (.load 28 (.tmp 1)) (some (23 , true))) :: (SO.mk (some 25) (.faddr 28 (.tmp 1) 3) (some (23 , true))) :: (SO.mk (some 26) (.load 23 (.tmp 25)) (some (23 , true))) :: (SO.mk (some 27) (.move (.tmp 5)) (some (23 , true))) :: o30_4)
theorem v30_5 : type_of% (@swd _ _ o30_5.eq_1) := @swd _ _ o30_5.eq_1
def o30_6 : List SO := ((SO.mk (some 20) (.faddr 48 (.tmp 19) 7) none) :: (SO.mk (some 21) (.load 3 (.tmp 20)) none) :: (SO.mk (some 22) (.bin .eql 3 (.tmp 21) (.const (Value.int .i64 1))) none) :: (SO.mk (some 23) (.move (.tmp 22)) none) :: o30_5)
theorem v30_6 : type_of% (@swd _ _ o30_6.eq_1) := @swd _ _ o30_6.eq_1
def o30_7 : List SO := ((SO.mk (some 16) (.faddr 28 (.tmp 1) 3) none) :: (SO.mk (some 17) (.load 23 (.tmp 16)) none) :: (SO.mk (some 18) (.move (.tmp 5)) none) :: (SO.mk (some 19) (.iaddr 23 (.tmp 17) (.tmp 18)) none) :: o30_6)
theorem v30_7 : type_of% (@swd _ _ o30_7.eq_1) := @swd _ _ o30_7.eq_1
theorem m30_7 (B : Nat) : mkNames B o30_7 = [] := (rfl)
def o30_8 : List SO := ((SO.mk (some 40) (.app 26 26 (.tmp 32) (.tmp 39)) none) :: (SO.mk (some 4) (.move (.tmp 40)) none) :: [])
theorem v30_8 : type_of% (@swl _ _ o30_8.eq_1) := @swl _ _ o30_8.eq_1
def o30_9 : List SO := ((SO.mk (some 36) (.iaddr 23 (.tmp 34) (.tmp 35)) none) :: (SO.mk (some 37) (.faddr 48 (.tmp 36) 0) none) :: (SO.mk (some 38) (.load 3 (.tmp 37)) none) :: (SO.mk (some 39) (.bslice 26 1 [(0 , (.tmp 38))]) none) :: o30_8)
theorem v30_9 : type_of% (@swl _ _ o30_9.eq_1) := @swl _ _ o30_9.eq_1
def c30_10 : SC := (.reg ((SO.mk (some 32) (.move (.tmp 4)) none) :: (SO.mk (some 33) (.faddr 28 (.tmp 1) 3) none) :: (SO.mk (some 34) (.load 23 (.tmp 33)) none) :: (SO.mk (some 35) (.move (.tmp 5)) none) :: o30_9))
theorem u30_10 : type_of% (@swc _ _ c30_10.eq_1) := @swc _ _ c30_10.eq_1
def c30_11 : SC := (.cond (.tmp 31) c30_10 .skip)
theorem u30_11 : type_of% (@swc _ _ c30_11.eq_1) := @swc _ _ c30_11.eq_1
def c30_12 : SC := (.reg [SO.mk (some 14) (.move (.tmp 5)) none, SO.mk (some 15) (.bin .add 3 (.tmp 14) (.const (Value.int .i64 1))) none, SO.mk (some 5) (.move (.tmp 15)) none])
theorem u30_12 : type_of% (@swc _ _ c30_12.eq_1) := @swc _ _ c30_12.eq_1
def c30_13 : SC := (.seq (.block 1 (.seq (.dreg false o30_7 [SO.mk (some 30) (.call 64 [(.tmp 24), (.tmp 29), (.const (Value.bool false))]) (some (23 , true)), SO.mk (some 31) (.pick (.tmp 23) (.tmp 30) (.const (Value.bool false))) none]) (.keep [31, 5, 1, 4] c30_11))) (.keep [5, 1, 4] c30_12))
theorem u30_13 : type_of% (@swc _ _ c30_13.eq_1) := @swc _ _ c30_13.eq_1
def c30_14 : SC := (.seq (.seq (.reg [SO.mk (some 9) (.move (.tmp 5)) none, SO.mk (some 10) (.faddr 28 (.tmp 1) 3) none, SO.mk (some 11) (.load 23 (.tmp 10)) none, SO.mk (some 12) (.len 23 (.tmp 11)) none, SO.mk (some 13) (.bin .lss 3 (.tmp 9) (.tmp 12)) none]) (.keep [13, 1, 5, 4] c30_3)) (.keep [5, 1, 4] c30_13))
theorem u30_14 : type_of% (@swc _ _ c30_14.eq_1) := @swc _ _ c30_14.eq_1
def c30_15 : SC := (.block 0 (.loop (.keep [1, 5, 4] c30_14)))
theorem u30_15 : type_of% (@swc _ _ c30_15.eq_1) := @swc _ _ c30_15.eq_1
def c30_16 : SC := (.seq (.reg [SO.mk (some 41) (.move (.tmp 4)) none, SO.mk (some 2) (.move (.tmp 41)) none, SO.mk (some 3) (.move (.const (Value.int .i64 0))) none]) (.keep [2, 3] .ret))
theorem u30_16 : type_of% (@swc _ _ c30_16.eq_1) := @swc _ _ c30_16.eq_1
def c30_17 : SC := (.seq (.seq (.reg [SO.mk (some 5) (.move (.const (Value.int .i64 0))) none]) (.keep [1, 5, 4] c30_15)) (.keep [4] c30_16))
theorem u30_17 : type_of% (@swc _ _ c30_17.eq_1) := @swc _ _ c30_17.eq_1
def c30_18 : SC := (.seq (.reg [SO.mk (some 4) (.move (.const (Value.slice none 0 0))) none]) (.keep [1, 4] c30_17))
theorem u30_18 : type_of% (@swc _ _ c30_18.eq_1) := @swc _ _ c30_18.eq_1
def c30_19 : SC := (.seq (.seq (.reg [SO.mk (some 6) (.load 28 (.tmp 1)) none, SO.mk (some 7) (.call 14 [(.tmp 6)]) none, SO.mk (some 8) (.un .not (.tmp 7)) none]) (.keep [8, 1] c30_2)) (.keep [1] c30_18))
theorem u30_19 : type_of% (@swc _ _ c30_19.eq_1) := @swc _ _ c30_19.eq_1
def c30 : SC := (.seq (.reg [SO.mk (some 1) (.box 28 (.tmp 0)) none, SO.mk (some 2) (.move (.const (Value.slice none 0 0))) none, SO.mk (some 3) (.move (.const (Value.int .i64 0))) none]) (.keep [1] c30_19))
theorem c30_eq : annC Try.f30 = some c30 := by kernel_rfl
theorem r30 : Try.f30.results.toList = [.tmp 2, .tmp 3] := by kernel_rfl
theorem e30 : enters Try.prog 30 = true := by kernel_rfl
end Go.Proofs.Ytaacjghgniljpaa
namespace Go.Proofs.Ytaacjghgniljpaa
open Go.RowKit
set_option maxHeartbeats 4000000
set_option maxRecDepth 20000
attribute [local irreducible] SW SWL SWLn SWD SEcall SEcallv SDv SE SO1 SOg ACalls ACallv Wk EndV
set_option linter.unusedSimpArgs false
set_option linter.unusedVariables false
theorem freezeOf_p (s : SttD) (hw : s.wf) (hm : Pure Try.prog 14 [s.av] (Bo (mayF s))) : Pure Try.prog 30 [s.av] (idsV s (frzP s)) := by
  refine pureZ_of follows Try.func30 c30_eq r30 (Nat.le_of_ble_eq_true rfl) fun B σ hcl hsz => ?_
  obtain ⟨z1, z2, z3, z4, z5⟩ := st_sz5 (hsz s.av (by simp))
  clear hsz
  have hfv := (st_fit hw).v
  have hbk := may_bkts (s := s)
  unfold idsV
  generalize mayF s = b at hm hbk ⊢
  cases b
  · simp only [cond_false] at hm ⊢
    clear hbk
    repeat' (first | (simp -implicitDefEqProofs only [*, contN, contC, Nat.reduceBEq, Bool.or_false, Bool.or_true, Bool.false_or, Bool.true_or, Bool.not_true, Bool.not_false, w_skip, w_ret, w_exit, w_reg, w_dreg, w_seq, SK_n, SK_r, SK_x, w_keep, w_block, w_cond, w_nil, w_cons, w_consg, w_nnil, w_ncons, w_dnil, w_dcons, w_dconsg, HK_app, HD_app, HQ_n, HQ_r, HQ_x, HQ_bn, HQ_br, HQ_bx, HQ_en, HQ_er, HQ_ex, CondB_true, CondB_false, SO1, w_sdv, SDe_alloc, SDe_box, SDe_bslice, SDe_app, true_imp_iff, false_imp_iff, and_false, false_and, not_false_eq_true, not_true_eq_false, addN, mkNames, killT, killD, killO, List.foldl_nil, List.foldl_cons, List.append_nil, List.nil_append, List.cons_append, GuardS_true, GuardS_false, GuardD_true, GuardD_false, DK_true, DK_false, lt_self_add, le_self_add, decide_true, decide_false, Bool.false_eq_true, Bool.true_eq_false, Nat.add_left_cancel_iff, SE, SEalloc, SEbox, SEstore, w_bs, SEbl, SEfz, SEbs0, fzName, osOf, AV.fz1, w_app, w_mk, aev, opd, Fr.get, putO, Fr.norm, List.map_cons, List.map_nil, with1, with2, onInt, AV.lit, entry, ↓reduceIte, Nat.reduceEqDiff, Nat.reduceAdd, reduceCtorEq, true_and, and_true, Option.map_some, Option.map_none, Option.bind_some, Option.bind_none, cond_true, cond_false, binV, unV, fieldV, loadV, sto, cellsAV, newF, newL, Fr.map, Loc.kill, Loc.set, AO.kill, AV.kill, AV.mapN, AV.mapNL, List.filter_nil, List.filter_cons, allP, EndV, retV, resV, resL, frz, dropL, AV.pick, nilV, tupV, imp_self, ne_eq, Int.cast_ofNat_Int, Int.reduceLT, Int.reduceToNat, List.getD_cons_zero, List.getD_cons_succ, bsliceV, buildV, afill, repl, chunk, rvs, AV.rv, RV.nrm, List.getElem?_nil, List.append_assoc, Nat.reduceMul, Nat.reducePow, Nat.zero_lt_succ, Nat.zero_add, Nat.add_zero, List.length_cons, List.length_nil, Nat.reduceLeDiff, Nat.le_refl, List.take_succ_cons, List.take_zero, List.drop_succ_cons, List.drop_zero, indexV, lenV, rowOf_mapD, rowOf_mapI, rowOf_mapA, List.length_map, Int.toNat_natCast, List.getElem?_cons_zero, List.getElem?_cons_succ, and_self, implies_true, if_true, if_false, HQ_zn, HQ_zr, HQ_wn, HQ_wr, AV.nz, AV.nzL, RV.nrm, SEbin, SEnil, nilK, srcV, dstV, appName, List.length_append, Nat.mul_one, take_map_len, take_map_app, List.getElem?_cons_zero, List.map_append, SEmkmap, SEmset, mgetV, kvOf, getM, setM, c30, r30, u30_1, u30_2, u30_3, v30_4, v30_5, v30_6, v30_7, m30_7, v30_8, v30_9, u30_10, u30_11, u30_12, u30_13, u30_14, u30_15, u30_16, u30_17, u30_18, u30_19, ty28, ty23, ty3, ty48, ty26, SttD.av, SttD.cells, ints]) | (with_reducible refine And.intro ?_ ?_) | (refine call_ro e14 ( hm) rfl ?_ ?_ ?_ ?_) | (refine gcall_ro e14 ( hm) rfl ?_ ?_ ?_ ?_) | (refine dcall_ro e14 ( hm) rfl ?_ ?_ ?_ ?_) | (refine gdcall_ro rfl e14 ( hm) rfl ?_ ?_ ?_ ?_) | (refine EndX.plain ?_) | (refine nil_split (fun hn => ?_) (fun hn => ?_)) | (refine gcall_no not_false ?_) | (refine gdcall_no not_false ?_) | (refine GuardS_of _ _ _ _ _ _ (fun hg => ?_) (fun hg => ?_)) | (refine GuardD_of _ _ _ _ (fun hg => ?_) (fun hg => ?_)) | (refine CondB_of _ _ _ _ _ _ _ ?_ (fun hg => ?_) (fun hg => ?_)))
    all_goals (try (first | ((first | unfold noN | unfold Fr.below | unfold Loc.below); simp [Fr.allN, AV.allN, AV.allNL, AO.allN]; done) | rfl | trivial | assumption | (intro row hrow; simp only [List.mem_map] at hrow; obtain ⟨x, _, rfl⟩ := hrow; rfl) | (refine Wk.keep hcl ?_ ?_ ?_; (focus (simp [Fr.get, SttD.av, SttD.cells, ints] <;> fail)); (focus (simp [sto, SttD.av, SttD.cells, ints] <;> fail)); (focus (simp <;> fail))) | (simp [allP, opd, Fr.get, Fr.below, Fr.allN, AV.allN, AV.allNL, Loc.below, AO.allN, noN, killO, killT, killD, mkNames, AO.kill, AV.kill, AV.mapN, AV.mapNL]; done) | (with_reducible exact ltD (by assumption)) | omega | (simp only [decide_eq_true_eq, decide_eq_false_iff_not] at *; omega)))
  · simp only [cond_true] at hm ⊢
    have hag := fun i hi => aged_p s s.vers[i]! false (hbk rfl i hi)
    simp only [cond_false] at hag
    clear hbk
    repeat' (first | (simp -implicitDefEqProofs only [*, contN, contC, Nat.reduceBEq, Bool.or_false, Bool.or_true, Bool.false_or, Bool.true_or, Bool.not_true, Bool.not_false, w_skip, w_ret, w_exit, w_reg, w_dreg, w_seq, SK_n, SK_r, SK_x, w_keep, w_block, w_cond, w_nil, w_cons, w_consg, w_nnil, w_ncons, w_dnil, w_dcons, w_dconsg, HK_app, HD_app, HQ_n, HQ_r, HQ_x, HQ_bn, HQ_br, HQ_bx, HQ_en, HQ_er, HQ_ex, CondB_true, CondB_false, SO1, w_sdv, SDe_alloc, SDe_box, SDe_bslice, SDe_app, true_imp_iff, false_imp_iff, and_false, false_and, not_false_eq_true, not_true_eq_false, addN, mkNames, killT, killD, killO, List.foldl_nil, List.foldl_cons, List.append_nil, List.nil_append, List.cons_append, GuardS_true, GuardS_false, GuardD_true, GuardD_false, DK_true, DK_false, lt_self_add, le_self_add, decide_true, decide_false, Bool.false_eq_true, Bool.true_eq_false, Nat.add_left_cancel_iff, SE, SEalloc, SEbox, SEstore, w_bs, SEbl, SEfz, SEbs0, fzName, osOf, AV.fz1, w_app, w_mk, aev, opd, Fr.get, putO, Fr.norm, List.map_cons, List.map_nil, with1, with2, onInt, AV.lit, entry, ↓reduceIte, Nat.reduceEqDiff, Nat.reduceAdd, reduceCtorEq, true_and, and_true, Option.map_some, Option.map_none, Option.bind_some, Option.bind_none, cond_true, cond_false, binV, unV, fieldV, loadV, sto, cellsAV, newF, newL, Fr.map, Loc.kill, Loc.set, AO.kill, AV.kill, AV.mapN, AV.mapNL, List.filter_nil, List.filter_cons, allP, EndV, retV, resV, resL, frz, dropL, AV.pick, nilV, tupV, imp_self, ne_eq, Int.cast_ofNat_Int, Int.reduceLT, Int.reduceToNat, List.getD_cons_zero, List.getD_cons_succ, bsliceV, buildV, afill, repl, chunk, rvs, AV.rv, RV.nrm, List.getElem?_nil, List.append_assoc, Nat.reduceMul, Nat.reducePow, Nat.zero_lt_succ, Nat.zero_add, Nat.add_zero, List.length_cons, List.length_nil, Nat.reduceLeDiff, Nat.le_refl, List.take_succ_cons, List.take_zero, List.drop_succ_cons, List.drop_zero, indexV, lenV, rowOf_mapD, rowOf_mapI, rowOf_mapA, List.length_map, Int.toNat_natCast, List.getElem?_cons_zero, List.getElem?_cons_succ, and_self, implies_true, if_true, if_false, HQ_zn, HQ_zr, HQ_wn, HQ_wr, AV.nz, AV.nzL, RV.nrm, SEbin, SEnil, nilK, srcV, dstV, appName, List.length_append, Nat.mul_one, take_map_len, take_map_app, List.getElem?_cons_zero, List.map_append, SEmkmap, SEmset, mgetV, kvOf, getM, setM, c30, r30, u30_1, u30_2, u30_3, v30_4, v30_5, v30_6, v30_7, m30_7, v30_8, v30_9, u30_10, u30_11, u30_12, u30_13, u30_14, u30_15, u30_16, u30_17, u30_18, u30_19, ty28, ty23, ty3, ty48, ty26, SttD.av, SttD.cells, ints, int_, VerD.row, idsK_0, idsK_end]) | (with_reducible refine And.intro ?_ ?_) | (refine call_ro e14 ( hm) rfl ?_ ?_ ?_ ?_) | (refine gcall_ro e14 ( hm) rfl ?_ ?_ ?_ ?_) | (refine dcall_ro e14 ( hm) rfl ?_ ?_ ?_ ?_) | (refine gdcall_ro rfl e14 ( hm) rfl ?_ ?_ ?_ ?_) | (refine call_ro e64 ( hag k (ltD (by assumption))) rfl ?_ ?_ ?_ ?_) | (refine gcall_ro e64 ( hag k (ltD (by assumption))) rfl ?_ ?_ ?_ ?_) | (refine dcall_ro e64 ( hag k (ltD (by assumption))) rfl ?_ ?_ ?_ ?_) | (refine gdcall_ro rfl e64 ( hag k (ltD (by assumption))) rfl ?_ ?_ ?_ ?_) | (refine loop_nat (s.vers.length) (fun _ => True) (fun k => [(1, .lp (B + 1) 0), (5, I k), (4, .os (B + 40) (idsK s.vers (frzP s) k).length)]) (fun k => [(B + 1, .box s.cells), (B + 40, .arr 1 3 ((idsK s.vers (frzP s) k).map int_))]) ?_ (Wk.trans (Wk.nameF (s := 4) (n := B + 40) (k := 1) (E := 3) rfl (by omega) (.inl (by omega)) (fun m => AO.kill_below (q := fun m => decide (m < B)) (by simp) _ (hcl m).1)) (Wk.keep hcl ?_ ?_ ?_)) fun k hk hF => ?_; rotate_left 1; (focus (simp [Fr.get, newF, Fr.map, AV.kill, AV.mapN, SttD.av, SttD.cells, ints, int_, VerD.row, idsK_0, idsK_end] <;> fail)); (focus (simp [sto, newL, Loc.kill, Loc.set, AO.kill, AV.kill, AV.mapN, SttD.av, SttD.cells, ints, int_, VerD.row, idsK_0, idsK_end] <;> fail)); (focus (simp [newL, Loc.kill, Loc.set, SttD.av, SttD.cells, ints, int_, VerD.row, idsK_0, idsK_end] <;> fail)); (try have hw : IntKind.i64.wrap ((k : Int) + 1) = (k : Int) + 1 := IntWalk.i64_in _ (by omega))) | (refine EndX.plain ?_) | (refine nil_split (fun hn => ?_) (fun hn => ?_)) | (refine gcall_no not_false ?_) | (refine gdcall_no not_false ?_) | (refine GuardS_of _ _ _ _ _ _ (fun hg => ?_) (fun hg => ?_)) | (refine GuardD_of _ _ _ _ (fun hg => ?_) (fun hg => ?_)) | (refine CondB_of _ _ _ _ _ _ _ ?_ (fun hg => ?_) (fun hg => ?_)))
    all_goals (try (first | ((first | unfold noN | unfold Fr.below | unfold Loc.below); simp [Fr.allN, AV.allN, AV.allNL, AO.allN]; done) | rfl | trivial | assumption | (intro row hrow; simp only [List.mem_map] at hrow; obtain ⟨x, _, rfl⟩ := hrow; rfl) | (refine Wk.keep hcl ?_ ?_ ?_; (focus (simp [Fr.get, SttD.av, SttD.cells, ints, int_, VerD.row, idsK_0, idsK_end] <;> fail)); (focus (simp [sto, SttD.av, SttD.cells, ints, int_, VerD.row, idsK_0, idsK_end] <;> fail)); (focus (simp <;> fail))) | (simp [allP, opd, Fr.get, Fr.below, Fr.allN, AV.allN, AV.allNL, Loc.below, AO.allN, noN, killO, killT, killD, mkNames, AO.kill, AV.kill, AV.mapN, AV.mapNL]; done) | (with_reducible exact ltD (by assumption)) | omega | (simp only [decide_eq_true_eq, decide_eq_false_iff_not] at *; omega)))
    all_goals first
      | (have hl := idsK_len s.vers (frzP s) k
         have hk2 := ltS (by assumption : decide ((k : Int) < (s.vers.length : Int)) = true)
         omega)
      | (have hk2 := ltS (by assumption : decide ((k : Int) < (s.vers.length : Int)) = true)
         first
         | (rw [idsK_yes (p := frzP s) hk2]
            · refine Wk.keep hcl ?_ ?_ ?_
              · simp [Fr.get]
              · simp [sto, SttD.cells, ints, int_]
              · simp
            · simp only [frzP, *, Bool.false_or, Bool.true_or, Bool.or_true, Bool.or_false, Bool.and_true, Bool.true_and, Bool.false_and, Bool.and_false, Bool.not_true, Bool.not_false, cond_true, cond_false]; done)
         | (rw [idsK_no (p := frzP s) hk2]
            · refine Wk.keep hcl ?_ ?_ ?_
              · simp [Fr.get]
              · simp [sto, SttD.cells, ints, int_]
              · simp
            · simp only [frzP, *, Bool.false_or, Bool.true_or, Bool.or_true, Bool.or_false, Bool.and_true, Bool.true_and, Bool.false_and, Bool.and_false, Bool.not_true, Bool.not_false, cond_true, cond_false]; done))
end Go.Proofs.Ytaacjghgniljpaa
