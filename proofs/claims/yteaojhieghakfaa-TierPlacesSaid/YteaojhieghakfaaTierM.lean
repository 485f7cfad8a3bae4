/- The laws of what is next, what lives, where to put a piece, walked. -/
import Derived.Test.YteaojhieghakfaaTierN
import Derived.Test.YteaojhieghakfaaTierW
import Derived.Test.YteaojhieghakfaaTierQ
import Derived.Test.YteaojhieghakfaaMayP
import Derived.Test.YteaojhieghakfaaTypes
namespace Go.Proofs.Yteaojhieghakfaa
open Go.RowKit
set_option maxRecDepth 100000
def c9_1 : SC := (.seq (.reg [SO.mk (some 3) (.move (.tmp 0)) none, SO.mk (some 4) (.app 28 28 (.const (Value.slice none 0 0)) (.tmp 3)) none, SO.mk (some 2) (.move (.tmp 4)) none]) (.keep [2] .ret))
theorem u9_1 : type_of% (@swc _ _ c9_1.eq_1) := @swc _ _ c9_1.eq_1
def c9 : SC := (.seq (.reg [SO.mk (some 2) (.move (.const (Value.slice none 0 0))) none]) (.keep [0] c9_1))
theorem c9_eq : annC Try.f9 = some c9 := by kernel_rfl
theorem r9 : Try.f9.results.toList = [.tmp 2] := by kernel_rfl
theorem e9 : enters Try.prog 9 = true := by kernel_rfl
def o5_1 : List SO := ((SO.mk (some 11) (.extract (.tmp 7) 1) none) :: (SO.mk (some 3) (.alloc 41) none) :: (SO.mk none (.store 41 (.tmp 3) (.tmp 10)) none) :: (SO.mk (some 4) (.move (.tmp 11)) none) :: [])
def o5_2 : List SO := ((SO.mk (some 16) (.extract (.tmp 12) 1) none) :: (SO.mk (some 5) (.alloc 41) none) :: (SO.mk none (.store 41 (.tmp 5) (.tmp 15)) none) :: (SO.mk (some 6) (.move (.tmp 16)) none) :: [])
def o5_3 : List SO := ((SO.mk (some 2) (.move (.tmp 24)) none) :: [])
def o5_4 : List SO := ((SO.mk (some 21) (.load 41 (.tmp 3)) (some (20 , true))) :: (SO.mk (some 22) (.load 41 (.tmp 5)) (some (20 , true))) :: (SO.mk (some 23) (.bin .eql 41 (.tmp 21) (.tmp 22)) (some (20 , true))) :: (SO.mk (some 24) (.pick (.tmp 20) (.tmp 23) (.const (Value.bool false))) none) :: o5_3)
def c5_5 : SC := (.seq (.reg ((SO.mk (some 17) (.move (.tmp 4)) none) :: (SO.mk (some 18) (.move (.tmp 6)) none) :: (SO.mk (some 19) (.bin .eql 31 (.tmp 17) (.tmp 18)) none) :: (SO.mk (some 20) (.move (.tmp 19)) none) :: o5_4)) (.keep [2] .ret))
def c5_6 : SC := (.seq (.reg ((SO.mk (some 13) (.load 30 (.tmp 1)) none) :: (SO.mk (some 14) (.call 15 [(.tmp 13)]) none) :: (SO.mk (some 12) (.move (.tmp 14)) none) :: (SO.mk (some 15) (.extract (.tmp 12) 0) none) :: o5_2)) (.keep [4, 6, 3, 5] c5_5))
def c5_7 : SC := (.seq (.reg ((SO.mk (some 8) (.load 30 (.tmp 1)) none) :: (SO.mk (some 9) (.call 14 [(.tmp 8)]) none) :: (SO.mk (some 7) (.move (.tmp 9)) none) :: (SO.mk (some 10) (.extract (.tmp 7) 0) none) :: o5_1)) (.keep [1, 4, 3] c5_6))
def c5 : SC := (.seq (.reg [SO.mk (some 1) (.box 30 (.tmp 0)) none, SO.mk (some 2) (.move (.const (Value.bool false))) none]) (.keep [1] c5_7))
theorem r5 : Try.f5.results.toList = [.tmp 2] := by kernel_rfl
theorem e5 : enters Try.prog 5 = true := by kernel_rfl
def o4_1 : List SO := ((SO.mk (some 11) (.extract (.tmp 7) 1) none) :: (SO.mk (some 3) (.move (.tmp 10)) none) :: (SO.mk (some 4) (.move (.tmp 11)) none) :: [])
def o4_2 : List SO := ((SO.mk (some 16) (.extract (.tmp 12) 1) none) :: (SO.mk (some 5) (.move (.tmp 15)) none) :: (SO.mk (some 6) (.move (.tmp 16)) none) :: [])
def o4_3 : List SO := ((SO.mk (some 2) (.move (.tmp 24)) none) :: [])
def o4_4 : List SO := ((SO.mk (some 21) (.move (.tmp 3)) (some (20 , true))) :: (SO.mk (some 22) (.move (.tmp 5)) (some (20 , true))) :: (SO.mk (some 23) (.call 13 [(.tmp 21), (.tmp 22)]) (some (20 , true))) :: (SO.mk (some 24) (.pick (.tmp 20) (.tmp 23) (.const (Value.bool false))) none) :: o4_3)
def c4_5 : SC := (.seq (.reg ((SO.mk (some 17) (.move (.tmp 4)) none) :: (SO.mk (some 18) (.move (.tmp 6)) none) :: (SO.mk (some 19) (.bin .eql 31 (.tmp 17) (.tmp 18)) none) :: (SO.mk (some 20) (.move (.tmp 19)) none) :: o4_4)) (.keep [2] .ret))
def c4_6 : SC := (.seq (.reg ((SO.mk (some 13) (.load 30 (.tmp 1)) none) :: (SO.mk (some 14) (.call 12 [(.tmp 13)]) none) :: (SO.mk (some 12) (.move (.tmp 14)) none) :: (SO.mk (some 15) (.extract (.tmp 12) 0) none) :: o4_2)) (.keep [4, 6, 3, 5] c4_5))
def c4_7 : SC := (.seq (.reg ((SO.mk (some 8) (.load 30 (.tmp 1)) none) :: (SO.mk (some 9) (.call 11 [(.tmp 8)]) none) :: (SO.mk (some 7) (.move (.tmp 9)) none) :: (SO.mk (some 10) (.extract (.tmp 7) 0) none) :: o4_1)) (.keep [1, 4, 3] c4_6))
def c4 : SC := (.seq (.reg [SO.mk (some 1) (.box 30 (.tmp 0)) none, SO.mk (some 2) (.move (.const (Value.bool false))) none]) (.keep [1] c4_7))
theorem r4 : Try.f4.results.toList = [.tmp 2] := by kernel_rfl
theorem e4 : enters Try.prog 4 = true := by kernel_rfl
def o3_1 : List SO := ((SO.mk (some 23) (.extract (.tmp 15) 0) none) :: (SO.mk (some 24) (.extract (.tmp 15) 1) none) :: (SO.mk (some 11) (.move (.tmp 23)) none) :: (SO.mk (some 12) (.move (.tmp 24)) none) :: [])
theorem v3_1 : type_of% (@swd _ _ o3_1.eq_1) := @swd _ _ o3_1.eq_1
def o3_2 : List SO := ((SO.mk (some 20) (.move (.tmp 3)) none) :: (SO.mk (some 21) (.move (.tmp 4)) none) :: (SO.mk (some 22) (.call 8 [(.tmp 16), (.tmp 17), (.tmp 19), (.tmp 20), (.tmp 21)]) none) :: (SO.mk (some 15) (.move (.tmp 22)) none) :: o3_1)
theorem v3_2 : type_of% (@swd _ _ o3_2.eq_1) := @swd _ _ o3_2.eq_1
def o3_3 : List SO := ((SO.mk (some 16) (.load 23 (.tmp 5)) none) :: (SO.mk (some 17) (.load 30 (.tmp 6)) none) :: (SO.mk (some 18) (.move (.tmp 2)) none) :: (SO.mk (some 19) (.call 9 [(.tmp 18)]) none) :: o3_2)
theorem v3_3 : type_of% (@swd _ _ o3_3.eq_1) := @swd _ _ o3_3.eq_1
theorem m3_3 (B : Nat) : mkNames B o3_3 = [] := (rfl)
def o3_4 : List SO := ((SO.mk (some 33) (.extract (.tmp 25) 1) none) :: (SO.mk (some 13) (.move (.tmp 32)) none) :: (SO.mk (some 14) (.move (.tmp 33)) none) :: [])
theorem v3_4 : type_of% (@swl _ _ o3_4.eq_1) := @swl _ _ o3_4.eq_1
def o3_5 : List SO := ((SO.mk (some 30) (.move (.tmp 4)) none) :: (SO.mk (some 31) (.call 10 [(.tmp 26), (.tmp 27), (.tmp 28), (.tmp 29), (.tmp 30)]) none) :: (SO.mk (some 25) (.move (.tmp 31)) none) :: (SO.mk (some 32) (.extract (.tmp 25) 0) none) :: o3_4)
theorem v3_5 : type_of% (@swl _ _ o3_5.eq_1) := @swl _ _ o3_5.eq_1
def o3_6 : List SO := ((SO.mk (some 10) (.move (.tmp 41)) none) :: [])
theorem v3_6 : type_of% (@swl _ _ o3_6.eq_1) := @swl _ _ o3_6.eq_1
def o3_7 : List SO := ((SO.mk (some 38) (.move (.tmp 11)) (some (37 , true))) :: (SO.mk (some 39) (.move (.tmp 13)) (some (37 , true))) :: (SO.mk (some 40) (.bin .eql 3 (.tmp 38) (.tmp 39)) (some (37 , true))) :: (SO.mk (some 41) (.pick (.tmp 37) (.tmp 40) (.const (Value.bool false))) none) :: o3_6)
theorem v3_7 : type_of% (@swl _ _ o3_7.eq_1) := @swl _ _ o3_7.eq_1
def c3_8 : SC := (.seq (.reg ((SO.mk (some 34) (.move (.tmp 12)) none) :: (SO.mk (some 35) (.move (.tmp 14)) none) :: (SO.mk (some 36) (.bin .eql 31 (.tmp 34) (.tmp 35)) none) :: (SO.mk (some 37) (.move (.tmp 36)) none) :: o3_7)) (.keep [10] .ret))
theorem u3_8 : type_of% (@swc _ _ c3_8.eq_1) := @swc _ _ c3_8.eq_1
def c3_9 : SC := (.seq (.reg ((SO.mk (some 26) (.load 23 (.tmp 5)) none) :: (SO.mk (some 27) (.load 30 (.tmp 6)) none) :: (SO.mk (some 28) (.move (.tmp 2)) none) :: (SO.mk (some 29) (.move (.tmp 3)) none) :: o3_5)) (.keep [12, 14, 11, 13] c3_8))
theorem u3_9 : type_of% (@swc _ _ c3_9.eq_1) := @swc _ _ c3_9.eq_1
def c3_10 : SC := (.seq (.dreg false o3_3 []) (.keep [5, 6, 2, 3, 4, 12, 11] c3_9))
theorem u3_10 : type_of% (@swc _ _ c3_10.eq_1) := @swc _ _ c3_10.eq_1
def c3 : SC := (.seq (.reg [SO.mk (some 5) (.box 23 (.tmp 0)) none, SO.mk (some 6) (.box 30 (.tmp 1)) none, SO.mk (some 10) (.move (.const (Value.bool false))) none]) (.keep [5, 6, 2, 3, 4] c3_10))
theorem c3_eq : annC Try.f3 = some c3 := by kernel_rfl
theorem r3 : Try.f3.results.toList = [.tmp 10] := by kernel_rfl
theorem e3 : enters Try.prog 3 = true := by kernel_rfl
end Go.Proofs.Yteaojhieghakfaa
namespace Go.Proofs.Yteaojhieghakfaa
open Go.RowKit
set_option maxHeartbeats 4000000
set_option maxRecDepth 20000
attribute [local irreducible] SW SWL SWLn SWD SEcall SEcallv SDv SE SO1 SOg ACalls ACallv Wk EndV
set_option linter.unusedSimpArgs false
set_option linter.unusedVariables false
theorem ints_p (l : List Int) (hb : l.length * 8 ≤ 2 ^ 47) : Pure Try.prog 9 [.d (ints l)] (.d (ints l)) := by
  refine pureZ_of follows Try.func9 c9_eq r9 (Nat.le_of_ble_eq_true rfl) fun B σ hcl hsz => ?_
  have hlen : l.length ≤ 2 ^ 47 := by simpa using (show Sized (ints l) from hsz (.d (ints l)) (by simp)).len
  clear hsz
  repeat' (first | (simp -implicitDefEqProofs only [*, contN, contC, Nat.reduceBEq, Bool.or_false, Bool.or_true, Bool.false_or, Bool.true_or, Bool.not_true, Bool.not_false, w_skip, w_ret, w_exit, w_reg, w_dreg, w_seq, SK_n, SK_r, SK_x, w_keep, w_block, w_cond, w_nil, w_cons, w_consg, w_nnil, w_ncons, w_dnil, w_dcons, w_dconsg, HK_app, HD_app, HQ_n, HQ_r, HQ_x, HQ_bn, HQ_br, HQ_bx, HQ_en, HQ_er, HQ_ex, CondB_true, CondB_false, SO1, w_sdv, SDe_alloc, SDe_box, SDe_bslice, SDe_app, true_imp_iff, false_imp_iff, and_false, false_and, not_false_eq_true, not_true_eq_false, addN, mkNames, killT, killD, killO, List.foldl_nil, List.foldl_cons, List.append_nil, List.nil_append, List.cons_append, GuardS_true, GuardS_false, GuardD_true, GuardD_false, DK_true, DK_false, lt_self_add, le_self_add, decide_true, decide_false, Bool.false_eq_true, Bool.true_eq_false, Nat.add_left_cancel_iff, SE, SEalloc, SEbox, SEstore, w_bs, SEbl, SEfz, SEbs0, fzName, osOf, AV.fz1, w_app, w_mk, aev, opd, Fr.get, putO, Fr.norm, List.map_cons, List.map_nil, with1, with2, onInt, AV.lit, entry, ↓reduceIte, Nat.reduceEqDiff, Nat.reduceAdd, reduceCtorEq, true_and, and_true, Option.map_some, Option.map_none, Option.bind_some, Option.bind_none, cond_true, cond_false, binV, unV, fieldV, loadV, sto, cellsAV, newF, newL, Fr.map, Loc.kill, Loc.set, AO.kill, AV.kill, AV.mapN, AV.mapNL, List.filter_nil, List.filter_cons, allP, EndV, retV, resV, resL, frz, dropL, AV.pick, nilV, tupV, imp_self, ne_eq, Int.cast_ofNat_Int, Int.reduceLT, Int.reduceToNat, List.getD_cons_zero, List.getD_cons_succ, bsliceV, buildV, afill, repl, chunk, rvs, AV.rv, RV.nrm, List.getElem?_nil, List.append_assoc, Nat.reduceMul, Nat.reducePow, Nat.zero_lt_succ, Nat.zero_add, Nat.add_zero, List.length_cons, List.length_nil, Nat.reduceLeDiff, Nat.le_refl, List.take_succ_cons, List.take_zero, List.drop_succ_cons, List.drop_zero, indexV, lenV, rowOf_mapD, rowOf_mapI, rowOf_mapA, List.length_map, Int.toNat_natCast, List.getElem?_cons_zero, List.getElem?_cons_succ, and_self, implies_true, if_true, if_false, HQ_zn, HQ_zr, HQ_wn, HQ_wr, AV.nz, AV.nzL, RV.nrm, SEbin, SEnil, nilK, srcV, dstV, appName, List.length_append, Nat.mul_one, take_map_len, take_map_app, List.getElem?_cons_zero, List.map_append, SEmkmap, SEmset, mgetV, kvOf, getM, setM, c9, r9, u9_1, ty28, ty3, ints, int_]) | (with_reducible refine And.intro ?_ ?_) | (refine EndX.plain ?_) | (refine nil_split (fun hn => ?_) (fun hn => ?_)) | (refine gcall_no not_false ?_) | (refine gdcall_no not_false ?_) | (refine GuardS_of _ _ _ _ _ _ (fun hg => ?_) (fun hg => ?_)) | (refine GuardD_of _ _ _ _ (fun hg => ?_) (fun hg => ?_)) | (refine CondB_of _ _ _ _ _ _ _ ?_ (fun hg => ?_) (fun hg => ?_)))
  all_goals (try (first | ((first | unfold noN | unfold Fr.below | unfold Loc.below); simp [Fr.allN, AV.allN, AV.allNL, AO.allN]; done) | rfl | trivial | assumption | (intro row hrow; simp only [List.mem_map] at hrow; obtain ⟨x, _, rfl⟩ := hrow; rfl) | (refine Wk.keep hcl ?_ ?_ ?_; (focus (simp [Fr.get, ints, int_] <;> fail)); (focus (simp [sto, ints, int_] <;> fail)); (focus (simp <;> fail))) | (simp [allP, opd, Fr.get, Fr.below, Fr.allN, AV.allN, AV.allNL, Loc.below, AO.allN, noN, killO, killT, killD, mkNames, AO.kill, AV.kill, AV.mapN, AV.mapNL]; done) | (with_reducible exact ltD (by assumption)) | omega | (simp only [decide_eq_true_eq, decide_eq_false_iff_not] at *; omega)))
theorem place_two (s : SttD) (g : GeoD) (l : List Int) (size wo : Int) : ∃ u v : Int, placeV s g l size wo = .tup [I u, I v] := by
  unfold placeV
  cases mayF s <;> cases placeA g l size <;> cases placeB s g l size wo <;> cases placeC g l size <;> exact ⟨_, _, rfl⟩
theorem tierPlaces_p (g : GeoD) (s : SttD) (hw : s.wf) (l : List Int) (hb : l.length * 8 ≤ 2 ^ 47) (size wo : Int) : Pure Try.prog 3 [g.av, s.av, .d (ints l), I size, I wo] (Bo true) := by
  refine pure_of follows Try.func3 c3_eq r3 (Nat.le_of_ble_eq_true rfl) fun B σ hcl hsz => ?_
  clear hsz
  have h1 := place_p s hw g l size wo
  have h2 := placeOf_p s (may_p s) g l size wo
  obtain ⟨u, v, hp⟩ := place_two s g l size wo
  rw [hp] at h1 h2
  clear hp
  repeat' (first | (simp -implicitDefEqProofs only [*, contN, contC, Nat.reduceBEq, Bool.or_false, Bool.or_true, Bool.false_or, Bool.true_or, Bool.not_true, Bool.not_false, w_skip, w_ret, w_exit, w_reg, w_dreg, w_seq, SK_n, SK_r, SK_x, w_keep, w_block, w_cond, w_nil, w_cons, w_consg, w_nnil, w_ncons, w_dnil, w_dcons, w_dconsg, HK_app, HD_app, HQ_n, HQ_r, HQ_x, HQ_bn, HQ_br, HQ_bx, HQ_en, HQ_er, HQ_ex, CondB_true, CondB_false, SO1, w_sdv, SDe_alloc, SDe_box, SDe_bslice, SDe_app, true_imp_iff, false_imp_iff, and_false, false_and, not_false_eq_true, not_true_eq_false, addN, mkNames, killT, killD, killO, List.foldl_nil, List.foldl_cons, List.append_nil, List.nil_append, List.cons_append, GuardS_true, GuardS_false, GuardD_true, GuardD_false, DK_true, DK_false, lt_self_add, le_self_add, decide_true, decide_false, Bool.false_eq_true, Bool.true_eq_false, Nat.add_left_cancel_iff, SE, SEalloc, SEbox, SEstore, w_bs, SEbl, SEfz, SEbs0, fzName, osOf, AV.fz1, w_app, w_mk, aev, opd, Fr.get, putO, Fr.norm, List.map_cons, List.map_nil, with1, with2, onInt, AV.lit, entry, ↓reduceIte, Nat.reduceEqDiff, Nat.reduceAdd, reduceCtorEq, true_and, and_true, Option.map_some, Option.map_none, Option.bind_some, Option.bind_none, cond_true, cond_false, binV, unV, fieldV, loadV, sto, cellsAV, newF, newL, Fr.map, Loc.kill, Loc.set, AO.kill, AV.kill, AV.mapN, AV.mapNL, List.filter_nil, List.filter_cons, allP, EndV, retV, resV, resL, frz, dropL, AV.pick, nilV, tupV, imp_self, ne_eq, Int.cast_ofNat_Int, Int.reduceLT, Int.reduceToNat, List.getD_cons_zero, List.getD_cons_succ, bsliceV, buildV, afill, repl, chunk, rvs, AV.rv, RV.nrm, List.getElem?_nil, List.append_assoc, Nat.reduceMul, Nat.reducePow, Nat.zero_lt_succ, Nat.zero_add, Nat.add_zero, List.length_cons, List.length_nil, Nat.reduceLeDiff, Nat.le_refl, List.take_succ_cons, List.take_zero, List.drop_succ_cons, List.drop_zero, indexV, lenV, rowOf_mapD, rowOf_mapI, rowOf_mapA, List.length_map, Int.toNat_natCast, List.getElem?_cons_zero, List.getElem?_cons_succ, and_self, implies_true, if_true, if_false, HQ_zn, HQ_zr, HQ_wn, HQ_wr, AV.nz, AV.nzL, RV.nrm, SEbin, SEnil, nilK, srcV, dstV, appName, List.length_append, Nat.mul_one, take_map_len, take_map_app, List.getElem?_cons_zero, List.map_append, SEmkmap, SEmset, mgetV, kvOf, getM, setM, c3, r3, v3_1, v3_2, v3_3, m3_3, v3_4, v3_5, v3_6, v3_7, u3_8, u3_9, u3_10, ty23, ty30, ty31, ty3, SttD.av, SttD.cells, GeoD.av, ints, bne_self_eq_false, beq_self_eq_true]) | (with_reducible refine And.intro ?_ ?_) | (refine call_ro e8 ( h1) rfl ?_ ?_ ?_ ?_) | (refine gcall_ro e8 ( h1) rfl ?_ ?_ ?_ ?_) | (refine dcall_ro e8 ( h1) rfl ?_ ?_ ?_ ?_) | (refine gdcall_ro rfl e8 ( h1) rfl ?_ ?_ ?_ ?_) | (refine call_ro e10 ( h2) rfl ?_ ?_ ?_ ?_) | (refine gcall_ro e10 ( h2) rfl ?_ ?_ ?_ ?_) | (refine dcall_ro e10 ( h2) rfl ?_ ?_ ?_ ?_) | (refine gdcall_ro rfl e10 ( h2) rfl ?_ ?_ ?_ ?_) | (refine call_ro e9 ( ints_p l hb) rfl ?_ ?_ ?_ ?_) | (refine gcall_ro e9 ( ints_p l hb) rfl ?_ ?_ ?_ ?_) | (refine dcall_ro e9 ( ints_p l hb) rfl ?_ ?_ ?_ ?_) | (refine gdcall_ro rfl e9 ( ints_p l hb) rfl ?_ ?_ ?_ ?_) | (refine EndX.plain ?_) | (refine nil_split (fun hn => ?_) (fun hn => ?_)) | (refine gcall_no not_false ?_) | (refine gdcall_no not_false ?_) | (refine GuardS_of _ _ _ _ _ _ (fun hg => ?_) (fun hg => ?_)) | (refine GuardD_of _ _ _ _ (fun hg => ?_) (fun hg => ?_)) | (refine CondB_of _ _ _ _ _ _ _ ?_ (fun hg => ?_) (fun hg => ?_)))
  all_goals (try (first | ((first | unfold noN | unfold Fr.below | unfold Loc.below); simp [Fr.allN, AV.allN, AV.allNL, AO.allN]; done) | rfl | trivial | assumption | (intro row hrow; simp only [List.mem_map] at hrow; obtain ⟨x, _, rfl⟩ := hrow; rfl) | (refine Wk.keep hcl ?_ ?_ ?_; (focus (simp [Fr.get, SttD.av, SttD.cells, GeoD.av, ints, bne_self_eq_false, beq_self_eq_true] <;> fail)); (focus (simp [sto, SttD.av, SttD.cells, GeoD.av, ints, bne_self_eq_false, beq_self_eq_true] <;> fail)); (focus (simp <;> fail))) | (simp [allP, opd, Fr.get, Fr.below, Fr.allN, AV.allN, AV.allNL, Loc.below, AO.allN, noN, killO, killT, killD, mkNames, AO.kill, AV.kill, AV.mapN, AV.mapNL]; done) | (with_reducible exact ltD (by assumption)) | omega | (simp only [decide_eq_true_eq, decide_eq_false_iff_not] at *; omega)))
end Go.Proofs.Yteaojhieghakfaa
