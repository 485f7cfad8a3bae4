/- Bytes joined. -/
import Derived.Test.YtelciiooegiikaaBase
import Derived.Test.YtelciiooegiikaaTypes
namespace Go.Proofs.Ytelciiooegiikaa
open Go.RowKit
set_option maxRecDepth 100000
def c9_1 : SC := (.cond (.tmp 9) .skip (.exit 0))
theorem u9_1 : type_of% (@swc _ _ c9_1.eq_1) := @swc _ _ c9_1.eq_1
def o9_2 : List SO := ((SO.mk (some 16) (.load 29 (.tmp 15)) none) :: (SO.mk (some 17) (.len 29 (.tmp 16)) none) :: (SO.mk (some 18) (.bin .lss 3 (.tmp 12) (.tmp 17)) none) :: [])
theorem v9_2 : type_of% (@swl _ _ o9_2.eq_1) := @swl _ _ o9_2.eq_1
def c9_3 : SC := (.cond (.tmp 18) .skip (.exit 2))
theorem u9_3 : type_of% (@swc _ _ c9_3.eq_1) := @swc _ _ c9_3.eq_1
def o9_4 : List SO := ((SO.mk (some 29) (.bslice 29 1 [(0 , (.tmp 28))]) none) :: (SO.mk (some 30) (.app 29 29 (.tmp 21) (.tmp 29)) none) :: (SO.mk (some 3) (.move (.tmp 30)) none) :: [])
theorem v9_4 : type_of% (@swl _ _ o9_4.eq_1) := @swl _ _ o9_4.eq_1
def o9_5 : List SO := ((SO.mk (some 25) (.load 29 (.tmp 24)) none) :: (SO.mk (some 26) (.move (.tmp 5)) none) :: (SO.mk (some 27) (.iaddr 29 (.tmp 25) (.tmp 26)) none) :: (SO.mk (some 28) (.load 5 (.tmp 27)) none) :: o9_4)
theorem v9_5 : type_of% (@swl _ _ o9_5.eq_1) := @swl _ _ o9_5.eq_1
def c9_6 : SC := (.reg [SO.mk (some 19) (.move (.tmp 5)) none, SO.mk (some 20) (.bin .add 3 (.tmp 19) (.const (Value.int .i64 1))) none, SO.mk (some 5) (.move (.tmp 20)) none])
theorem u9_6 : type_of% (@swc _ _ c9_6.eq_1) := @swc _ _ c9_6.eq_1
def c9_7 : SC := (.seq (.block 3 (.reg ((SO.mk (some 21) (.move (.tmp 3)) none) :: (SO.mk (some 22) (.move (.tmp 0)) none) :: (SO.mk (some 23) (.move (.tmp 4)) none) :: (SO.mk (some 24) (.iaddr 24 (.tmp 22) (.tmp 23)) none) :: o9_5))) (.keep [5, 4, 0, 3] c9_6))
theorem u9_7 : type_of% (@swc _ _ c9_7.eq_1) := @swc _ _ c9_7.eq_1
def c9_8 : SC := (.seq (.seq (.reg ((SO.mk (some 12) (.move (.tmp 5)) none) :: (SO.mk (some 13) (.move (.tmp 0)) none) :: (SO.mk (some 14) (.move (.tmp 4)) none) :: (SO.mk (some 15) (.iaddr 24 (.tmp 13) (.tmp 14)) none) :: o9_2)) (.keep [18, 5, 4, 0, 3] c9_3)) (.keep [3, 5, 4, 0] c9_7))
theorem u9_8 : type_of% (@swc _ _ c9_8.eq_1) := @swc _ _ c9_8.eq_1
def c9_9 : SC := (.block 2 (.loop (.keep [5, 4, 0, 3] c9_8)))
theorem u9_9 : type_of% (@swc _ _ c9_9.eq_1) := @swc _ _ c9_9.eq_1
def c9_10 : SC := (.reg [SO.mk (some 10) (.move (.tmp 4)) none, SO.mk (some 11) (.bin .add 3 (.tmp 10) (.const (Value.int .i64 1))) none, SO.mk (some 4) (.move (.tmp 11)) none])
theorem u9_10 : type_of% (@swc _ _ c9_10.eq_1) := @swc _ _ c9_10.eq_1
def c9_11 : SC := (.seq (.block 1 (.seq (.reg [SO.mk (some 5) (.move (.const (Value.int .i64 0))) none]) (.keep [5, 4, 0, 3] c9_9))) (.keep [4, 0, 3] c9_10))
theorem u9_11 : type_of% (@swc _ _ c9_11.eq_1) := @swc _ _ c9_11.eq_1
def c9_12 : SC := (.seq (.seq (.reg [SO.mk (some 6) (.move (.tmp 4)) none, SO.mk (some 7) (.move (.tmp 0)) none, SO.mk (some 8) (.len 24 (.tmp 7)) none, SO.mk (some 9) (.bin .lss 3 (.tmp 6) (.tmp 8)) none]) (.keep [9, 0, 4, 3] c9_1)) (.keep [4, 0, 3] c9_11))
theorem u9_12 : type_of% (@swc _ _ c9_12.eq_1) := @swc _ _ c9_12.eq_1
def c9_13 : SC := (.block 0 (.loop (.keep [0, 4, 3] c9_12)))
theorem u9_13 : type_of% (@swc _ _ c9_13.eq_1) := @swc _ _ c9_13.eq_1
def c9_14 : SC := (.seq (.reg [SO.mk (some 31) (.move (.tmp 3)) none, SO.mk (some 2) (.move (.tmp 31)) none]) (.keep [2] .ret))
theorem u9_14 : type_of% (@swc _ _ c9_14.eq_1) := @swc _ _ c9_14.eq_1
def c9_15 : SC := (.seq (.seq (.reg [SO.mk (some 4) (.move (.const (Value.int .i64 0))) none]) (.keep [0, 4, 3] c9_13)) (.keep [3] c9_14))
theorem u9_15 : type_of% (@swc _ _ c9_15.eq_1) := @swc _ _ c9_15.eq_1
def c9_16 : SC := (.seq (.reg [SO.mk (some 3) (.move (.const (Value.slice none 0 0))) none]) (.keep [0, 3] c9_15))
theorem u9_16 : type_of% (@swc _ _ c9_16.eq_1) := @swc _ _ c9_16.eq_1
def c9 : SC := (.seq (.reg [SO.mk (some 2) (.move (.const (Value.slice none 0 0))) none]) (.keep [0] c9_16))
theorem c9_eq : annC Try.f9 = some c9 := by kernel_rfl
theorem r9 : Try.f9.results.toList = [.tmp 2] := by kernel_rfl
theorem e9 : enters Try.prog 9 = true := by kernel_rfl
end Go.Proofs.Ytelciiooegiikaa
namespace Go.Proofs.Ytelciiooegiikaa
open Go.RowKit
set_option maxHeartbeats 4000000
set_option maxRecDepth 20000
attribute [local irreducible] SW OSW SWL SWLn SWD SEcall SEcallv SDv SE SO1 SOg ACalls ACallv Wk EndV
set_option linter.unusedSimpArgs false
set_option linter.unusedVariables false
def catN (ls : List (List UInt8)) (k : Nat) : List UInt8 := (ls.take k).flatten
theorem catN_next {ls : List (List UInt8)} {k : Nat} (h : k < ls.length) : catN ls (k + 1) = catN ls k ++ ls[k]! := by
  simp only [catN, take_next h, List.flatten_append, List.flatten_cons, List.flatten_nil, List.append_nil]
theorem catN_le {ls : List (List UInt8)} {k : Nat} (h : k < ls.length) : (catN ls k).length + ls[k]!.length ≤ ls.flatten.length := by
  have := catN_next h
  have e : ls.flatten = catN ls (k + 1) ++ (ls.drop (k + 1)).flatten := by
    simp only [catN]; rw [← List.flatten_append, List.take_append_drop]
  rw [e, this]; simp only [List.length_append]; omega
theorem joined_p (ls : List (List UInt8)) (hs : ls.flatten.length ≤ 2 ^ 47) : Pure Try.prog 9 [.d (.ro (ls.map secRow))] (.d (bytes ls.flatten)) := by
  refine pureZ_of follows Try.func9 c9_eq r9 (Nat.le_of_ble_eq_true rfl) fun B σ hcl hsz => ?_
  have hlen : ls.length ≤ 2 ^ 47 := by simpa using (show Sized (.ro (ls.map secRow)) from hsz (.d (.ro (ls.map secRow))) (by simp)).len
  clear hsz
  simp -implicitDefEqProofs only [contN, contC, Nat.reduceBEq, Bool.or_false, Bool.or_true, Bool.false_or, Bool.true_or, Bool.not_true, Bool.not_false, SEconv, w_skip, w_ret, w_exit, w_reg, w_dreg, w_oreg, HO_app, w_odone, w_onil, w_ofst, w_obr, w_seq, SK_n, SK_r, SK_x, w_keep, w_block, w_cond, w_nil, w_cons, w_consg, w_nnil, w_ncons, w_dnil, w_dcons, w_dconsg, HK_app, HD_app, HQ_n, HQ_r, HQ_x, HQ_bn, HQ_br, HQ_bx, HQ_en, HQ_er, HQ_ex, CondB_true, CondB_false, SO1, w_sdv, SDe_alloc, SDe_box, SDe_bslice, SDe_app, true_imp_iff, false_imp_iff, and_false, false_and, not_false_eq_true, not_true_eq_false, addN, mkNames, killT, killD, killO, List.foldl_nil, List.foldl_cons, List.append_nil, List.nil_append, List.cons_append, GuardS_true, GuardS_false, GuardD_true, GuardD_false, DK_true, DK_false, lt_self_add, le_self_add, decide_true, decide_false, Bool.false_eq_true, Bool.true_eq_false, Nat.add_left_cancel_iff, SE, SEalloc, SEbox, SEstore, w_bs, SEbl, SEfz, SEbs0, fzName, osOf, AV.fz1, w_app, w_mk, aev, opd, Fr.get, putO, Fr.norm, List.map_cons, List.map_nil, with1, with2, onInt, AV.lit, entry, ↓reduceIte, Nat.reduceEqDiff, Nat.reduceAdd, reduceCtorEq, true_and, and_true, Option.map_some, Option.map_none, Option.bind_some, Option.bind_none, cond_true, cond_false, binV, unV, fieldV, loadV, sto, cellsAV, newF, newL, Fr.map, Loc.kill, Loc.set, AO.kill, AV.kill, AV.mapN, AV.mapNL, List.filter_nil, List.filter_cons, allP, EndV, retV, resV, resL, frz, dropL, AV.pick, nilV, tupV, imp_self, ne_eq, Int.cast_ofNat_Int, Int.reduceLT, Int.reduceToNat, List.getD_cons_zero, List.getD_cons_succ, bsliceV, buildV, afill, repl, chunk, rvs, AV.rv, RV.nrm, List.getElem?_nil, List.append_assoc, Nat.reduceMul, Nat.reducePow, Nat.zero_lt_succ, Nat.zero_add, Nat.add_zero, List.length_cons, List.length_nil, Nat.reduceLeDiff, Nat.le_refl, List.take_succ_cons, List.take_zero, List.drop_succ_cons, List.drop_zero, indexV, lenV, rowOf_mapD, rowOf_mapI, rowOf_mapA, List.length_map, Int.toNat_natCast, List.getElem?_cons_zero, List.getElem?_cons_succ, and_self, implies_true, if_true, if_false, HQ_zn, HQ_zr, HQ_wn, HQ_wr, AV.nz, AV.nzL, RV.nrm, SEbin, SEnil, nilK, srcV, dstV, appName, List.length_append, Nat.mul_one, take_map_len, take_map_app, List.getElem?_cons_zero, List.map_append, SEmkmap, SEmset, mgetV, kvOf, getM, setM, w_bsH, SEapA, SEapB, bsliceA, c9, r9, u9_1, v9_2, u9_3, v9_4, v9_5, u9_6, u9_7, u9_8, u9_9, u9_10, u9_11, u9_12, u9_13, u9_14, u9_15, u9_16, ty24, ty3, ty29, ty5]
  refine loop_nat ls.length (fun _ => True) (fun k => [(0, .d (.ro (ls.map secRow))), (4, I k), (3, .os (B + 3) (catN ls k).length)]) (fun k => [(B + 3, .arr 1 5 ((catN ls k).map by_))]) trivial ((Wk.nameF (s := 3) (n := B + 3) (k := 1) (E := 5) rfl (by omega) (by omega) (fun m => AO.kill_below (q := fun m => decide (m < B)) (by simp) _ (hcl m).1)).trans (Wk.keep hcl (by simp [Fr.get, newF, Fr.map, AV.kill, AV.mapN, catN]) (by simp [sto, newL, catN]) (by simp [newL, Loc.kill]))) fun k hk hF => ?_
  have hw : IntKind.i64.wrap ((k : Int) + 1) = (k : Int) + 1 := IntWalk.i64_in _ (by omega)
  repeat' (first | (simp -implicitDefEqProofs only [*, contN, contC, Nat.reduceBEq, Bool.or_false, Bool.or_true, Bool.false_or, Bool.true_or, Bool.not_true, Bool.not_false, SEconv, w_skip, w_ret, w_exit, w_reg, w_dreg, w_oreg, HO_app, w_odone, w_onil, w_ofst, w_obr, w_seq, SK_n, SK_r, SK_x, w_keep, w_block, w_cond, w_nil, w_cons, w_consg, w_nnil, w_ncons, w_dnil, w_dcons, w_dconsg, HK_app, HD_app, HQ_n, HQ_r, HQ_x, HQ_bn, HQ_br, HQ_bx, HQ_en, HQ_er, HQ_ex, CondB_true, CondB_false, SO1, w_sdv, SDe_alloc, SDe_box, SDe_bslice, SDe_app, true_imp_iff, false_imp_iff, and_false, false_and, not_false_eq_true, not_true_eq_false, addN, mkNames, killT, killD, killO, List.foldl_nil, List.foldl_cons, List.append_nil, List.nil_append, List.cons_append, GuardS_true, GuardS_false, GuardD_true, GuardD_false, DK_true, DK_false, lt_self_add, le_self_add, decide_true, decide_false, Bool.false_eq_true, Bool.true_eq_false, Nat.add_left_cancel_iff, SE, SEalloc, SEbox, SEstore, w_bs, SEbl, SEfz, SEbs0, fzName, osOf, AV.fz1, w_app, w_mk, aev, opd, Fr.get, putO, Fr.norm, List.map_cons, List.map_nil, with1, with2, onInt, AV.lit, entry, ↓reduceIte, Nat.reduceEqDiff, Nat.reduceAdd, reduceCtorEq, true_and, and_true, Option.map_some, Option.map_none, Option.bind_some, Option.bind_none, cond_true, cond_false, binV, unV, fieldV, loadV, sto, cellsAV, newF, newL, Fr.map, Loc.kill, Loc.set, AO.kill, AV.kill, AV.mapN, AV.mapNL, List.filter_nil, List.filter_cons, allP, EndV, retV, resV, resL, frz, dropL, AV.pick, nilV, tupV, imp_self, ne_eq, Int.cast_ofNat_Int, Int.reduceLT, Int.reduceToNat, List.getD_cons_zero, List.getD_cons_succ, bsliceV, buildV, afill, repl, chunk, rvs, AV.rv, RV.nrm, List.getElem?_nil, List.append_assoc, Nat.reduceMul, Nat.reducePow, Nat.zero_lt_succ, Nat.zero_add, Nat.add_zero, List.length_cons, List.length_nil, Nat.reduceLeDiff, Nat.le_refl, List.take_succ_cons, List.take_zero, List.drop_succ_cons, List.drop_zero, indexV, lenV, rowOf_mapD, rowOf_mapI, rowOf_mapA, List.length_map, Int.toNat_natCast, List.getElem?_cons_zero, List.getElem?_cons_succ, and_self, implies_true, if_true, if_false, HQ_zn, HQ_zr, HQ_wn, HQ_wr, AV.nz, AV.nzL, RV.nrm, SEbin, SEnil, nilK, srcV, dstV, appName, List.length_append, Nat.mul_one, take_map_len, take_map_app, List.getElem?_cons_zero, List.map_append, SEmkmap, SEmset, mgetV, kvOf, getM, setM, w_bsH, SEapA, SEapB, bsliceA, c9, r9, u9_1, v9_2, u9_3, v9_4, v9_5, u9_6, u9_7, u9_8, u9_9, u9_10, u9_11, u9_12, u9_13, u9_14, u9_15, u9_16, ty24, ty3, ty29, ty5, secRow, bytes, by_]) | (with_reducible refine And.intro ?_ ?_) | (refine loop_nat (ls[k]!.length) (fun _ => True) (fun j => [(0, .d (.ro (ls.map secRow))), (4, I k), (5, I j), (3, .os (B + 3) (catN ls k ++ ls[k]!.take j).length)]) (fun j => [(B + 3, .arr 1 5 ((catN ls k ++ ls[k]!.take j).map by_))]) ?_ (Wk.keep hcl ?_ ?_ ?_) fun j hj hFj => ?_; rotate_left 1; (focus (simp [Fr.get, newF, Fr.map, AV.kill, AV.mapN, secRow, bytes, by_] <;> fail)); (focus (simp [sto, newL, Loc.kill, Loc.set, AO.kill, AV.kill, AV.mapN, secRow, bytes, by_] <;> fail)); (focus (simp [newL, Loc.kill, Loc.set, secRow, bytes, by_] <;> fail)); (try have hwj : IntKind.i64.wrap ((j : Int) + 1) = (j : Int) + 1 := IntWalk.i64_in _ (by omega))) | (refine EndX.plain ?_) | (refine nil_split (fun hn => ?_) (fun hn => ?_)) | (refine gcall_no not_false ?_) | (refine gdcall_no not_false ?_) | (refine GuardS_of _ _ _ _ _ _ (fun hg => ?_) (fun hg => ?_)) | (refine GuardD_of _ _ _ _ (fun hg => ?_) (fun hg => ?_)) | (refine CondB_of _ _ _ _ _ _ _ ?_ (fun hg => ?_) (fun hg => ?_)))
  all_goals (try (first | ((first | unfold noN | unfold Fr.below | unfold Loc.below); simp [Fr.allN, AV.allN, AV.allNL, AO.allN]; done) | rfl | trivial | assumption | (intro row hrow; simp only [List.mem_map] at hrow; obtain ⟨x, _, rfl⟩ := hrow; rfl) | (refine Wk.keep hcl ?_ ?_ ?_; (focus (simp [Fr.get, secRow, bytes, by_] <;> fail)); (focus (simp [sto, secRow, bytes, by_] <;> fail)); (focus (simp <;> fail))) | (simp [allP, opd, Fr.get, Fr.below, Fr.allN, AV.allN, AV.allNL, Loc.below, AO.allN, noN, killO, killT, killD, mkNames, AO.kill, AV.kill, AV.mapN, AV.mapNL]; done) | (with_reducible exact ltD (by assumption)) | omega | (simp only [decide_eq_true_eq, decide_eq_false_iff_not] at *; omega)))
  all_goals (first
    | (have hk2 : k < ls.length := ltD (by assumption)
       have hj2 : j < ls[k]!.length := ltD (by assumption)
       have hle := catN_le hk2
       first
       | (simp only [List.length_take]; omega)
       | (rw [take_next hj2, IntWalk.i64_in _ (by omega)]
          refine Wk.keep hcl ?_ ?_ ?_ <;> simp [Fr.get, sto, by_, Nat.add_assoc]))
    | (have hk2 : k < ls.length := ltD (by assumption)
       have hj2 : ls[k]!.length ≤ j := geD (by assumption)
       rw [catN_next hk2, List.take_of_length_le hj2]
       refine Wk.keep hcl ?_ ?_ ?_ <;> simp [Fr.get, sto])
    | (have hk2 : ls.length ≤ k := geD (by assumption)
       simp only [catN, List.take_of_length_le hk2]))
end Go.Proofs.Ytelciiooegiikaa
