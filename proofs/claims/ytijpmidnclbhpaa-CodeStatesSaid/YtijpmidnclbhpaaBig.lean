/- The reference's numbers as bytes. -/
import Derived.Test.YtijpmidnclbhpaaNum0
import Derived.Test.YtijpmidnclbhpaaJoin
import Derived.Test.YtijpmidnclbhpaaTypes
namespace Go.Proofs.Ytijpmidnclbhpaa
open Go.RowKit
set_option maxRecDepth 100000
def c21_1 : SC := (.cond (.tmp 11) .skip (.exit 0))
theorem u21_1 : type_of% (@swc _ _ c21_1.eq_1) := @swc _ _ c21_1.eq_1
def c21_2 : SC := (.reg [SO.mk (some 12) (.move (.tmp 7)) none, SO.mk (some 13) (.bin .add 3 (.tmp 12) (.const (Value.int .i64 1))) none, SO.mk (some 7) (.move (.tmp 13)) none])
theorem u21_2 : type_of% (@swc _ _ c21_2.eq_1) := @swc _ _ c21_2.eq_1
def c21_3 : SC := (.seq (.block 1 (.reg [SO.mk (some 14) (.move (.tmp 6)) none, SO.mk (some 15) (.bin .mul 3 (.tmp 14) (.const (Value.int .i64 256))) none, SO.mk (some 6) (.move (.tmp 15)) none])) (.keep [7, 0, 1, 6, 5] c21_2))
theorem u21_3 : type_of% (@swc _ _ c21_3.eq_1) := @swc _ _ c21_3.eq_1
def c21_4 : SC := (.seq (.seq (.reg [SO.mk (some 9) (.move (.tmp 7)) none, SO.mk (some 10) (.move (.tmp 1)) none, SO.mk (some 11) (.bin .lss 3 (.tmp 9) (.tmp 10)) none]) (.keep [11, 7, 0, 1, 6, 5] c21_1)) (.keep [6, 7, 0, 1, 5] c21_3))
theorem u21_4 : type_of% (@swc _ _ c21_4.eq_1) := @swc _ _ c21_4.eq_1
def c21_5 : SC := (.block 0 (.loop (.keep [7, 0, 1, 6, 5] c21_4)))
theorem u21_5 : type_of% (@swc _ _ c21_5.eq_1) := @swc _ _ c21_5.eq_1
def c21_6 : SC := (.cond (.tmp 18) .skip (.exit 2))
theorem u21_6 : type_of% (@swc _ _ c21_6.eq_1) := @swc _ _ c21_6.eq_1
def o21_7 : List SO := ((SO.mk (some 5) (.move (.tmp 28)) none) :: [])
theorem v21_7 : type_of% (@swl _ _ o21_7.eq_1) := @swl _ _ o21_7.eq_1
def o21_8 : List SO := ((SO.mk (some 25) (.bin .rem 3 (.tmp 24) (.const (Value.int .i64 256))) none) :: (SO.mk (some 26) (.conv 3 5 (.tmp 25)) none) :: (SO.mk (some 27) (.bslice 29 1 [(0 , (.tmp 26))]) none) :: (SO.mk (some 28) (.app 29 29 (.tmp 21) (.tmp 27)) none) :: o21_7)
theorem v21_8 : type_of% (@swl _ _ o21_8.eq_1) := @swl _ _ o21_8.eq_1
def c21_9 : SC := (.reg [SO.mk (some 29) (.move (.tmp 6)) none, SO.mk (some 30) (.bin .quo 3 (.tmp 29) (.const (Value.int .i64 256))) none, SO.mk (some 6) (.move (.tmp 30)) none])
theorem u21_9 : type_of% (@swc _ _ c21_9.eq_1) := @swc _ _ c21_9.eq_1
def c21_10 : SC := (.reg [SO.mk (some 19) (.move (.tmp 8)) none, SO.mk (some 20) (.bin .add 3 (.tmp 19) (.const (Value.int .i64 1))) none, SO.mk (some 8) (.move (.tmp 20)) none])
theorem u21_10 : type_of% (@swc _ _ c21_10.eq_1) := @swc _ _ c21_10.eq_1
def c21_11 : SC := (.seq (.block 3 (.seq (.reg ((SO.mk (some 21) (.move (.tmp 5)) none) :: (SO.mk (some 22) (.move (.tmp 0)) none) :: (SO.mk (some 23) (.move (.tmp 6)) none) :: (SO.mk (some 24) (.bin .quo 3 (.tmp 22) (.tmp 23)) none) :: o21_8)) (.keep [6, 8, 1, 0, 5] c21_9))) (.keep [8, 1, 6, 0, 5] c21_10))
theorem u21_11 : type_of% (@swc _ _ c21_11.eq_1) := @swc _ _ c21_11.eq_1
def c21_12 : SC := (.seq (.seq (.reg [SO.mk (some 16) (.move (.tmp 8)) none, SO.mk (some 17) (.move (.tmp 1)) none, SO.mk (some 18) (.bin .lss 3 (.tmp 16) (.tmp 17)) none]) (.keep [18, 0, 1, 8, 6, 5] c21_6)) (.keep [5, 6, 8, 1, 0] c21_11))
theorem u21_12 : type_of% (@swc _ _ c21_12.eq_1) := @swc _ _ c21_12.eq_1
def c21_13 : SC := (.block 2 (.loop (.keep [0, 1, 8, 6, 5] c21_12)))
theorem u21_13 : type_of% (@swc _ _ c21_13.eq_1) := @swc _ _ c21_13.eq_1
def c21_14 : SC := (.seq (.reg [SO.mk (some 31) (.move (.tmp 5)) none, SO.mk (some 4) (.move (.tmp 31)) none]) (.keep [4] .ret))
theorem u21_14 : type_of% (@swc _ _ c21_14.eq_1) := @swc _ _ c21_14.eq_1
def c21_15 : SC := (.seq (.seq (.reg [SO.mk (some 8) (.move (.const (Value.int .i64 0))) none]) (.keep [0, 1, 8, 6, 5] c21_13)) (.keep [5] c21_14))
theorem u21_15 : type_of% (@swc _ _ c21_15.eq_1) := @swc _ _ c21_15.eq_1
def c21_16 : SC := (.seq (.seq (.reg [SO.mk (some 7) (.move (.const (Value.int .i64 1))) none]) (.keep [7, 0, 1, 6, 5] c21_5)) (.keep [0, 1, 6, 5] c21_15))
theorem u21_16 : type_of% (@swc _ _ c21_16.eq_1) := @swc _ _ c21_16.eq_1
def c21_17 : SC := (.seq (.reg [SO.mk (some 6) (.move (.const (Value.int .i64 1))) none]) (.keep [0, 1, 6, 5] c21_16))
theorem u21_17 : type_of% (@swc _ _ c21_17.eq_1) := @swc _ _ c21_17.eq_1
def c21_18 : SC := (.seq (.reg [SO.mk (some 5) (.move (.const (Value.slice none 0 0))) none]) (.keep [0, 1, 5] c21_17))
theorem u21_18 : type_of% (@swc _ _ c21_18.eq_1) := @swc _ _ c21_18.eq_1
def c21 : SC := (.seq (.reg [SO.mk (some 4) (.move (.const (Value.slice none 0 0))) none]) (.keep [0, 1] c21_18))
theorem c21_eq : annC Try.f21 = some c21 := by kernel_rfl
theorem r21 : Try.f21.results.toList = [.tmp 4] := by kernel_rfl
theorem e21 : enters Try.prog 21 = true := by kernel_rfl
end Go.Proofs.Ytijpmidnclbhpaa
namespace Go.Proofs.Ytijpmidnclbhpaa
open Go.RowKit
set_option maxHeartbeats 4000000
set_option maxRecDepth 20000
attribute [local irreducible] SW SWL SWLn SWD SEcall SEcallv SDv SE SO1 SOg ACalls ACallv Wk EndV
set_option linter.unusedSimpArgs false
set_option linter.unusedVariables false
theorem bigN_p (n : Int) (m : Nat) (h1 : 1 ≤ m) (h2 : m ≤ 4) (hn : 0 ≤ n ∧ n ≤ 2 ^ 40) : Pure Try.prog 21 [I n, I m] (.d (bytes (bigB n m))) := by
  refine pureZ_of follows Try.func21 c21_eq r21 (Nat.le_of_ble_eq_true rfl) fun B σ hcl hsz => ?_
  clear hsz
  have q2 : ∀ k : Nat, decide ((k : Int) < m) = true → (f2 m k = 0) = False := fun k hk => g2_ne h1 h2 hk
  have q3 : ∀ k : Nat, decide ((k : Int) < m) = true → IntKind.i64.wrap ((f2 m k).tdiv 256) = f2 m (k + 1) := fun k hk => g2_next h1 h2 hk
  repeat' (first | (simp -implicitDefEqProofs only [*, contN, contC, Nat.reduceBEq, Bool.or_false, Bool.or_true, Bool.false_or, Bool.true_or, Bool.not_true, Bool.not_false, SEconv, w_skip, w_ret, w_exit, w_reg, w_dreg, w_seq, SK_n, SK_r, SK_x, w_keep, w_block, w_cond, w_nil, w_cons, w_consg, w_nnil, w_ncons, w_dnil, w_dcons, w_dconsg, HK_app, HD_app, HQ_n, HQ_r, HQ_x, HQ_bn, HQ_br, HQ_bx, HQ_en, HQ_er, HQ_ex, CondB_true, CondB_false, SO1, w_sdv, SDe_alloc, SDe_box, SDe_bslice, SDe_app, true_imp_iff, false_imp_iff, and_false, false_and, not_false_eq_true, not_true_eq_false, addN, mkNames, killT, killD, killO, List.foldl_nil, List.foldl_cons, List.append_nil, List.nil_append, List.cons_append, GuardS_true, GuardS_false, GuardD_true, GuardD_false, DK_true, DK_false, lt_self_add, le_self_add, decide_true, decide_false, Bool.false_eq_true, Bool.true_eq_false, Nat.add_left_cancel_iff, SE, SEalloc, SEbox, SEstore, w_bs, SEbl, SEfz, SEbs0, fzName, osOf, AV.fz1, w_app, w_mk, aev, opd, Fr.get, putO, Fr.norm, List.map_cons, List.map_nil, with1, with2, onInt, AV.lit, entry, ↓reduceIte, Nat.reduceEqDiff, Nat.reduceAdd, reduceCtorEq, true_and, and_true, Option.map_some, Option.map_none, Option.bind_some, Option.bind_none, cond_true, cond_false, binV, unV, fieldV, loadV, sto, cellsAV, newF, newL, Fr.map, Loc.kill, Loc.set, AO.kill, AV.kill, AV.mapN, AV.mapNL, List.filter_nil, List.filter_cons, allP, EndV, retV, resV, resL, frz, dropL, AV.pick, nilV, tupV, imp_self, ne_eq, Int.cast_ofNat_Int, Int.reduceLT, Int.reduceToNat, List.getD_cons_zero, List.getD_cons_succ, bsliceV, buildV, afill, repl, chunk, rvs, AV.rv, RV.nrm, List.getElem?_nil, List.append_assoc, Nat.reduceMul, Nat.reducePow, Nat.zero_lt_succ, Nat.zero_add, Nat.add_zero, List.length_cons, List.length_nil, Nat.reduceLeDiff, Nat.le_refl, List.take_succ_cons, List.take_zero, List.drop_succ_cons, List.drop_zero, indexV, lenV, rowOf_mapD, rowOf_mapI, rowOf_mapA, List.length_map, Int.toNat_natCast, List.getElem?_cons_zero, List.getElem?_cons_succ, and_self, implies_true, if_true, if_false, HQ_zn, HQ_zr, HQ_wn, HQ_wr, AV.nz, AV.nzL, RV.nrm, SEbin, SEnil, nilK, srcV, dstV, appName, List.length_append, Nat.mul_one, take_map_len, take_map_app, List.getElem?_cons_zero, List.map_append, SEmkmap, SEmset, mgetV, kvOf, getM, setM, c21, r21, u21_1, u21_2, u21_3, u21_4, u21_5, u21_6, v21_7, v21_8, u21_9, u21_10, u21_11, u21_12, u21_13, u21_14, u21_15, u21_16, u21_17, u21_18, ty3, ty5, ty29, convV, bytes, g1_all h1 h2, f1_zero]) | (with_reducible refine And.intro ?_ ?_) | (refine loop_nat (m - 1) (fun _ => True) (fun k => [(7, I (k + 1)), (0, I n), (1, I m), (6, I (f1 k)), (5, .d (.v (.slice none 0 0)))]) (fun k => []) ?_ (Wk.keep hcl ?_ ?_ ?_) fun k hk hF => ?_; rotate_left 1; (focus (simp [Fr.get, newF, Fr.map, AV.kill, AV.mapN, convV, bytes, g1_all h1 h2, f1_zero] <;> fail)); (focus (simp [sto, newL, Loc.kill, Loc.set, AO.kill, AV.kill, AV.mapN, convV, bytes, g1_all h1 h2, f1_zero] <;> fail)); (focus (simp [newL, Loc.kill, Loc.set, convV, bytes, g1_all h1 h2, f1_zero] <;> fail)); (try have hw : IntKind.i64.wrap ((k : Int) + 1) = (k : Int) + 1 := IntWalk.i64_in _ (by omega))) | (refine loop_nat (m) (fun _ => True) (fun k => [(0, I n), (1, I m), (8, I k), (6, I (f2 m k)), (5, .os (B + 28) ((bigB n m).take k).length)]) (fun k => [(B + 28, .arr 1 5 (((bigB n m).take k).map by_))]) ?_ (Wk.trans (Wk.nameF (s := 5) (n := B + 28) (k := 1) (E := 5) rfl (by omega) (.inl (by omega)) (fun m => AO.kill_below (q := fun m => decide (m < B)) (by simp) _ (hcl m).1)) (Wk.keep hcl ?_ ?_ ?_)) fun k hk hF => ?_; rotate_left 1; (focus (simp [Fr.get, newF, Fr.map, AV.kill, AV.mapN, convV, bytes, g1_all h1 h2, f1_zero] <;> fail)); (focus (simp [sto, newL, Loc.kill, Loc.set, AO.kill, AV.kill, AV.mapN, convV, bytes, g1_all h1 h2, f1_zero] <;> fail)); (focus (simp [newL, Loc.kill, Loc.set, convV, bytes, g1_all h1 h2, f1_zero] <;> fail)); (try have hw : IntKind.i64.wrap ((k : Int) + 1) = (k : Int) + 1 := IntWalk.i64_in _ (by omega))) | (refine EndX.plain ?_) | (refine nil_split (fun hn => ?_) (fun hn => ?_)) | (refine gcall_no not_false ?_) | (refine gdcall_no not_false ?_) | (refine GuardS_of _ _ _ _ _ _ (fun hg => ?_) (fun hg => ?_)) | (refine GuardD_of _ _ _ _ (fun hg => ?_) (fun hg => ?_)) | (refine CondB_of _ _ _ _ _ _ _ ?_ (fun hg => ?_) (fun hg => ?_)))
  all_goals (try (first | ((first | unfold noN | unfold Fr.below | unfold Loc.below); simp [Fr.allN, AV.allN, AV.allNL, AO.allN]; done) | rfl | trivial | assumption | (intro row hrow; simp only [List.mem_map] at hrow; obtain ⟨x, _, rfl⟩ := hrow; rfl) | (refine Wk.keep hcl ?_ ?_ ?_; (focus (simp [Fr.get, convV, bytes, g1_all h1 h2, f1_zero] <;> fail)); (focus (simp [sto, convV, bytes, g1_all h1 h2, f1_zero] <;> fail)); (focus (simp <;> fail))) | (simp [allP, opd, Fr.get, Fr.below, Fr.allN, AV.allN, AV.allNL, Loc.below, AO.allN, noN, killO, killT, killD, mkNames, AO.kill, AV.kill, AV.mapN, AV.mapNL]; done) | (with_reducible exact ltD (by assumption)) | omega | (simp only [decide_eq_true_eq, decide_eq_false_iff_not] at *; omega)))
  all_goals first
    | (simp only [List.length_take, bigB_len]; omega)
    | (have hk1 : k + 1 < m := by simp at hg; omega
       rw [IntWalk.i64_in ((k : Int) + 1 + 1) (by omega), f1_next (k := k) (by omega)]
       refine Wk.keep hcl (by simp [Fr.get]) (by simp [sto]) (by simp))
    | (have hk1 : k < m := by simp at hg; omega
       have hk2 : k < (bigB n m).length := by rw [bigB_len]; exact hk1
       rw [g2_byte h1 h2 hn hk1, take_next hk2, bigB_at hk1]
       refine Wk.keep hcl (by simp [Fr.get]) (by simp [sto, by_]) (by simp))
    | (have hk1 : m ≤ k := by simp at hg; omega
       rw [List.take_of_length_le (by rw [bigB_len]; exact hk1)])
end Go.Proofs.Ytijpmidnclbhpaa
