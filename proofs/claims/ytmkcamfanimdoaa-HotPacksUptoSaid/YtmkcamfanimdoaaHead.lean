/- The head of a piece on tape; bytes compared. -/
import Derived.Test.YtmkcamfanimdoaaBytes
import Derived.Test.YtmkcamfanimdoaaCodeHead
namespace Go.Proofs.Ytmkcamfanimdoaa
open Go.RowKit
set_option maxHeartbeats 4000000
set_option maxRecDepth 20000
attribute [local irreducible] SW SWL SWLn SWD SEcall SEcallv SDv SE SO1 SOg ACalls ACallv Wk EndV
set_option linter.unusedSimpArgs false
set_option linter.unusedVariables false
def b8 (n : Int) : UInt8 := UInt8.ofNat (n % 256).toNat
theorem b8_wrap (n : Int) : IntKind.u8.wrap n = ((b8 n).toNat : Int) := by
  rw [IntKind.wrap_u8]
  have h : (n % 256).toNat < 256 := by omega
  have : (b8 n).toNat = (n % 256).toNat := by
    unfold b8; rw [UInt8.toNat_ofNat']; exact Nat.mod_eq_of_lt h
  rw [this]; omega
theorem b8_mod (n : Int) : b8 (n % 256) = b8 n := by
  unfold b8; congr 2; omega
def headB (id size : Int) : List UInt8 := [b8 (id / 16777216), b8 (id / 65536), b8 (id / 256), b8 id, b8 (size / 256), b8 size]
theorem fd24 (x : Int) : x.fdiv (2 ^ min 24 IntKind.i64.bits) = x / 16777216 := by
  show x.fdiv 16777216 = _; exact Int.fdiv_eq_ediv_of_nonneg _ (by decide)
theorem fd16 (x : Int) : x.fdiv (2 ^ min 16 IntKind.i64.bits) = x / 65536 := by
  show x.fdiv 65536 = _; exact Int.fdiv_eq_ediv_of_nonneg _ (by decide)
theorem fd8 (x : Int) : x.fdiv (2 ^ min 8 IntKind.i64.bits) = x / 256 := by
  show x.fdiv 256 = _; exact Int.fdiv_eq_ediv_of_nonneg _ (by decide)
theorem head_p (id size : Int) : Pure Try.prog 82 [I id, I size] (.d (bytes (headB id size))) := by
  refine pureZ_of follows Try.func82 c82_eq r82 (Nat.le_of_ble_eq_true rfl) fun B σ hcl hsz => ?_
  clear hsz
  repeat' (first | (simp -implicitDefEqProofs only [*, contN, contC, Nat.reduceBEq, Bool.or_false, Bool.or_true, Bool.false_or, Bool.true_or, Bool.not_true, Bool.not_false, w_skip, w_ret, w_exit, w_reg, w_dreg, w_seq, SK_n, SK_r, SK_x, w_keep, w_block, w_cond, w_nil, w_cons, w_consg, w_nnil, w_ncons, w_dnil, w_dcons, w_dconsg, HK_app, HD_app, HQ_n, HQ_r, HQ_x, HQ_bn, HQ_br, HQ_bx, HQ_en, HQ_er, HQ_ex, CondB_true, CondB_false, SO1, w_sdv, SDe_alloc, SDe_box, SDe_bslice, SDe_app, true_imp_iff, false_imp_iff, and_false, false_and, not_false_eq_true, not_true_eq_false, addN, mkNames, killT, killD, killO, List.foldl_nil, List.foldl_cons, List.append_nil, List.nil_append, List.cons_append, GuardS_true, GuardS_false, GuardD_true, GuardD_false, DK_true, DK_false, lt_self_add, le_self_add, decide_true, decide_false, Bool.false_eq_true, Bool.true_eq_false, Nat.add_left_cancel_iff, SE, SEalloc, SEbox, SEstore, w_bs, SEbl, SEfz, SEbs0, fzName, osOf, AV.fz1, w_app, w_mk, aev, opd, Fr.get, putO, Fr.norm, List.map_cons, List.map_nil, with1, with2, onInt, AV.lit, entry, ↓reduceIte, Nat.reduceEqDiff, Nat.reduceAdd, reduceCtorEq, true_and, and_true, Option.map_some, Option.map_none, Option.bind_some, Option.bind_none, cond_true, cond_false, binV, unV, fieldV, loadV, sto, cellsAV, newF, newL, Fr.map, Loc.kill, Loc.set, AO.kill, AV.kill, AV.mapN, AV.mapNL, List.filter_nil, List.filter_cons, allP, EndV, retV, resV, resL, frz, dropL, AV.pick, nilV, tupV, imp_self, ne_eq, Int.cast_ofNat_Int, Int.reduceLT, Int.reduceToNat, List.getD_cons_zero, List.getD_cons_succ, bsliceV, buildV, afill, repl, chunk, rvs, AV.rv, RV.nrm, List.getElem?_nil, List.append_assoc, Nat.reduceMul, Nat.reducePow, Nat.zero_lt_succ, Nat.zero_add, Nat.add_zero, List.length_cons, List.length_nil, Nat.reduceLeDiff, Nat.le_refl, List.take_succ_cons, List.take_zero, List.drop_succ_cons, List.drop_zero, indexV, lenV, rowOf_mapD, rowOf_mapI, rowOf_mapA, List.length_map, Int.toNat_natCast, List.getElem?_cons_zero, List.getElem?_cons_succ, and_self, implies_true, if_true, if_false, HQ_zn, HQ_zr, HQ_wn, HQ_wr, AV.nz, AV.nzL, RV.nrm, SEbin, SEnil, nilK, srcV, dstV, appName, List.length_append, Nat.mul_one, take_map_len, take_map_app, List.getElem?_cons_zero, List.map_append, c82, r82, v82_1, v82_2, v82_3, v82_4, u82_5, ty3, ty5, ty42, convV, bytes, b8_wrap, fd24, fd16, fd8]) | (with_reducible refine And.intro ?_ ?_) | (refine EndX.plain ?_) | (refine nil_split (fun hn => ?_) (fun hn => ?_)) | (refine gcall_no not_false ?_) | (refine gdcall_no not_false ?_) | (refine GuardS_of _ _ _ _ _ _ (fun hg => ?_) (fun hg => ?_)) | (refine GuardD_of _ _ _ _ (fun hg => ?_) (fun hg => ?_)) | (refine CondB_of _ _ _ _ _ _ _ ?_ (fun hg => ?_) (fun hg => ?_)))
  all_goals (try (first | ((first | unfold noN | unfold Fr.below | unfold Loc.below); simp [Fr.allN, AV.allN, AV.allNL, AO.allN]; done) | rfl | trivial | assumption | (intro row hrow; simp only [List.mem_map] at hrow; obtain ⟨x, _, rfl⟩ := hrow; rfl) | (refine Wk.keep hcl ?_ ?_ ?_; (focus (simp [Fr.get, convV, bytes, b8_wrap, fd24, fd16, fd8] <;> fail)); (focus (simp [sto, convV, bytes, b8_wrap, fd24, fd16, fd8] <;> fail)); (focus (simp <;> fail))) | (simp [allP, opd, Fr.get, Fr.below, Fr.allN, AV.allN, AV.allNL, Loc.below, AO.allN, noN, killO, killT, killD, mkNames, AO.kill, AV.kill, AV.mapN, AV.mapNL]; done) | (with_reducible exact ltD (by assumption)) | omega | (simp only [decide_eq_true_eq, decide_eq_false_iff_not] at *; omega)))
  all_goals rfl
def f1 (k : Nat) : Int := 256 ^ k
def f2 (m k : Nat) : Int := if k < m then 256 ^ (m - 1 - k) else 0
def bigB (n : Int) (m : Nat) : List UInt8 := (List.range m).map fun k => b8 (n / f2 m k)
theorem f1_zero : f1 0 = 1 := rfl
theorem f1_next {k : Nat} (h : k ≤ 3) : IntKind.i64.wrap (f1 k * 256) = f1 (k + 1) := by
  have : k = 0 ∨ k = 1 ∨ k = 2 ∨ k = 3 := by omega
  rcases this with rfl | rfl | rfl | rfl <;> decide
theorem f1_all {m k : Nat} (hm : m = 2 ∨ m = 4) (hk : k ≤ m - 1) (hg : decide ((k : Int) + 1 < m) = false) : f1 k = f2 m 0 := by
  have : k = m - 1 := by simp at hg; omega
  subst this
  rcases hm with rfl | rfl <;> decide
theorem f2_ne {m k : Nat} (hm : m = 2 ∨ m = 4) (h : decide ((k : Int) < m) = true) : (f2 m k = 0) = False := by
  have hk : k < m := by simp at h; omega
  refine eq_false ?_
  rcases hm with rfl | rfl
  · have : k = 0 ∨ k = 1 := by omega
    rcases this with rfl | rfl <;> decide
  · have : k = 0 ∨ k = 1 ∨ k = 2 ∨ k = 3 := by omega
    rcases this with rfl | rfl | rfl | rfl <;> decide
theorem f2_next {m k : Nat} (hm : m = 2 ∨ m = 4) (h : decide ((k : Int) < m) = true) : IntKind.i64.wrap ((f2 m k).tdiv 256) = f2 m (k + 1) := by
  have hk : k < m := by simp at h; omega
  rcases hm with rfl | rfl
  · have : k = 0 ∨ k = 1 := by omega
    rcases this with rfl | rfl <;> decide
  · have : k = 0 ∨ k = 1 ∨ k = 2 ∨ k = 3 := by omega
    rcases this with rfl | rfl | rfl | rfl <;> decide
theorem f2_pos {m k : Nat} (hm : m = 2 ∨ m = 4) (hk : k < m) : 1 ≤ f2 m k := by
  rcases hm with rfl | rfl
  · have : k = 0 ∨ k = 1 := by omega
    rcases this with rfl | rfl <;> decide
  · have : k = 0 ∨ k = 1 ∨ k = 2 ∨ k = 3 := by omega
    rcases this with rfl | rfl | rfl | rfl <;> decide
theorem f2_byte {m k : Nat} {n : Int} (hm : m = 2 ∨ m = 4) (hn : 0 ≤ n ∧ n ≤ 2 ^ 40) (hk : k < m) : IntKind.u8.wrap ((IntKind.i64.wrap (n.tdiv (f2 m k))).tmod 256) = ((b8 (n / f2 m k)).toNat : Int) := by
  have hp := f2_pos hm hk
  have e : n.tdiv (f2 m k) = n / f2 m k := Int.tdiv_eq_ediv_of_nonneg hn.1
  have h0 : 0 ≤ n / f2 m k := Int.ediv_nonneg hn.1 (by omega)
  have h1 : n / f2 m k ≤ n := Int.ediv_le_self _ hn.1
  rw [e, IntWalk.i64_in _ (by omega), IntWalk.rem_in _ _ h0, b8_wrap, b8_mod]
theorem bigB_len (n : Int) (m : Nat) : (bigB n m).length = m := by simp [bigB]
theorem bigB_at {n : Int} {m k : Nat} (h : k < m) : (bigB n m)[k]! = b8 (n / f2 m k) := by simp [bigB, h]
theorem big_p (n : Int) (m : Nat) (hm : m = 2 ∨ m = 4) (hn : 0 ≤ n ∧ n ≤ 2 ^ 40) : Pure Try.prog 116 [I n, I m] (.d (bytes (bigB n m))) := by
  refine pureZ_of follows Try.func116 c116_eq r116 (Nat.le_of_ble_eq_true rfl) fun B σ hcl hsz => ?_
  clear hsz
  have hm4 : m ≤ 4 := by omega
  have q2 : ∀ k : Nat, decide ((k : Int) < m) = true → (f2 m k = 0) = False := fun k hk => f2_ne hm hk
  have q3 : ∀ k : Nat, decide ((k : Int) < m) = true → IntKind.i64.wrap ((f2 m k).tdiv 256) = f2 m (k + 1) := fun k hk => f2_next hm hk
  repeat' (first | (simp -implicitDefEqProofs only [*, contN, contC, Nat.reduceBEq, Bool.or_false, Bool.or_true, Bool.false_or, Bool.true_or, Bool.not_true, Bool.not_false, w_skip, w_ret, w_exit, w_reg, w_dreg, w_seq, SK_n, SK_r, SK_x, w_keep, w_block, w_cond, w_nil, w_cons, w_consg, w_nnil, w_ncons, w_dnil, w_dcons, w_dconsg, HK_app, HD_app, HQ_n, HQ_r, HQ_x, HQ_bn, HQ_br, HQ_bx, HQ_en, HQ_er, HQ_ex, CondB_true, CondB_false, SO1, w_sdv, SDe_alloc, SDe_box, SDe_bslice, SDe_app, true_imp_iff, false_imp_iff, and_false, false_and, not_false_eq_true, not_true_eq_false, addN, mkNames, killT, killD, killO, List.foldl_nil, List.foldl_cons, List.append_nil, List.nil_append, List.cons_append, GuardS_true, GuardS_false, GuardD_true, GuardD_false, DK_true, DK_false, lt_self_add, le_self_add, decide_true, decide_false, Bool.false_eq_true, Bool.true_eq_false, Nat.add_left_cancel_iff, SE, SEalloc, SEbox, SEstore, w_bs, SEbl, SEfz, SEbs0, fzName, osOf, AV.fz1, w_app, w_mk, aev, opd, Fr.get, putO, Fr.norm, List.map_cons, List.map_nil, with1, with2, onInt, AV.lit, entry, ↓reduceIte, Nat.reduceEqDiff, Nat.reduceAdd, reduceCtorEq, true_and, and_true, Option.map_some, Option.map_none, Option.bind_some, Option.bind_none, cond_true, cond_false, binV, unV, fieldV, loadV, sto, cellsAV, newF, newL, Fr.map, Loc.kill, Loc.set, AO.kill, AV.kill, AV.mapN, AV.mapNL, List.filter_nil, List.filter_cons, allP, EndV, retV, resV, resL, frz, dropL, AV.pick, nilV, tupV, imp_self, ne_eq, Int.cast_ofNat_Int, Int.reduceLT, Int.reduceToNat, List.getD_cons_zero, List.getD_cons_succ, bsliceV, buildV, afill, repl, chunk, rvs, AV.rv, RV.nrm, List.getElem?_nil, List.append_assoc, Nat.reduceMul, Nat.reducePow, Nat.zero_lt_succ, Nat.zero_add, Nat.add_zero, List.length_cons, List.length_nil, Nat.reduceLeDiff, Nat.le_refl, List.take_succ_cons, List.take_zero, List.drop_succ_cons, List.drop_zero, indexV, lenV, rowOf_mapD, rowOf_mapI, rowOf_mapA, List.length_map, Int.toNat_natCast, List.getElem?_cons_zero, List.getElem?_cons_succ, and_self, implies_true, if_true, if_false, HQ_zn, HQ_zr, HQ_wn, HQ_wr, AV.nz, AV.nzL, RV.nrm, SEbin, SEnil, nilK, srcV, dstV, appName, List.length_append, Nat.mul_one, take_map_len, take_map_app, List.getElem?_cons_zero, List.map_append, c116, r116, u116_1, u116_2, u116_3, u116_4, u116_5, u116_6, v116_7, v116_8, u116_9, u116_10, u116_11, u116_12, u116_13, u116_14, u116_15, u116_16, u116_17, u116_18, ty3, ty5, ty42, convV, bytes, f1_all hm, f1_zero]) | (with_reducible refine And.intro ?_ ?_) | (refine loop_nat (m - 1) (fun _ => True) (fun k => [(7, I (k + 1)), (0, I n), (1, I m), (6, I (f1 k)), (5, .d (.v (.slice none 0 0)))]) (fun k => []) ?_ (Wk.keep hcl ?_ ?_ ?_) fun k hk hF => ?_; rotate_left 1; (focus (simp [Fr.get, newF, Fr.map, AV.kill, AV.mapN, convV, bytes, f1_all hm, f1_zero] <;> fail)); (focus (simp [sto, newL, Loc.kill, Loc.set, AO.kill, AV.kill, AV.mapN, convV, bytes, f1_all hm, f1_zero] <;> fail)); (focus (simp [newL, Loc.kill, Loc.set, convV, bytes, f1_all hm, f1_zero] <;> fail)); (try have hw : IntKind.i64.wrap ((k : Int) + 1) = (k : Int) + 1 := IntWalk.i64_in _ (by omega))) | (refine loop_nat (m) (fun _ => True) (fun k => [(0, I n), (1, I m), (8, I k), (6, I (f2 m k)), (5, .os (B + 28) ((bigB n m).take k).length)]) (fun k => [(B + 28, .arr 1 5 (((bigB n m).take k).map by_))]) ?_ (Wk.trans (Wk.nameF (s := 5) (n := B + 28) (k := 1) (E := 5) rfl (by omega) (.inl (by omega)) (fun m => AO.kill_below (q := fun m => decide (m < B)) (by simp) _ (hcl m).1)) (Wk.keep hcl ?_ ?_ ?_)) fun k hk hF => ?_; rotate_left 1; (focus (simp [Fr.get, newF, Fr.map, AV.kill, AV.mapN, convV, bytes, f1_all hm, f1_zero] <;> fail)); (focus (simp [sto, newL, Loc.kill, Loc.set, AO.kill, AV.kill, AV.mapN, convV, bytes, f1_all hm, f1_zero] <;> fail)); (focus (simp [newL, Loc.kill, Loc.set, convV, bytes, f1_all hm, f1_zero] <;> fail)); (try have hw : IntKind.i64.wrap ((k : Int) + 1) = (k : Int) + 1 := IntWalk.i64_in _ (by omega))) | (refine EndX.plain ?_) | (refine nil_split (fun hn => ?_) (fun hn => ?_)) | (refine gcall_no not_false ?_) | (refine gdcall_no not_false ?_) | (refine GuardS_of _ _ _ _ _ _ (fun hg => ?_) (fun hg => ?_)) | (refine GuardD_of _ _ _ _ (fun hg => ?_) (fun hg => ?_)) | (refine CondB_of _ _ _ _ _ _ _ ?_ (fun hg => ?_) (fun hg => ?_)))
  all_goals (try (first | ((first | unfold noN | unfold Fr.below | unfold Loc.below); simp [Fr.allN, AV.allN, AV.allNL, AO.allN]; done) | rfl | trivial | assumption | (intro row hrow; simp only [List.mem_map] at hrow; obtain ⟨x, _, rfl⟩ := hrow; rfl) | (refine Wk.keep hcl ?_ ?_ ?_; (focus (simp [Fr.get, convV, bytes, f1_all hm, f1_zero] <;> fail)); (focus (simp [sto, convV, bytes, f1_all hm, f1_zero] <;> fail)); (focus (simp <;> fail))) | (simp [allP, opd, Fr.get, Fr.below, Fr.allN, AV.allN, AV.allNL, Loc.below, AO.allN, noN, killO, killT, killD, mkNames, AO.kill, AV.kill, AV.mapN, AV.mapNL]; done) | (with_reducible exact ltD (by assumption)) | omega | (simp only [decide_eq_true_eq, decide_eq_false_iff_not] at *; omega)))
  all_goals first
    | (simp only [List.length_take, bigB_len]; omega)
    | (have hk1 : k + 1 < m := by simp at hg; omega
       rw [IntWalk.i64_in ((k : Int) + 1 + 1) (by omega), f1_next (k := k) (by omega)]
       refine Wk.keep hcl (by simp [Fr.get]) (by simp [sto]) (by simp))
    | (have hk1 : k < m := by simp at hg; omega
       have hk2 : k < (bigB n m).length := by rw [bigB_len]; exact hk1
       rw [f2_byte hm hn hk1, take_next hk2, bigB_at hk1]
       refine Wk.keep hcl (by simp [Fr.get]) (by simp [sto, by_]) (by simp))
    | (have hk1 : m ≤ k := by simp at hg; omega
       rw [List.take_of_length_le (by rw [bigB_len]; exact hk1)])
theorem equal_p (a b : List UInt8) : Pure Try.prog 92 [.d (bytes a), .d (bytes b)] (Bo (a == b)) := by
  refine pure_of follows Try.func92 c92_eq r92 (Nat.le_of_ble_eq_true rfl) fun B σ hcl hsz => ?_
  have hlen : a.length ≤ 2 ^ 47 := by simpa using (show Sized (bytes a) from hsz (.d (bytes a)) (by simp)).len
  have hlen2 : b.length ≤ 2 ^ 47 := by simpa using (show Sized (bytes b) from hsz (.d (bytes b)) (by simp)).len
  clear hsz
  have hne : b.length ≠ a.length → ((a.length : Int) != (b.length : Int)) = true := fun h => by simp; omega
  by_cases hl : b.length = a.length
  all_goals (try (have hne' := hne (by assumption)))
  clear hne
  repeat' (first | (simp -implicitDefEqProofs only [*, contN, contC, Nat.reduceBEq, Bool.or_false, Bool.or_true, Bool.false_or, Bool.true_or, Bool.not_true, Bool.not_false, w_skip, w_ret, w_exit, w_reg, w_dreg, w_seq, SK_n, SK_r, SK_x, w_keep, w_block, w_cond, w_nil, w_cons, w_consg, w_nnil, w_ncons, w_dnil, w_dcons, w_dconsg, HK_app, HD_app, HQ_n, HQ_r, HQ_x, HQ_bn, HQ_br, HQ_bx, HQ_en, HQ_er, HQ_ex, CondB_true, CondB_false, SO1, w_sdv, SDe_alloc, SDe_box, SDe_bslice, SDe_app, true_imp_iff, false_imp_iff, and_false, false_and, not_false_eq_true, not_true_eq_false, addN, mkNames, killT, killD, killO, List.foldl_nil, List.foldl_cons, List.append_nil, List.nil_append, List.cons_append, GuardS_true, GuardS_false, GuardD_true, GuardD_false, DK_true, DK_false, lt_self_add, le_self_add, decide_true, decide_false, Bool.false_eq_true, Bool.true_eq_false, Nat.add_left_cancel_iff, SE, SEalloc, SEbox, SEstore, w_bs, SEbl, SEfz, SEbs0, fzName, osOf, AV.fz1, w_app, w_mk, aev, opd, Fr.get, putO, Fr.norm, List.map_cons, List.map_nil, with1, with2, onInt, AV.lit, entry, ↓reduceIte, Nat.reduceEqDiff, Nat.reduceAdd, reduceCtorEq, true_and, and_true, Option.map_some, Option.map_none, Option.bind_some, Option.bind_none, cond_true, cond_false, binV, unV, fieldV, loadV, sto, cellsAV, newF, newL, Fr.map, Loc.kill, Loc.set, AO.kill, AV.kill, AV.mapN, AV.mapNL, List.filter_nil, List.filter_cons, allP, EndV, retV, resV, resL, frz, dropL, AV.pick, nilV, tupV, imp_self, ne_eq, Int.cast_ofNat_Int, Int.reduceLT, Int.reduceToNat, List.getD_cons_zero, List.getD_cons_succ, bsliceV, buildV, afill, repl, chunk, rvs, AV.rv, RV.nrm, List.getElem?_nil, List.append_assoc, Nat.reduceMul, Nat.reducePow, Nat.zero_lt_succ, Nat.zero_add, Nat.add_zero, List.length_cons, List.length_nil, Nat.reduceLeDiff, Nat.le_refl, List.take_succ_cons, List.take_zero, List.drop_succ_cons, List.drop_zero, indexV, lenV, rowOf_mapD, rowOf_mapI, rowOf_mapA, List.length_map, Int.toNat_natCast, List.getElem?_cons_zero, List.getElem?_cons_succ, and_self, implies_true, if_true, if_false, HQ_zn, HQ_zr, HQ_wn, HQ_wr, AV.nz, AV.nzL, RV.nrm, SEbin, SEnil, nilK, srcV, dstV, appName, List.length_append, Nat.mul_one, take_map_len, take_map_app, List.getElem?_cons_zero, List.map_append, c92, r92, u92_1, u92_2, v92_3, v92_4, v92_5, m92_5, u92_6, u92_7, u92_8, u92_9, u92_10, u92_11, u92_12, u92_13, u92_14, u92_15, u92_16, ty42, ty3, ty5, bytes, by_, bne_self_eq_false]) | (with_reducible refine And.intro ?_ ?_) | (refine loop_nat (a.length) (fun k => ∀ i, i < k → a[i]! = b[i]!) (fun k => [(0, .d (bytes a)), (1, .d (bytes b)), (12, I a.length), (13, I k)]) (fun k => []) ?_ (Wk.keep hcl ?_ ?_ ?_) fun k hk hF => ?_; rotate_left 1; (focus (simp [Fr.get, newF, Fr.map, AV.kill, AV.mapN, bytes, by_, bne_self_eq_false] <;> fail)); (focus (simp [sto, newL, Loc.kill, Loc.set, AO.kill, AV.kill, AV.mapN, bytes, by_, bne_self_eq_false] <;> fail)); (focus (simp [newL, Loc.kill, Loc.set, bytes, by_, bne_self_eq_false] <;> fail)); (try have hw : IntKind.i64.wrap ((k : Int) + 1) = (k : Int) + 1 := IntWalk.i64_in _ (by omega))) | (refine EndX.plain ?_) | (refine nil_split (fun hn => ?_) (fun hn => ?_)) | (refine gcall_no not_false ?_) | (refine gdcall_no not_false ?_) | (refine GuardS_of _ _ _ _ _ _ (fun hg => ?_) (fun hg => ?_)) | (refine GuardD_of _ _ _ _ (fun hg => ?_) (fun hg => ?_)) | (refine CondB_of _ _ _ _ _ _ _ ?_ (fun hg => ?_) (fun hg => ?_)))
  all_goals (try (first | ((first | unfold noN | unfold Fr.below | unfold Loc.below); simp [Fr.allN, AV.allN, AV.allNL, AO.allN]; done) | rfl | trivial | assumption | (intro row hrow; simp only [List.mem_map] at hrow; obtain ⟨x, _, rfl⟩ := hrow; rfl) | (refine Wk.keep hcl ?_ ?_ ?_; (focus (simp [Fr.get, bytes, by_, bne_self_eq_false] <;> fail)); (focus (simp [sto, bytes, by_, bne_self_eq_false] <;> fail)); (focus (simp <;> fail))) | (simp [allP, opd, Fr.get, Fr.below, Fr.allN, AV.allN, AV.allNL, Loc.below, AO.allN, noN, killO, killT, killD, mkNames, AO.kill, AV.kill, AV.mapN, AV.mapNL]; done) | (with_reducible exact ltD (by assumption)) | omega | (simp only [decide_eq_true_eq, decide_eq_false_iff_not] at *; omega)))
  all_goals first
    | (intro i hi
       rcases Nat.lt_or_eq_of_le (Nat.le_of_lt_succ hi) with h | rfl
       · exact hF i h
       · have hg' := hg
         simp only [bne_eq_false_iff_eq] at hg'
         exact UInt8.toNat_inj.1 (by omega))
    | (have e : (a == b) = false := by
         refine beq_false_of_ne ?_
         rintro rfl
         first | exact absurd rfl hl | (simp at hg)
       rw [e])
    | (have e : a = b := by
         have hk' : a.length ≤ k := by simp at hg; omega
         refine List.ext_getElem hl.symm fun i h1 h2 => ?_
         have := hF i (by omega)
         simpa [h1, h2] using this
       subst e; simp)
end Go.Proofs.Ytmkcamfanimdoaa
