/- A journal read from a sector. -/
import Derived.Test.YtalhjhmphdgaoaaRvA
import Derived.Test.YtalhjhmphdgaoaaJrn
import Derived.Test.YtalhjhmphdgaoaaTypes
namespace Go.Proofs.Ytalhjhmphdgaoaa
open Go.RowKit
set_option maxRecDepth 100000
def o59_1 : List SO := ((SO.mk (some 25) (.slice 29 (.tmp 24) (some (.const (Value.int .i64 15))) (some (.const (Value.int .i64 19)))) none) :: (SO.mk (some 26) (.call 73 [(.tmp 25)]) none) :: (SO.mk (some 27) (.build 45 [(0 , (.tmp 11)), (1 , (.tmp 14)), (2 , (.tmp 17)), (3 , (.tmp 20)), (4 , (.tmp 23)), (5 , (.tmp 26))]) none) :: (SO.mk (some 8) (.alloc 45) none) :: [])
theorem v59_1 : type_of% (@swd _ _ o59_1.eq_1) := @swd _ _ o59_1.eq_1
def o59_2 : List SO := ((SO.mk (some 21) (.move (.tmp 2)) none) :: (SO.mk (some 22) (.slice 29 (.tmp 21) (some (.const (Value.int .i64 13))) (some (.const (Value.int .i64 15)))) none) :: (SO.mk (some 23) (.call 73 [(.tmp 22)]) none) :: (SO.mk (some 24) (.move (.tmp 2)) none) :: o59_1)
theorem v59_2 : type_of% (@swd _ _ o59_2.eq_1) := @swd _ _ o59_2.eq_1
def o59_3 : List SO := ((SO.mk (some 17) (.call 73 [(.tmp 16)]) none) :: (SO.mk (some 18) (.move (.tmp 2)) none) :: (SO.mk (some 19) (.slice 29 (.tmp 18) (some (.const (Value.int .i64 9))) (some (.const (Value.int .i64 13)))) none) :: (SO.mk (some 20) (.call 73 [(.tmp 19)]) none) :: o59_2)
theorem v59_3 : type_of% (@swd _ _ o59_3.eq_1) := @swd _ _ o59_3.eq_1
def o59_4 : List SO := ((SO.mk (some 13) (.slice 29 (.tmp 12) (some (.const (Value.int .i64 4))) (some (.const (Value.int .i64 8)))) none) :: (SO.mk (some 14) (.call 73 [(.tmp 13)]) none) :: (SO.mk (some 15) (.move (.tmp 2)) none) :: (SO.mk (some 16) (.slice 29 (.tmp 15) (some (.const (Value.int .i64 8))) (some (.const (Value.int .i64 9)))) none) :: o59_3)
theorem v59_4 : type_of% (@swd _ _ o59_4.eq_1) := @swd _ _ o59_4.eq_1
def o59_5 : List SO := ((SO.mk (some 9) (.move (.tmp 2)) none) :: (SO.mk (some 10) (.slice 29 (.tmp 9) none (some (.const (Value.int .i64 4)))) none) :: (SO.mk (some 11) (.call 73 [(.tmp 10)]) none) :: (SO.mk (some 12) (.move (.tmp 2)) none) :: o59_4)
theorem v59_5 : type_of% (@swd _ _ o59_5.eq_1) := @swd _ _ o59_5.eq_1
theorem m59_5 (B : Nat) : mkNames B o59_5 = [B + 8] := (rfl)
def o59_6 : List SO := ((SO.mk (some 32) (.faddr 45 (.tmp 8) 6) none) :: (SO.mk none (.store 3 (.tmp 32) (.tmp 29)) none) :: (SO.mk (some 33) (.faddr 45 (.tmp 8) 7) none) :: (SO.mk none (.store 3 (.tmp 33) (.tmp 31)) none) :: [])
theorem v59_6 : type_of% (@swl _ _ o59_6.eq_1) := @swl _ _ o59_6.eq_1
def c59_7 : SC := (.seq (.dreg true [SO.mk (some 34) (.load 45 (.tmp 8)) none, SO.mk (some 35) (.load 23 (.tmp 3)) none, SO.mk (some 36) (.load 45 (.tmp 8)) none, SO.mk (some 37) (.call 74 [(.tmp 35), (.tmp 36)]) none, SO.mk (some 38) (.bin .eql 30 (.tmp 37) (.const (Value.int .i64 0))) none, SO.mk (some 39) (.move (.tmp 38)) none, SO.mk (some 40) (.faddr 45 (.tmp 8) 0) (some (39 , true)), SO.mk (some 41) (.load 3 (.tmp 40)) (some (39 , true)), SO.mk (some 42) (.bin .rem 3 (.tmp 41) (.const (Value.int .i64 2))) (some (39 , true)), SO.mk (some 43) (.move (.tmp 1)) (some (39 , true)), SO.mk (some 44) (.bin .eql 3 (.tmp 42) (.tmp 43)) (some (39 , true)), SO.mk (some 45) (.pick (.tmp 39) (.tmp 44) (.const (Value.bool false))) none] [SO.mk none (.store 45 (.tmp 6) (.tmp 34)) none, SO.mk (some 7) (.move (.tmp 45)) none]) (.keep [6, 7] .ret))
theorem u59_7 : type_of% (@swc _ _ c59_7.eq_1) := @swc _ _ c59_7.eq_1
def c59_8 : SC := (.seq (.reg ((SO.mk (some 28) (.faddr 45 (.tmp 8) 4) none) :: (SO.mk (some 29) (.load 3 (.tmp 28)) none) :: (SO.mk (some 30) (.faddr 45 (.tmp 8) 5) none) :: (SO.mk (some 31) (.load 3 (.tmp 30)) none) :: o59_6)) (.keep [3, 8, 1, 6] c59_7))
theorem u59_8 : type_of% (@swc _ _ c59_8.eq_1) := @swc _ _ c59_8.eq_1
def c59_9 : SC := (.seq (.dreg false o59_5 [SO.mk none (.store 45 (.tmp 8) (.tmp 27)) none]) (.keep [3, 8, 1, 6] c59_8))
theorem u59_9 : type_of% (@swc _ _ c59_9.eq_1) := @swc _ _ c59_9.eq_1
def c59 : SC := (.seq (.reg [SO.mk (some 3) (.box 23 (.tmp 0)) none, SO.mk (some 6) (.alloc 45) none, SO.mk (some 7) (.move (.const (Value.bool false))) none]) (.keep [2, 3, 1, 6] c59_9))
theorem c59_eq : annC Try.f59 = some c59 := by kernel_rfl
theorem r59 : Try.f59.results.toList = [.cell 6 45, .tmp 7] := by kernel_rfl
theorem e59 : enters Try.prog 59 = true := by kernel_rfl
end Go.Proofs.Ytalhjhmphdgaoaa
namespace Go.Proofs.Ytalhjhmphdgaoaa
open Go.RowKit
set_option maxHeartbeats 4000000
set_option maxRecDepth 20000
attribute [local irreducible] SW SWL SWLn SWD SEcall SEcallv SDv SE SO1 SOg ACalls ACallv Wk EndV
set_option linter.unusedSimpArgs false
set_option linter.unusedVariables false
def nA (b : List UInt8) (lo n : Nat) : Int := numK ((b.drop lo).take n) n
def unsJ (b : List UInt8) : JrnD := ⟨nA b 0 4, nA b 4 4, nA b 8 1, nA b 9 4, nA b 13 2, nA b 15 4, nA b 13 2, nA b 15 4, 0⟩
theorem value_at (b : List UInt8) (hb : b.length = 64) (lo n : Nat) (h1 : lo + n ≤ 64) (h2 : n ≤ 4) : Pure Try.prog 73 [.d (.ro (((b.drop lo).take n).map by_))] (I (nA b lo n)) := by
  have e : ((b.drop lo).take n).length = n := by simp; omega
  have := value_p ((b.drop lo).take n) (by omega)
  rw [e] at this
  exact this
theorem small_at (b : List UInt8) (hb : b.length = 64) (lo n : Nat) (h1 : lo + n ≤ 64) (h2 : n ≤ 4) : Pure Try.prog 42 [.d (.ro (((b.drop lo).take n).map by_))] (I (nA b lo n)) := by
  have e : ((b.drop lo).take n).length = n := by simp; omega
  have := small_p ((b.drop lo).take n) (by omega)
  rw [e] at this
  exact this
theorem Rows_byV (l : List UInt8) : Rows (l.map by_) 1 = True := by
  refine eq_true ?_
  intro r hr
  simp only [List.mem_map] at hr; obtain ⟨x, _, rfl⟩ := hr; rfl
theorem unsuper_p (g : GeoD) (a : Int) (b : List UInt8) (hb : b.length = 64) : Pure Try.prog 59 [g.av, I a, .d (bytes b)] (.tup [(unsJ b).av, Bo (jrnF g (unsJ b) == 0 && (unsJ b).gen.tmod 2 == a)]) := by
  refine pure_of follows Try.func59 c59_eq r59 (Nat.le_of_ble_eq_true rfl) fun B σ hcl hsz => ?_
  clear hsz
  repeat' (first | (simp -implicitDefEqProofs only [*, contN, contC, Nat.reduceBEq, Bool.or_false, Bool.or_true, Bool.false_or, Bool.true_or, Bool.not_true, Bool.not_false, w_skip, w_ret, w_exit, w_reg, w_dreg, w_seq, SK_n, SK_r, SK_x, w_keep, w_block, w_cond, w_nil, w_cons, w_consg, w_nnil, w_ncons, w_dnil, w_dcons, w_dconsg, HK_app, HD_app, HQ_n, HQ_r, HQ_x, HQ_bn, HQ_br, HQ_bx, HQ_en, HQ_er, HQ_ex, CondB_true, CondB_false, SO1, w_sdv, SDe_alloc, SDe_box, SDe_bslice, SDe_app, true_imp_iff, false_imp_iff, and_false, false_and, not_false_eq_true, not_true_eq_false, addN, mkNames, killT, killD, killO, List.foldl_nil, List.foldl_cons, List.append_nil, List.nil_append, List.cons_append, GuardS_true, GuardS_false, GuardD_true, GuardD_false, DK_true, DK_false, lt_self_add, le_self_add, decide_true, decide_false, Bool.false_eq_true, Bool.true_eq_false, Nat.add_left_cancel_iff, SE, SEalloc, SEbox, SEstore, w_bs, SEbl, SEfz, SEbs0, fzName, osOf, AV.fz1, w_app, w_mk, aev, opd, Fr.get, putO, Fr.norm, List.map_cons, List.map_nil, with1, with2, onInt, AV.lit, entry, ↓reduceIte, Nat.reduceEqDiff, Nat.reduceAdd, reduceCtorEq, true_and, and_true, Option.map_some, Option.map_none, Option.bind_some, Option.bind_none, cond_true, cond_false, binV, unV, fieldV, loadV, sto, cellsAV, newF, newL, Fr.map, Loc.kill, Loc.set, AO.kill, AV.kill, AV.mapN, AV.mapNL, List.filter_nil, List.filter_cons, allP, EndV, retV, resV, resL, frz, dropL, AV.pick, nilV, tupV, imp_self, ne_eq, Int.cast_ofNat_Int, Int.reduceLT, Int.reduceToNat, List.getD_cons_zero, List.getD_cons_succ, bsliceV, buildV, afill, repl, chunk, rvs, AV.rv, RV.nrm, List.getElem?_nil, List.append_assoc, Nat.reduceMul, Nat.reducePow, Nat.zero_lt_succ, Nat.zero_add, Nat.add_zero, List.length_cons, List.length_nil, Nat.reduceLeDiff, Nat.le_refl, List.take_succ_cons, List.take_zero, List.drop_succ_cons, List.drop_zero, indexV, lenV, rowOf_mapD, rowOf_mapI, rowOf_mapA, List.length_map, Int.toNat_natCast, List.getElem?_cons_zero, List.getElem?_cons_succ, and_self, implies_true, if_true, if_false, HQ_zn, HQ_zr, HQ_wn, HQ_wr, AV.nz, AV.nzL, RV.nrm, SEbin, SEnil, nilK, srcV, dstV, appName, List.length_append, Nat.mul_one, take_map_len, take_map_app, List.getElem?_cons_zero, List.map_append, SEmkmap, SEmset, mgetV, kvOf, getM, setM, c59, r59, v59_1, v59_2, v59_3, v59_4, v59_5, m59_5, v59_6, u59_7, u59_8, u59_9, ty23, ty45, ty29, ty3, ty30, ty5, GeoD.av, bytes, ← List.map_take, ← List.map_drop, bnd, sliceV, Option.getD_some, Option.getD_none, Rows_byV, JrnD.av, JrnD.cells]) | (with_reducible refine And.intro ?_ ?_) | (refine call_ro e73 ( value_at b hb 0 4 (by omega) (by omega)) rfl ?_ ?_ ?_ ?_) | (refine gcall_ro e73 ( value_at b hb 0 4 (by omega) (by omega)) rfl ?_ ?_ ?_ ?_) | (refine dcall_ro e73 ( value_at b hb 0 4 (by omega) (by omega)) rfl ?_ ?_ ?_ ?_) | (refine gdcall_ro rfl e73 ( value_at b hb 0 4 (by omega) (by omega)) rfl ?_ ?_ ?_ ?_) | (refine call_ro e73 ( value_at b hb 4 4 (by omega) (by omega)) rfl ?_ ?_ ?_ ?_) | (refine gcall_ro e73 ( value_at b hb 4 4 (by omega) (by omega)) rfl ?_ ?_ ?_ ?_) | (refine dcall_ro e73 ( value_at b hb 4 4 (by omega) (by omega)) rfl ?_ ?_ ?_ ?_) | (refine gdcall_ro rfl e73 ( value_at b hb 4 4 (by omega) (by omega)) rfl ?_ ?_ ?_ ?_) | (refine call_ro e73 ( value_at b hb 8 1 (by omega) (by omega)) rfl ?_ ?_ ?_ ?_) | (refine gcall_ro e73 ( value_at b hb 8 1 (by omega) (by omega)) rfl ?_ ?_ ?_ ?_) | (refine dcall_ro e73 ( value_at b hb 8 1 (by omega) (by omega)) rfl ?_ ?_ ?_ ?_) | (refine gdcall_ro rfl e73 ( value_at b hb 8 1 (by omega) (by omega)) rfl ?_ ?_ ?_ ?_) | (refine call_ro e73 ( value_at b hb 9 4 (by omega) (by omega)) rfl ?_ ?_ ?_ ?_) | (refine gcall_ro e73 ( value_at b hb 9 4 (by omega) (by omega)) rfl ?_ ?_ ?_ ?_) | (refine dcall_ro e73 ( value_at b hb 9 4 (by omega) (by omega)) rfl ?_ ?_ ?_ ?_) | (refine gdcall_ro rfl e73 ( value_at b hb 9 4 (by omega) (by omega)) rfl ?_ ?_ ?_ ?_) | (refine call_ro e73 ( value_at b hb 13 2 (by omega) (by omega)) rfl ?_ ?_ ?_ ?_) | (refine gcall_ro e73 ( value_at b hb 13 2 (by omega) (by omega)) rfl ?_ ?_ ?_ ?_) | (refine dcall_ro e73 ( value_at b hb 13 2 (by omega) (by omega)) rfl ?_ ?_ ?_ ?_) | (refine gdcall_ro rfl e73 ( value_at b hb 13 2 (by omega) (by omega)) rfl ?_ ?_ ?_ ?_) | (refine call_ro e73 ( value_at b hb 15 4 (by omega) (by omega)) rfl ?_ ?_ ?_ ?_) | (refine gcall_ro e73 ( value_at b hb 15 4 (by omega) (by omega)) rfl ?_ ?_ ?_ ?_) | (refine dcall_ro e73 ( value_at b hb 15 4 (by omega) (by omega)) rfl ?_ ?_ ?_ ?_) | (refine gdcall_ro rfl e73 ( value_at b hb 15 4 (by omega) (by omega)) rfl ?_ ?_ ?_ ?_) | (refine call_ro e74 ( ringCheck_p g (unsJ b)) rfl ?_ ?_ ?_ ?_) | (refine gcall_ro e74 ( ringCheck_p g (unsJ b)) rfl ?_ ?_ ?_ ?_) | (refine dcall_ro e74 ( ringCheck_p g (unsJ b)) rfl ?_ ?_ ?_ ?_) | (refine gdcall_ro rfl e74 ( ringCheck_p g (unsJ b)) rfl ?_ ?_ ?_ ?_) | (refine EndX.plain ?_) | (refine nil_split (fun hn => ?_) (fun hn => ?_)) | (refine gcall_no not_false ?_) | (refine gdcall_no not_false ?_) | (refine GuardS_of _ _ _ _ _ _ (fun hg => ?_) (fun hg => ?_)) | (refine GuardD_of _ _ _ _ (fun hg => ?_) (fun hg => ?_)) | (refine CondB_of _ _ _ _ _ _ _ ?_ (fun hg => ?_) (fun hg => ?_)))
  all_goals (try (first | ((first | unfold noN | unfold Fr.below | unfold Loc.below); simp [Fr.allN, AV.allN, AV.allNL, AO.allN]; done) | rfl | trivial | assumption | (intro row hrow; simp only [List.mem_map] at hrow; obtain ⟨x, _, rfl⟩ := hrow; rfl) | (refine Wk.keep hcl ?_ ?_ ?_; (focus (simp [Fr.get, GeoD.av, bytes, ← List.map_take, ← List.map_drop, bnd, sliceV, Option.getD_some, Option.getD_none, Rows_byV, JrnD.av, JrnD.cells] <;> fail)); (focus (simp [sto, GeoD.av, bytes, ← List.map_take, ← List.map_drop, bnd, sliceV, Option.getD_some, Option.getD_none, Rows_byV, JrnD.av, JrnD.cells] <;> fail)); (focus (simp <;> fail))) | (simp [allP, opd, Fr.get, Fr.below, Fr.allN, AV.allN, AV.allNL, Loc.below, AO.allN, noN, killO, killT, killD, mkNames, AO.kill, AV.kill, AV.mapN, AV.mapNL]; done) | (with_reducible exact ltD (by assumption)) | omega | (simp only [decide_eq_true_eq, decide_eq_false_iff_not] at *; omega)))
  all_goals (try (simp [avName, loadNames, opd, Fr.get]; done))
  all_goals (try (simp only [hg, Bool.true_and, Bool.false_and]; rfl))
end Go.Proofs.Ytalhjhmphdgaoaa
