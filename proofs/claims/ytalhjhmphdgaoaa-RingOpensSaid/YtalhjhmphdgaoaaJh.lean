/- The journal's and the hand's small laws; ring.area. -/
import Derived.Test.YtalhjhmphdgaoaaHand
import Derived.Test.YtalhjhmphdgaoaaNum
import Derived.Test.YtalhjhmphdgaoaaJrn
import Derived.Test.YtalhjhmphdgaoaaTypes
namespace Go.Proofs.Ytalhjhmphdgaoaa
open Go.RowKit
set_option maxRecDepth 100000
def o34_1 : List SO := ((SO.mk (some 4) (.move (.tmp 12)) none) :: [])
theorem v34_1 : type_of% (@swl _ _ o34_1.eq_1) := @swl _ _ o34_1.eq_1
def o34_2 : List SO := ((SO.mk (some 9) (.faddr 23 (.tmp 2) 1) none) :: (SO.mk (some 10) (.load 3 (.tmp 9)) none) :: (SO.mk (some 11) (.bin .mul 3 (.tmp 8) (.tmp 10)) none) :: (SO.mk (some 12) (.bin .add 3 (.tmp 7) (.tmp 11)) none) :: o34_1)
theorem v34_2 : type_of% (@swl _ _ o34_2.eq_1) := @swl _ _ o34_2.eq_1
def c34_3 : SC := (.seq (.reg ((SO.mk (some 5) (.faddr 23 (.tmp 2) 0) none) :: (SO.mk (some 6) (.load 3 (.tmp 5)) none) :: (SO.mk (some 7) (.bin .add 3 (.const (Value.int .i64 2)) (.tmp 6)) none) :: (SO.mk (some 8) (.move (.tmp 1)) none) :: o34_2)) (.keep [4] .ret))
theorem u34_3 : type_of% (@swc _ _ c34_3.eq_1) := @swc _ _ c34_3.eq_1
def c34 : SC := (.seq (.reg [SO.mk (some 2) (.box 23 (.tmp 0)) none, SO.mk (some 4) (.move (.const (Value.int .i64 0))) none]) (.keep [1, 2] c34_3))
theorem c34_eq : annC Try.f34 = some c34 := by kernel_rfl
theorem r34 : Try.f34.results.toList = [.tmp 4] := by kernel_rfl
theorem e34 : enters Try.prog 34 = true := by kernel_rfl
end Go.Proofs.Ytalhjhmphdgaoaa
namespace Go.Proofs.Ytalhjhmphdgaoaa
open Go.RowKit
set_option maxHeartbeats 4000000
set_option maxRecDepth 20000
attribute [local irreducible] SW SWL SWLn SWD SEcall SEcallv SDv SE SO1 SOg ACalls ACallv Wk EndV
set_option linter.unusedSimpArgs false
set_option linter.unusedVariables false
theorem hand0 (g : GeoD) (d : DevD) : AO.box [I g.ring, I g.area, I g.hot, I g.volume, I g.volumes, .d (.ro (d.safe.map secRow)), .d (.ro (d.cache.map WrD.row)), .d (.ro (d.vols.map VolD.row)), I d.fuel, I 0] = handO g (d, 0) := rfl
theorem feqJ (a b c d e f g h i : Int) : feq Try.prog 20 45 [.d (.v (.int .i64 a)), .d (.v (.int .i64 b)), .d (.v (.int .i64 c)), .d (.v (.int .i64 d)), .d (.v (.int .i64 e)), .d (.v (.int .i64 f)), .d (.v (.int .i64 g)), .d (.v (.int .i64 h)), .d (.v (.int .i64 i))] [.d (.v (.int .i64 a)), .d (.v (.int .i64 b)), .d (.v (.int .i64 c)), .d (.v (.int .i64 d)), .d (.v (.int .i64 e)), .d (.v (.int .i64 f)), .d (.v (.int .i64 g)), .d (.v (.int .i64 h)), .d (.v (.int .i64 i))] = some (True, true) := by
  have h : ∃ q, feq Try.prog 20 45 [.d (.v (.int .i64 a)), .d (.v (.int .i64 b)), .d (.v (.int .i64 c)), .d (.v (.int .i64 d)), .d (.v (.int .i64 e)), .d (.v (.int .i64 f)), .d (.v (.int .i64 g)), .d (.v (.int .i64 h)), .d (.v (.int .i64 i))] [.d (.v (.int .i64 a)), .d (.v (.int .i64 b)), .d (.v (.int .i64 c)), .d (.v (.int .i64 d)), .d (.v (.int .i64 e)), .d (.v (.int .i64 f)), .d (.v (.int .i64 g)), .d (.v (.int .i64 h)), .d (.v (.int .i64 i))] = some (q, (a == a && (b == b && (c == c && (d == d && (e == e && (f == f && (g == g && (h == h && (i == i && true)))))))))) ∧ q := by
    refine ⟨IntKind.i64 = IntKind.i64 ∧ IntKind.i64 = IntKind.i64 ∧ IntKind.i64 = IntKind.i64 ∧ IntKind.i64 = IntKind.i64 ∧ IntKind.i64 = IntKind.i64 ∧ IntKind.i64 = IntKind.i64 ∧ IntKind.i64 = IntKind.i64 ∧ IntKind.i64 = IntKind.i64 ∧ IntKind.i64 = IntKind.i64 ∧ True, ?_, by simp⟩
    kernel_rfl
  obtain ⟨q, h1, h2⟩ := h
  rw [h1]
  have : q = True := eq_true h2
  simp [this]
theorem jok_of {g : GeoD} {j : JrnD} (hg : geoOk g = true) (h : jrnF g j = 0) : JOk g j := by
  unfold jrnF at h
  rw [if_pos hg] at h
  by_cases hj : JOk g j
  · exact hj
  · rw [if_neg hj] at h; exact absurd h (by decide)
structure JB (g : GeoD) (j : JrnD) : Prop where
  p1 : 0 ≤ j.place
  p2 : j.place < g.ring
theorem jB {g : GeoD} {j : JrnD} (hB : GeoB g) (h : JOk g j) : JB g j := by
  have h1 := h.s1
  have h2 := h.u1
  have h3 := hB.r1
  refine ⟨?_, ?_⟩ <;> rw [h.p]
  · exact Int.tmod_nonneg _ (by omega)
  · exact Int.tmod_lt_of_pos _ (by omega)
theorem tmod_b {g : GeoD} (hB : GeoB g) {x : Int} (h : 0 ≤ x) : 0 ≤ x.tmod g.ring ∧ x.tmod g.ring < g.ring := by
  have h3 := hB.r1
  exact ⟨Int.tmod_nonneg _ h, Int.tmod_lt_of_pos _ (by omega)⟩
theorem minW2 (k k' : IntKind) (x y : Int) : minV true [.d (.v (.int k x)), .d (.v (.int k' y))] = some (.d (.v (.int k (if decide (y < x) = true then y else x)))) := rfl
theorem aokB (n : Nat) (cs : List AV) : (AO.box cs).kill n = .box (cs.map (AV.kill n)) := rfl
theorem aokD (n : Nat) : AO.dead.kill n = .dead := rfl
theorem aokA (n k : Nat) (E : TypeId) (rows : List (List RV)) : (AO.arr k E rows).kill n = .arr k E rows := rfl
def arV (g : GeoD) (a : Int) : Int := IntKind.i64.wrap (IntKind.i64.wrap (2 + g.ring) + IntKind.i64.wrap (a * g.area))
theorem area_p (g : GeoD) (a : Int) : Pure Try.prog 34 [g.av, I a] (I (arV g a)) := by
  refine pure_of follows Try.func34 c34_eq r34 (Nat.le_of_ble_eq_true rfl) fun B σ hcl hsz => ?_
  clear hsz
  repeat' (first | (simp -implicitDefEqProofs only [*, contN, contC, Nat.reduceBEq, Bool.or_false, Bool.or_true, Bool.false_or, Bool.true_or, Bool.not_true, Bool.not_false, w_skip, w_ret, w_exit, w_reg, w_dreg, w_seq, SK_n, SK_r, SK_x, w_keep, w_block, w_cond, w_nil, w_cons, w_consg, w_nnil, w_ncons, w_dnil, w_dcons, w_dconsg, HK_app, HD_app, HQ_n, HQ_r, HQ_x, HQ_bn, HQ_br, HQ_bx, HQ_en, HQ_er, HQ_ex, CondB_true, CondB_false, SO1, w_sdv, SDe_alloc, SDe_box, SDe_bslice, SDe_app, true_imp_iff, false_imp_iff, and_false, false_and, not_false_eq_true, not_true_eq_false, addN, mkNames, killT, killD, killO, List.foldl_nil, List.foldl_cons, List.append_nil, List.nil_append, List.cons_append, GuardS_true, GuardS_false, GuardD_true, GuardD_false, DK_true, DK_false, lt_self_add, le_self_add, decide_true, decide_false, Bool.false_eq_true, Bool.true_eq_false, Nat.add_left_cancel_iff, SE, SEalloc, SEbox, SEstore, w_bs, SEbl, SEfz, SEbs0, fzName, osOf, AV.fz1, w_app, w_mk, aev, opd, Fr.get, putO, Fr.norm, List.map_cons, List.map_nil, with1, with2, onInt, AV.lit, entry, ↓reduceIte, Nat.reduceEqDiff, Nat.reduceAdd, reduceCtorEq, true_and, and_true, Option.map_some, Option.map_none, Option.bind_some, Option.bind_none, cond_true, cond_false, binV, unV, fieldV, loadV, sto, cellsAV, newF, newL, Fr.map, Loc.kill, Loc.set, AO.kill, AV.kill, AV.mapN, AV.mapNL, List.filter_nil, List.filter_cons, allP, EndV, retV, resV, resL, frz, dropL, AV.pick, nilV, tupV, imp_self, ne_eq, Int.cast_ofNat_Int, Int.reduceLT, Int.reduceToNat, List.getD_cons_zero, List.getD_cons_succ, bsliceV, buildV, afill, repl, chunk, rvs, AV.rv, RV.nrm, List.getElem?_nil, List.append_assoc, Nat.reduceMul, Nat.reducePow, Nat.zero_lt_succ, Nat.zero_add, Nat.add_zero, List.length_cons, List.length_nil, Nat.reduceLeDiff, Nat.le_refl, List.take_succ_cons, List.take_zero, List.drop_succ_cons, List.drop_zero, indexV, lenV, rowOf_mapD, rowOf_mapI, rowOf_mapA, List.length_map, Int.toNat_natCast, List.getElem?_cons_zero, List.getElem?_cons_succ, and_self, implies_true, if_true, if_false, HQ_zn, HQ_zr, HQ_wn, HQ_wr, AV.nz, AV.nzL, RV.nrm, SEbin, SEnil, nilK, srcV, dstV, appName, List.length_append, Nat.mul_one, take_map_len, take_map_app, List.getElem?_cons_zero, List.map_append, SEmkmap, SEmset, mgetV, kvOf, getM, setM, c34, r34, v34_1, v34_2, u34_3, ty23, ty3, GeoD.av]) | (with_reducible refine And.intro ?_ ?_) | (refine EndX.plain ?_) | (refine nil_split (fun hn => ?_) (fun hn => ?_)) | (refine gcall_no not_false ?_) | (refine gdcall_no not_false ?_) | (refine GuardS_of _ _ _ _ _ _ (fun hg => ?_) (fun hg => ?_)) | (refine GuardD_of _ _ _ _ (fun hg => ?_) (fun hg => ?_)) | (refine CondB_of _ _ _ _ _ _ _ ?_ (fun hg => ?_) (fun hg => ?_)))
  all_goals (try (first | ((first | unfold noN | unfold Fr.below | unfold Loc.below); simp [Fr.allN, AV.allN, AV.allNL, AO.allN]; done) | rfl | trivial | assumption | (intro row hrow; simp only [List.mem_map] at hrow; obtain ⟨x, _, rfl⟩ := hrow; rfl) | (refine Wk.keep hcl ?_ ?_ ?_; (focus (simp [Fr.get, GeoD.av] <;> fail)); (focus (simp [sto, GeoD.av] <;> fail)); (focus (simp <;> fail))) | (simp [allP, opd, Fr.get, Fr.below, Fr.allN, AV.allN, AV.allNL, Loc.below, AO.allN, noN, killO, killT, killD, mkNames, AO.kill, AV.kill, AV.mapN, AV.mapNL]; done) | (with_reducible exact ltD (by assumption)) | omega | (simp only [decide_eq_true_eq, decide_eq_false_iff_not] at *; omega)))
  all_goals rfl
end Go.Proofs.Ytalhjhmphdgaoaa
