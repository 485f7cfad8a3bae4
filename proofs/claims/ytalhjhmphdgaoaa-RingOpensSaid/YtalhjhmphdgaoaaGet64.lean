/- A sector that is got has 64 bytes. -/
import Derived.Test.YtalhjhmphdgaoaaBase
import Derived.Test.YtalhjhmphdgaoaaTypes
import Derived.Test.YtalhjhmphdgaoaaDevC
import Derived.Test.YtalhjhmphdgaoaaGet

/- The room that a piece has on disk: the sectors asked for. -/
namespace Go.Proofs.Ytalhjhmphdgaoaa
open Go.RowKit
set_option maxRecDepth 100000
def o41_1 : List SO := ((SO.mk (some 9) (.move (.tmp 1)) none) :: (SO.mk (some 10) (.bin .quo 3 (.tmp 8) (.tmp 9)) none) :: (SO.mk (some 4) (.move (.tmp 10)) none) :: [])
theorem v41_1 : type_of% (@swl _ _ o41_1.eq_1) := @swl _ _ o41_1.eq_1
def c41_2 : SC := (.seq (.reg ((SO.mk (some 5) (.move (.tmp 0)) none) :: (SO.mk (some 6) (.move (.tmp 1)) none) :: (SO.mk (some 7) (.bin .add 3 (.tmp 5) (.tmp 6)) none) :: (SO.mk (some 8) (.bin .sub 3 (.tmp 7) (.const (Value.int .i64 1))) none) :: o41_1)) (.keep [4] .ret))
theorem u41_2 : type_of% (@swc _ _ c41_2.eq_1) := @swc _ _ c41_2.eq_1
def c41 : SC := (.seq (.reg [SO.mk (some 4) (.move (.const (Value.int .i64 0))) none]) (.keep [0, 1] c41_2))
theorem c41_eq : annC Try.f41 = some c41 := by kernel_rfl
theorem r41 : Try.f41.results.toList = [.tmp 4] := by kernel_rfl
theorem e41 : enters Try.prog 41 = true := by kernel_rfl
end Go.Proofs.Ytalhjhmphdgaoaa
namespace Go.Proofs.Ytalhjhmphdgaoaa
open Go.RowKit
set_option maxHeartbeats 4000000
set_option maxRecDepth 20000
attribute [local irreducible] SW SWL SWLn SWD SEcall SEcallv SDv SE SO1 SOg ACalls ACallv Wk EndV
set_option linter.unusedSimpArgs false
set_option linter.unusedVariables false
def secN (n : Int) : Int := IntKind.i64.wrap ((IntKind.i64.wrap (IntKind.i64.wrap (n + 64) - 1)).tdiv 64)
theorem chunks_p (n : Int) : Pure Try.prog 41 [I n, I 64] (I (secN n)) := by
  refine pure_of follows Try.func41 c41_eq r41 (Nat.le_of_ble_eq_true rfl) fun B σ hcl hsz => ?_
  clear hsz
  repeat' (first | (simp -implicitDefEqProofs only [*, contN, contC, Nat.reduceBEq, Bool.or_false, Bool.or_true, Bool.false_or, Bool.true_or, Bool.not_true, Bool.not_false, w_skip, w_ret, w_exit, w_reg, w_dreg, w_seq, SK_n, SK_r, SK_x, w_keep, w_block, w_cond, w_nil, w_cons, w_consg, w_nnil, w_ncons, w_dnil, w_dcons, w_dconsg, HK_app, HD_app, HQ_n, HQ_r, HQ_x, HQ_bn, HQ_br, HQ_bx, HQ_en, HQ_er, HQ_ex, CondB_true, CondB_false, SO1, w_sdv, SDe_alloc, SDe_box, SDe_bslice, SDe_app, true_imp_iff, false_imp_iff, and_false, false_and, not_false_eq_true, not_true_eq_false, addN, mkNames, killT, killD, killO, List.foldl_nil, List.foldl_cons, List.append_nil, List.nil_append, List.cons_append, GuardS_true, GuardS_false, GuardD_true, GuardD_false, DK_true, DK_false, lt_self_add, le_self_add, decide_true, decide_false, Bool.false_eq_true, Bool.true_eq_false, Nat.add_left_cancel_iff, SE, SEalloc, SEbox, SEstore, w_bs, SEbl, SEfz, SEbs0, fzName, osOf, AV.fz1, w_app, w_mk, aev, opd, Fr.get, putO, Fr.norm, List.map_cons, List.map_nil, with1, with2, onInt, AV.lit, entry, ↓reduceIte, Nat.reduceEqDiff, Nat.reduceAdd, reduceCtorEq, true_and, and_true, Option.map_some, Option.map_none, Option.bind_some, Option.bind_none, cond_true, cond_false, binV, unV, fieldV, loadV, sto, cellsAV, newF, newL, Fr.map, Loc.kill, Loc.set, AO.kill, AV.kill, AV.mapN, AV.mapNL, List.filter_nil, List.filter_cons, allP, EndV, retV, resV, resL, frz, dropL, AV.pick, nilV, tupV, imp_self, ne_eq, Int.cast_ofNat_Int, Int.reduceLT, Int.reduceToNat, List.getD_cons_zero, List.getD_cons_succ, bsliceV, buildV, afill, repl, chunk, rvs, AV.rv, RV.nrm, List.getElem?_nil, List.append_assoc, Nat.reduceMul, Nat.reducePow, Nat.zero_lt_succ, Nat.zero_add, Nat.add_zero, List.length_cons, List.length_nil, Nat.reduceLeDiff, Nat.le_refl, List.take_succ_cons, List.take_zero, List.drop_succ_cons, List.drop_zero, indexV, lenV, rowOf_mapD, rowOf_mapI, rowOf_mapA, List.length_map, Int.toNat_natCast, List.getElem?_cons_zero, List.getElem?_cons_succ, and_self, implies_true, if_true, if_false, HQ_zn, HQ_zr, HQ_wn, HQ_wr, AV.nz, AV.nzL, RV.nrm, SEbin, SEnil, nilK, srcV, dstV, appName, List.length_append, Nat.mul_one, take_map_len, take_map_app, List.getElem?_cons_zero, List.map_append, SEmkmap, SEmset, mgetV, kvOf, getM, setM, c41, r41, v41_1, u41_2, ty3]) | (with_reducible refine And.intro ?_ ?_) | (refine EndX.plain ?_) | (refine nil_split (fun hn => ?_) (fun hn => ?_)) | (refine gcall_no not_false ?_) | (refine gdcall_no not_false ?_) | (refine GuardS_of _ _ _ _ _ _ (fun hg => ?_) (fun hg => ?_)) | (refine GuardD_of _ _ _ _ (fun hg => ?_) (fun hg => ?_)) | (refine CondB_of _ _ _ _ _ _ _ ?_ (fun hg => ?_) (fun hg => ?_)))
  all_goals (try (first | ((first | unfold noN | unfold Fr.below | unfold Loc.below); simp [Fr.allN, AV.allN, AV.allNL, AO.allN]; done) | rfl | trivial | assumption | (intro row hrow; simp only [List.mem_map] at hrow; obtain ⟨x, _, rfl⟩ := hrow; rfl) | (refine Wk.keep hcl ?_ ?_ ?_; (focus (simp [Fr.get] <;> fail)); (focus (simp [sto] <;> fail)); (focus (simp <;> fail))) | (simp [allP, opd, Fr.get, Fr.below, Fr.allN, AV.allN, AV.allNL, Loc.below, AO.allN, noN, killO, killT, killD, mkNames, AO.kill, AV.kill, AV.mapN, AV.mapNL]; done) | (with_reducible exact ltD (by assumption)) | omega | (simp only [decide_eq_true_eq, decide_eq_false_iff_not] at *; omega)))
  all_goals rfl
end Go.Proofs.Ytalhjhmphdgaoaa

/- The room that a piece has on disk: the program's check and the reference's. -/
namespace Go.Proofs.Ytalhjhmphdgaoaa
open Go.RowKit
set_option maxRecDepth 100000
def o30_1 : List SO := ((SO.mk (some 28) (.move (.tmp 8)) (some (24 , false))) :: (SO.mk (some 29) (.call 57 [(.tmp 27), (.tmp 28)]) (some (24 , false))) :: (SO.mk (some 30) (.pick (.tmp 24) (.const (Value.bool true)) (.tmp 29)) none) :: [])
def o30_2 : List SO := ((SO.mk (some 24) (.move (.tmp 23)) none) :: (SO.mk (some 25) (.move (.tmp 1)) (some (24 , false))) :: (SO.mk (some 26) (.move (.tmp 7)) (some (24 , false))) :: (SO.mk (some 27) (.slice 40 (.tmp 25) none (some (.tmp 26))) (some (24 , false))) :: o30_1)
def o30_3 : List SO := ((SO.mk (some 20) (.faddr 23 (.tmp 3) 2) (some (18 , false))) :: (SO.mk (some 21) (.load 3 (.tmp 20)) (some (18 , false))) :: (SO.mk (some 22) (.bin .geq 3 (.tmp 19) (.tmp 21)) (some (18 , false))) :: (SO.mk (some 23) (.pick (.tmp 18) (.const (Value.bool true)) (.tmp 22)) none) :: o30_2)
def c30_4 : SC := (.seq (.reg [SO.mk (some 6) (.move (.const (Value.bool false))) none]) (.keep [6] .ret))
def c30_5 : SC := (.cond (.tmp 30) c30_4 .skip)
def c30_6 : SC := (.seq (.reg ((SO.mk (some 16) (.move (.tmp 8)) none) :: (SO.mk (some 17) (.bin .lss 3 (.tmp 16) (.const (Value.int .i64 0))) none) :: (SO.mk (some 18) (.move (.tmp 17)) none) :: (SO.mk (some 19) (.move (.tmp 8)) (some (18 , false))) :: o30_3)) (.keep [30, 11, 10, 3, 9, 1, 2] c30_5))
def c30_7 : SC := (.reg [SO.mk (some 31) (.bin .add 3 (.tmp 11) (.const (Value.int .i64 1))) none, SO.mk (some 11) (.move (.tmp 31)) none])
def c30_8 : SC := (.seq (.block 1 (.seq (.reg [SO.mk (some 13) (.move (.tmp 11)) none, SO.mk (some 14) (.iaddr 40 (.tmp 9) (.tmp 11)) none, SO.mk (some 15) (.load 3 (.tmp 14)) none, SO.mk (some 7) (.move (.tmp 13)) none, SO.mk (some 8) (.move (.tmp 15)) none]) (.keep [7, 8, 11, 10, 3, 9, 1, 2] c30_6))) (.keep [11, 10, 3, 9, 1, 2] c30_7))
def c30_9 : SC := (.seq (.cond (.tmp 12) .skip (.exit 0)) (.keep [11, 10, 3, 9, 1, 2] c30_8))
def c30_10 : SC := (.seq (.reg [SO.mk (some 12) (.bin .lss 3 (.tmp 11) (.tmp 10)) none]) (.keep [12, 9, 3, 10, 11, 1, 2] c30_9))
def c30_11 : SC := (.block 0 (.loop (.keep [9, 3, 10, 11, 1, 2] c30_10)))
def o30_12 : List SO := ((SO.mk (some 44) (.pick (.tmp 38) (.tmp 43) (.const (Value.bool false))) none) :: (SO.mk (some 6) (.move (.tmp 44)) none) :: [])
def o30_13 : List SO := ((SO.mk (some 40) (.len 40 (.tmp 39)) (some (38 , true))) :: (SO.mk (some 41) (.move (.tmp 2)) (some (38 , true))) :: (SO.mk (some 42) (.call 58 [(.tmp 41)]) (some (38 , true))) :: (SO.mk (some 43) (.bin .eql 3 (.tmp 40) (.tmp 42)) (some (38 , true))) :: o30_12)
def o30_14 : List SO := ((SO.mk (some 36) (.bin .leq 3 (.tmp 35) (.const (Value.int .i64 600))) (some (34 , true))) :: (SO.mk (some 37) (.pick (.tmp 34) (.tmp 36) (.const (Value.bool false))) none) :: (SO.mk (some 38) (.move (.tmp 37)) none) :: (SO.mk (some 39) (.move (.tmp 1)) (some (38 , true))) :: o30_13)
def c30_15 : SC := (.seq (.reg ((SO.mk (some 32) (.move (.tmp 2)) none) :: (SO.mk (some 33) (.bin .geq 3 (.tmp 32) (.const (Value.int .i64 0))) none) :: (SO.mk (some 34) (.move (.tmp 33)) none) :: (SO.mk (some 35) (.move (.tmp 2)) (some (34 , true))) :: o30_14)) (.keep [6] .ret))
def c30_16 : SC := (.seq (.seq (.reg [SO.mk (some 9) (.move (.tmp 1)) none, SO.mk (some 10) (.len 40 (.tmp 9)) none, SO.mk (some 11) (.move (.const (Value.int .i64 0))) none]) (.keep [9, 3, 10, 11, 1, 2] c30_11)) (.keep [1, 2] c30_15))
def c30 : SC := (.seq (.reg [SO.mk (some 3) (.box 23 (.tmp 0)) none, SO.mk (some 6) (.move (.const (Value.bool false))) none]) (.keep [3, 1, 2] c30_16))
end Go.Proofs.Ytalhjhmphdgaoaa
namespace Go.Proofs.Ytalhjhmphdgaoaa
open Go.RowKit
set_option maxHeartbeats 4000000
set_option maxRecDepth 20000
attribute [local irreducible] SW SWL SWLn SWD SEcall SEcallv SDv SE SO1 SOg ACalls ACallv Wk EndV
set_option linter.unusedSimpArgs false
set_option linter.unusedVariables false
end Go.Proofs.Ytalhjhmphdgaoaa
namespace Go.Proofs.Ytalhjhmphdgaoaa
open Go.RowKit
set_option maxHeartbeats 4000000
set_option maxRecDepth 20000
attribute [local irreducible] SW SWL SWLn SWD SEcall SEcallv SDv SE SO1 SOg ACalls ACallv Wk EndV
set_option linter.unusedSimpArgs false
set_option linter.unusedVariables false
structure OkR (g : GeoD) (d : DevD) : Prop where
  geo : geoOk g = true
  hot : IntKind.i64.wrap (g.hot - 1) = g.hot - 1
  len : (d.safe.length : Int) = 2 + g.ring + 2 * g.area + g.hot
  safe : ∀ i, i < d.safe.length → (d.safe[i]!).length = 64
  cache : ∀ i, i < d.cache.length → (d.cache[i]!).data.length = 64
theorem okR {g : GeoD} {d : DevD} (h : devF g d = 0) : OkR g d := by
  unfold devF at h
  cases hg : geoOk g with
  | false => rw [hg] at h; simp at h
  | true =>
    rw [hg] at h
    cases hb : (badD g d || (d.safe.any badS || (d.cache.any (badW d.safe.length) || d.vols.any (badV g)))) with
    | true => rw [hb] at h; simp at h
    | false =>
      have hs := (sec_eq hg).1
      have hg' := hg
      simp only [geoOk, inR, Bool.and_eq_true, decide_eq_true_eq] at hg
      simp only [Bool.or_eq_false_iff] at hb
      obtain ⟨b1, b2, b3, b4⟩ := hb
      simp only [badD, Bool.or_eq_false_iff, decide_eq_false_iff_not, bne_eq_false_iff_eq] at b1
      obtain ⟨c1, c2, c3, c4, c5⟩ := b1
      rw [List.any_eq_false] at b2 b3 b4
      refine ⟨hg', IntWalk.i64_in _ (by omega), by rw [hs] at c1; omega, fun i hi => ?_, fun i hi => ?_⟩
      · have := b2 (d.safe[i]!) (by simp [hi])
        generalize d.safe[i]! = x at this ⊢
        simp [badS] at this; omega
      · have := b3 (d.cache[i]!) (by simp [hi])
        generalize d.cache[i]! = x at this ⊢
        simp [badW] at this; omega
theorem curB_64 {g : GeoD} {d : DevD} (h : OkR g d) {pos : Int} (h0 : 0 ≤ pos) (h1 : pos < (d.safe.length : Int)) : ∀ {k : Nat}, k ≤ d.cache.length → (curB d pos k).length = 64
  | 0, _ => h.safe _ (by omega)
  | k + 1, hk => by
    cases hm : (d.cache[k]!.pos == pos)
    · rw [← curB_miss hm]; exact curB_64 h h0 h1 (by omega)
    · rw [← curB_hit hm]; exact h.cache _ (by omega)
theorem getR_64 {g : GeoD} {d : DevD} (h : devF g d = 0) {pos : Int} (h0 : 0 ≤ pos) (h1 : pos < (d.safe.length : Int)) : (getR g d pos).length = 64 := by
  have he : getE g d pos = 0 := by
    have a : decide (pos < 0) = false := by simp; omega
    have b : decide (pos ≥ (d.safe.length : Int)) = false := by simp; omega
    simp only [getE, h, a, b, bne_self_eq_false, Bool.or_false, cond_false]
  simp only [getR, he, beq_self_eq_true, cond_true]
  exact curB_64 (okR h) h0 h1 (Nat.le_refl _)
end Go.Proofs.Ytalhjhmphdgaoaa
