/- Frames of the ring, read from a sector. -/
import Derived.Test.YtalhjhmphdgaoaaRvB
import Derived.Test.YtalhjhmphdgaoaaJh
import Derived.Test.YtalhjhmphdgaoaaTypes
namespace Go.Proofs.Ytalhjhmphdgaoaa
open Go.RowKit
set_option maxRecDepth 100000
def o60_1 : List SO := ((SO.mk (some 18) (.load 5 (.tmp 17)) none) :: (SO.mk (some 19) (.bin .eql 5 (.tmp 18) (.const (Value.int .u8 1))) none) :: (SO.mk (some 20) (.build 96 [(0 , (.tmp 8)), (1 , (.tmp 11)), (2 , (.tmp 15)), (3 , (.tmp 19))]) none) :: (SO.mk (some 4) (.alloc 96) none) :: [])
theorem v60_1 : type_of% (@swd _ _ o60_1.eq_1) := @swd _ _ o60_1.eq_1
def o60_2 : List SO := ((SO.mk (some 14) (.load 5 (.tmp 13)) none) :: (SO.mk (some 15) (.conv 5 3 (.tmp 14)) none) :: (SO.mk (some 16) (.move (.tmp 0)) none) :: (SO.mk (some 17) (.iaddr 29 (.tmp 16) (.const (Value.int .i64 9))) none) :: o60_1)
theorem v60_2 : type_of% (@swd _ _ o60_2.eq_1) := @swd _ _ o60_2.eq_1
def o60_3 : List SO := ((SO.mk (some 10) (.slice 29 (.tmp 9) (some (.const (Value.int .i64 4))) (some (.const (Value.int .i64 8)))) none) :: (SO.mk (some 11) (.call 73 [(.tmp 10)]) none) :: (SO.mk (some 12) (.move (.tmp 0)) none) :: (SO.mk (some 13) (.iaddr 29 (.tmp 12) (.const (Value.int .i64 8))) none) :: o60_2)
theorem v60_3 : type_of% (@swd _ _ o60_3.eq_1) := @swd _ _ o60_3.eq_1
def o60_4 : List SO := ((SO.mk (some 6) (.move (.tmp 0)) none) :: (SO.mk (some 7) (.slice 29 (.tmp 6) none (some (.const (Value.int .i64 4)))) none) :: (SO.mk (some 8) (.call 73 [(.tmp 7)]) none) :: (SO.mk (some 9) (.move (.tmp 0)) none) :: o60_3)
theorem v60_4 : type_of% (@swd _ _ o60_4.eq_1) := @swd _ _ o60_4.eq_1
theorem m60_4 (B : Nat) : mkNames B o60_4 = [B + 4] := (rfl)
def o60_5 : List SO := ((SO.mk (some 40) (.pick (.tmp 32) (.const (Value.bool true)) (.tmp 39)) none) :: [])
theorem v60_5 : type_of% (@swl _ _ o60_5.eq_1) := @swl _ _ o60_5.eq_1
def o60_6 : List SO := ((SO.mk (some 36) (.move (.tmp 35)) (some (32 , false))) :: (SO.mk (some 37) (.move (.tmp 5)) (some (36 , true))) :: (SO.mk (some 38) (.bin .lss 3 (.tmp 37) (.const (Value.int .i64 52))) (some (36 , true))) :: (SO.mk (some 39) (.pick (.tmp 36) (.tmp 38) (.const (Value.bool false))) (some (32 , false))) :: o60_5)
theorem v60_6 : type_of% (@swl _ _ o60_6.eq_1) := @swl _ _ o60_6.eq_1
def o60_7 : List SO := ((SO.mk (some 32) (.move (.tmp 31)) none) :: (SO.mk (some 33) (.faddr 96 (.tmp 4) 3) (some (32 , false))) :: (SO.mk (some 34) (.load 4 (.tmp 33)) (some (32 , false))) :: (SO.mk (some 35) (.un .not (.tmp 34)) (some (32 , false))) :: o60_6)
theorem v60_7 : type_of% (@swl _ _ o60_7.eq_1) := @swl _ _ o60_7.eq_1
def o60_8 : List SO := ((SO.mk (some 28) (.move (.tmp 27)) none) :: (SO.mk (some 29) (.move (.tmp 5)) (some (28 , false))) :: (SO.mk (some 30) (.bin .gtr 3 (.tmp 29) (.const (Value.int .i64 52))) (some (28 , false))) :: (SO.mk (some 31) (.pick (.tmp 28) (.const (Value.bool true)) (.tmp 30)) none) :: o60_7)
theorem v60_8 : type_of% (@swl _ _ o60_8.eq_1) := @swl _ _ o60_8.eq_1
def c60_9 : SC := (.seq (.reg [SO.mk (some 41) (.build 96 []) none, SO.mk none (.store 96 (.tmp 2) (.tmp 41)) none, SO.mk (some 3) (.move (.const (Value.bool false))) none]) (.keep [2, 3] .ret))
theorem u60_9 : type_of% (@swc _ _ c60_9.eq_1) := @swc _ _ c60_9.eq_1
def c60_10 : SC := (.cond (.tmp 40) c60_9 .skip)
theorem u60_10 : type_of% (@swc _ _ c60_10.eq_1) := @swc _ _ c60_10.eq_1
def o60_11 : List SO := ((SO.mk (some 46) (.faddr 96 (.tmp 4) 4) none) :: (SO.mk none (.store 29 (.tmp 46) (.tmp 45)) none) :: [])
theorem v60_11 : type_of% (@swl _ _ o60_11.eq_1) := @swl _ _ o60_11.eq_1
def c60_12 : SC := (.seq (.reg [SO.mk (some 47) (.load 96 (.tmp 4)) none, SO.mk none (.store 96 (.tmp 2) (.tmp 47)) none, SO.mk (some 3) (.move (.const (Value.bool true))) none]) (.keep [2, 3] .ret))
theorem u60_12 : type_of% (@swc _ _ c60_12.eq_1) := @swc _ _ c60_12.eq_1
def c60_13 : SC := (.seq (.reg ((SO.mk (some 42) (.move (.tmp 0)) none) :: (SO.mk (some 43) (.move (.tmp 5)) none) :: (SO.mk (some 44) (.bin .add 3 (.const (Value.int .i64 12)) (.tmp 43)) none) :: (SO.mk (some 45) (.slice 29 (.tmp 42) (some (.const (Value.int .i64 12))) (some (.tmp 44))) none) :: o60_11)) (.keep [4, 2] c60_12))
theorem u60_13 : type_of% (@swc _ _ c60_13.eq_1) := @swc _ _ c60_13.eq_1
def c60_14 : SC := (.seq (.seq (.reg ((SO.mk (some 24) (.move (.tmp 0)) none) :: (SO.mk (some 25) (.iaddr 29 (.tmp 24) (.const (Value.int .i64 9))) none) :: (SO.mk (some 26) (.load 5 (.tmp 25)) none) :: (SO.mk (some 27) (.bin .gtr 5 (.tmp 26) (.const (Value.int .u8 1))) none) :: o60_8)) (.keep [40, 0, 5, 4, 2] c60_10)) (.keep [0, 5, 4, 2] c60_13))
theorem u60_14 : type_of% (@swc _ _ c60_14.eq_1) := @swc _ _ c60_14.eq_1
def c60_15 : SC := (.seq (.reg [SO.mk (some 21) (.move (.tmp 0)) none, SO.mk (some 22) (.slice 29 (.tmp 21) (some (.const (Value.int .i64 10))) (some (.const (Value.int .i64 12)))) none, SO.mk (some 23) (.call 73 [(.tmp 22)]) none, SO.mk (some 5) (.move (.tmp 23)) none]) (.keep [0, 5, 4, 2] c60_14))
theorem u60_15 : type_of% (@swc _ _ c60_15.eq_1) := @swc _ _ c60_15.eq_1
def c60_16 : SC := (.seq (.dreg false o60_4 [SO.mk none (.store 96 (.tmp 4) (.tmp 20)) none]) (.keep [0, 4, 2] c60_15))
theorem u60_16 : type_of% (@swc _ _ c60_16.eq_1) := @swc _ _ c60_16.eq_1
def c60 : SC := (.seq (.reg [SO.mk (some 2) (.alloc 96) none, SO.mk (some 3) (.move (.const (Value.bool false))) none]) (.keep [0, 2] c60_16))
theorem c60_eq : annC Try.f60 = some c60 := by kernel_rfl
theorem r60 : Try.f60.results.toList = [.cell 2 96, .tmp 3] := by kernel_rfl
theorem e60 : enters Try.prog 60 = true := by kernel_rfl
end Go.Proofs.Ytalhjhmphdgaoaa
namespace Go.Proofs.Ytalhjhmphdgaoaa
open Go.RowKit
set_option maxHeartbeats 4000000
set_option maxRecDepth 20000
attribute [local irreducible] SW SWL SWLn SWD SEcall SEcallv SDv SE SO1 SOg ACalls ACallv Wk EndV
set_option linter.unusedSimpArgs false
set_option linter.unusedVariables false
def fL9 (b : List UInt8) : Int := (b[9]!.toNat : Int)
def fI8 (b : List UInt8) : Int := (b[8]!.toNat : Int)
def fOk (b : List UInt8) : Bool := !(decide (fL9 b > 1) || decide (nA b 10 2 > 52) || !(fL9 b == 1) && decide (nA b 10 2 < 52))
def fE (b : List UInt8) : Int := bif fOk b then nA b 0 4 else 0
def fNo (b : List UInt8) : Int := bif fOk b then nA b 4 4 else 0
def fI (b : List UInt8) : Int := bif fOk b then fI8 b else 0
def fL (b : List UInt8) : Bool := bif fOk b then fL9 b == 1 else false
def fB (b : List UInt8) : List UInt8 := bif fOk b then (b.drop 12).take (nA b 10 2).toNat else []
theorem nA_b (b : List UInt8) (lo : Nat) {n : Nat} (h : n ≤ 4) : 0 ≤ nA b lo n ∧ nA b lo n < 4294967296 := numK_7 _ h
theorem fB_len (b : List UInt8) : (fB b).length ≤ 52 := by
  unfold fB
  cases h : fOk b
  · simp
  · simp only [fOk, Bool.not_eq_true', Bool.or_eq_false_iff, decide_eq_false_iff_not] at h
    simp only [cond_true, List.length_take, List.length_drop]
    omega
def frAv (b : List UInt8) : AV := .tup [.agg [I (fE b), I (fNo b), I (fI b), Bo (fL b), .d (bytes (fB b))], Bo (fOk b)]
theorem frAv_ok {b : List UInt8} (h : fOk b = true) : AV.tup [.agg [I (nA b 0 4), I (nA b 4 4), I (fI8 b), Bo (fL9 b == 1), .d (bytes ((b.drop 12).take (nA b 10 2).toNat))], Bo true] = frAv b := by
  unfold frAv fE fNo fI fL fB; rw [h]; rfl
theorem frAv_no {b : List UInt8} (h : fOk b = false) : AV.tup [.agg [I 0, I 0, I 0, Bo false, .d (.ro [])], Bo false] = frAv b := by
  unfold frAv fE fNo fI fL fB; rw [h]; rfl
theorem frameOf_p (b : List UInt8) (hb : b.length = 64) : Pure Try.prog 60 [.d (bytes b)] (frAv b) := by
  refine pureY_of follows Try.func60 c60_eq r60 (Nat.le_of_ble_eq_true rfl) fun B σ hcl hsz => ?_
  clear hsz
  have hn := nA_b b 10 (n := 2) (by omega)
  have hw1 : IntKind.i64.wrap (12 + nA b 10 2) = 12 + nA b 10 2 := IntWalk.i64_in _ (by omega)
  repeat' (first | (simp -implicitDefEqProofs only [*, contN, contC, Nat.reduceBEq, Bool.or_false, Bool.or_true, Bool.false_or, Bool.true_or, Bool.not_true, Bool.not_false, w_skip, w_ret, w_exit, w_reg, w_dreg, w_seq, SK_n, SK_r, SK_x, w_keep, w_block, w_cond, w_nil, w_cons, w_consg, w_nnil, w_ncons, w_dnil, w_dcons, w_dconsg, HK_app, HD_app, HQ_n, HQ_r, HQ_x, HQ_bn, HQ_br, HQ_bx, HQ_en, HQ_er, HQ_ex, CondB_true, CondB_false, SO1, w_sdv, SDe_alloc, SDe_box, SDe_bslice, SDe_app, true_imp_iff, false_imp_iff, and_false, false_and, not_false_eq_true, not_true_eq_false, addN, mkNames, killT, killD, killO, List.foldl_nil, List.foldl_cons, List.append_nil, List.nil_append, List.cons_append, GuardS_true, GuardS_false, GuardD_true, GuardD_false, DK_true, DK_false, lt_self_add, le_self_add, decide_true, decide_false, Bool.false_eq_true, Bool.true_eq_false, Nat.add_left_cancel_iff, SE, SEalloc, SEbox, SEstore, w_bs, SEbl, SEfz, SEbs0, fzName, osOf, AV.fz1, w_app, w_mk, aev, opd, Fr.get, putO, Fr.norm, List.map_cons, List.map_nil, with1, with2, onInt, AV.lit, entry, ↓reduceIte, Nat.reduceEqDiff, Nat.reduceAdd, reduceCtorEq, true_and, and_true, Option.map_some, Option.map_none, Option.bind_some, Option.bind_none, cond_true, cond_false, binV, unV, fieldV, loadV, sto, cellsAV, newF, newL, Fr.map, Loc.kill, Loc.set, AO.kill, AV.kill, AV.mapN, AV.mapNL, List.filter_nil, List.filter_cons, allP, EndV, retV, resV, resL, frz, dropL, AV.pick, nilV, tupV, imp_self, ne_eq, Int.cast_ofNat_Int, Int.reduceLT, Int.reduceToNat, List.getD_cons_zero, List.getD_cons_succ, bsliceV, buildV, afill, repl, chunk, rvs, AV.rv, RV.nrm, List.getElem?_nil, List.append_assoc, Nat.reduceMul, Nat.reducePow, Nat.zero_lt_succ, Nat.zero_add, Nat.add_zero, List.length_cons, List.length_nil, Nat.reduceLeDiff, Nat.le_refl, List.take_succ_cons, List.take_zero, List.drop_succ_cons, List.drop_zero, indexV, lenV, rowOf_mapD, rowOf_mapI, rowOf_mapA, List.length_map, Int.toNat_natCast, List.getElem?_cons_zero, List.getElem?_cons_succ, and_self, implies_true, if_true, if_false, HQ_zn, HQ_zr, HQ_wn, HQ_wr, AV.nz, AV.nzL, RV.nrm, SEbin, SEnil, nilK, srcV, dstV, appName, List.length_append, Nat.mul_one, take_map_len, take_map_app, List.getElem?_cons_zero, List.map_append, SEmkmap, SEmset, mgetV, kvOf, getM, setM, c60, r60, v60_1, v60_2, v60_3, v60_4, m60_4, v60_5, v60_6, v60_7, v60_8, u60_9, u60_10, v60_11, u60_12, u60_13, u60_14, u60_15, u60_16, ty96, ty29, ty5, ty3, ty4, bytes, by_, convV, ← List.map_take, ← List.map_drop, bnd, sliceV, Option.getD_some, Option.getD_none, Rows_byV, HQ_yn, HQ_yr, Loc.nz, AO.nz]) | (with_reducible refine And.intro ?_ ?_) | (refine call_ro e73 ( value_at b hb 0 4 (by omega) (by omega)) rfl ?_ ?_ ?_ ?_) | (refine gcall_ro e73 ( value_at b hb 0 4 (by omega) (by omega)) rfl ?_ ?_ ?_ ?_) | (refine dcall_ro e73 ( value_at b hb 0 4 (by omega) (by omega)) rfl ?_ ?_ ?_ ?_) | (refine gdcall_ro rfl e73 ( value_at b hb 0 4 (by omega) (by omega)) rfl ?_ ?_ ?_ ?_) | (refine call_ro e73 ( value_at b hb 4 4 (by omega) (by omega)) rfl ?_ ?_ ?_ ?_) | (refine gcall_ro e73 ( value_at b hb 4 4 (by omega) (by omega)) rfl ?_ ?_ ?_ ?_) | (refine dcall_ro e73 ( value_at b hb 4 4 (by omega) (by omega)) rfl ?_ ?_ ?_ ?_) | (refine gdcall_ro rfl e73 ( value_at b hb 4 4 (by omega) (by omega)) rfl ?_ ?_ ?_ ?_) | (refine call_ro e73 ( value_at b hb 10 2 (by omega) (by omega)) rfl ?_ ?_ ?_ ?_) | (refine gcall_ro e73 ( value_at b hb 10 2 (by omega) (by omega)) rfl ?_ ?_ ?_ ?_) | (refine dcall_ro e73 ( value_at b hb 10 2 (by omega) (by omega)) rfl ?_ ?_ ?_ ?_) | (refine gdcall_ro rfl e73 ( value_at b hb 10 2 (by omega) (by omega)) rfl ?_ ?_ ?_ ?_) | (refine EndX.plain ?_) | (refine nil_split (fun hn => ?_) (fun hn => ?_)) | (refine gcall_no not_false ?_) | (refine gdcall_no not_false ?_) | (refine GuardS_of _ _ _ _ _ _ (fun hg => ?_) (fun hg => ?_)) | (refine GuardD_of _ _ _ _ (fun hg => ?_) (fun hg => ?_)) | (refine CondB_of _ _ _ _ _ _ _ ?_ (fun hg => ?_) (fun hg => ?_)))
  all_goals (try (first | ((first | unfold noN | unfold Fr.below | unfold Loc.below); simp [Fr.allN, AV.allN, AV.allNL, AO.allN]; done) | rfl | trivial | assumption | (intro row hrow; simp only [List.mem_map] at hrow; obtain ⟨x, _, rfl⟩ := hrow; rfl) | (refine Wk.keep hcl ?_ ?_ ?_; (focus (simp [Fr.get, bytes, by_, convV, ← List.map_take, ← List.map_drop, bnd, sliceV, Option.getD_some, Option.getD_none, Rows_byV, HQ_yn, HQ_yr, Loc.nz, AO.nz] <;> fail)); (focus (simp [sto, bytes, by_, convV, ← List.map_take, ← List.map_drop, bnd, sliceV, Option.getD_some, Option.getD_none, Rows_byV, HQ_yn, HQ_yr, Loc.nz, AO.nz] <;> fail)); (focus (simp <;> fail))) | (simp [allP, opd, Fr.get, Fr.below, Fr.allN, AV.allN, AV.allNL, Loc.below, AO.allN, noN, killO, killT, killD, mkNames, AO.kill, AV.kill, AV.mapN, AV.mapNL]; done) | (with_reducible exact ltD (by assumption)) | omega | (simp only [decide_eq_true_eq, decide_eq_false_iff_not] at *; omega)))
  all_goals (try (simp [avName, loadNames, opd, Fr.get]; done))
  all_goals (
    have h8 : IntKind.i64.wrap (b[8]!.toNat : Int) = fI8 b := by
      have := b[8]!.toNat_lt
      exact IntWalk.i64_in _ (by omega)
    have h12 : (12 + nA b 10 2).toNat - 12 = (nA b 10 2).toNat := by omega
    try rw [h8, h12]
    first
    | (refine frAv_no ?_; unfold fOk fL9; simp only [*, Bool.false_or, Bool.true_or, Bool.or_true, Bool.or_false, Bool.and_true, Bool.true_and, Bool.false_and, Bool.and_false, Bool.not_true, Bool.not_false, cond_true, cond_false]; done)
    | (refine frAv_ok ?_; unfold fOk fL9; simp only [*, Bool.false_or, Bool.true_or, Bool.or_true, Bool.or_false, Bool.and_true, Bool.true_and, Bool.false_and, Bool.and_false, Bool.not_true, Bool.not_false, cond_true, cond_false]; done))
end Go.Proofs.Ytalhjhmphdgaoaa
