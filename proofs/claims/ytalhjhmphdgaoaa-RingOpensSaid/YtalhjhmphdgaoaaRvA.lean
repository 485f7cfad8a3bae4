/- Numbers read from bytes. -/
import Derived.Test.YtalhjhmphdgaoaaBase
import Derived.Test.YtalhjhmphdgaoaaTypes
namespace Go.Proofs.Ytalhjhmphdgaoaa
open Go.RowKit
set_option maxRecDepth 100000
def c42_1 : SC := (.cond (.tmp 8) .skip (.exit 0))
theorem u42_1 : type_of% (@swc _ _ c42_1.eq_1) := @swc _ _ c42_1.eq_1
def o42_2 : List SO := ((SO.mk (some 3) (.move (.tmp 18)) none) :: [])
theorem v42_2 : type_of% (@swl _ _ o42_2.eq_1) := @swl _ _ o42_2.eq_1
def o42_3 : List SO := ((SO.mk (some 15) (.iaddr 29 (.tmp 13) (.tmp 14)) none) :: (SO.mk (some 16) (.load 5 (.tmp 15)) none) :: (SO.mk (some 17) (.conv 5 3 (.tmp 16)) none) :: (SO.mk (some 18) (.bin .add 3 (.tmp 12) (.tmp 17)) none) :: o42_2)
theorem v42_3 : type_of% (@swl _ _ o42_3.eq_1) := @swl _ _ o42_3.eq_1
def c42_4 : SC := (.reg [SO.mk (some 9) (.move (.tmp 4)) none, SO.mk (some 10) (.bin .add 3 (.tmp 9) (.const (Value.int .i64 1))) none, SO.mk (some 4) (.move (.tmp 10)) none])
theorem u42_4 : type_of% (@swc _ _ c42_4.eq_1) := @swc _ _ c42_4.eq_1
def c42_5 : SC := (.seq (.block 1 (.reg ((SO.mk (some 11) (.move (.tmp 3)) none) :: (SO.mk (some 12) (.bin .mul 3 (.const (Value.int .i64 256)) (.tmp 11)) none) :: (SO.mk (some 13) (.move (.tmp 0)) none) :: (SO.mk (some 14) (.move (.tmp 4)) none) :: o42_3))) (.keep [4, 0, 3] c42_4))
theorem u42_5 : type_of% (@swc _ _ c42_5.eq_1) := @swc _ _ c42_5.eq_1
def c42_6 : SC := (.seq (.seq (.reg [SO.mk (some 5) (.move (.tmp 4)) none, SO.mk (some 6) (.move (.tmp 0)) none, SO.mk (some 7) (.len 29 (.tmp 6)) none, SO.mk (some 8) (.bin .lss 3 (.tmp 5) (.tmp 7)) none]) (.keep [8, 0, 4, 3] c42_1)) (.keep [3, 4, 0] c42_5))
theorem u42_6 : type_of% (@swc _ _ c42_6.eq_1) := @swc _ _ c42_6.eq_1
def c42_7 : SC := (.block 0 (.loop (.keep [0, 4, 3] c42_6)))
theorem u42_7 : type_of% (@swc _ _ c42_7.eq_1) := @swc _ _ c42_7.eq_1
def c42_8 : SC := (.seq (.reg [SO.mk (some 19) (.move (.tmp 3)) none, SO.mk (some 2) (.move (.tmp 19)) none]) (.keep [2] .ret))
theorem u42_8 : type_of% (@swc _ _ c42_8.eq_1) := @swc _ _ c42_8.eq_1
def c42_9 : SC := (.seq (.seq (.reg [SO.mk (some 4) (.move (.const (Value.int .i64 0))) none]) (.keep [0, 4, 3] c42_7)) (.keep [3] c42_8))
theorem u42_9 : type_of% (@swc _ _ c42_9.eq_1) := @swc _ _ c42_9.eq_1
def c42_10 : SC := (.seq (.reg [SO.mk (some 3) (.move (.const (Value.int .i64 0))) none]) (.keep [0, 3] c42_9))
theorem u42_10 : type_of% (@swc _ _ c42_10.eq_1) := @swc _ _ c42_10.eq_1
def c42 : SC := (.seq (.reg [SO.mk (some 2) (.move (.const (Value.int .i64 0))) none]) (.keep [0] c42_10))
theorem c42_eq : annC Try.f42 = some c42 := by kernel_rfl
theorem r42 : Try.f42.results.toList = [.tmp 2] := by kernel_rfl
theorem e42 : enters Try.prog 42 = true := by kernel_rfl
def o73_1 : List SO := ((SO.mk (some 16) (.bin .or 3 (.tmp 13) (.tmp 15)) none) :: (SO.mk (some 3) (.move (.tmp 16)) none) :: [])
theorem v73_1 : type_of% (@swl _ _ o73_1.eq_1) := @swl _ _ o73_1.eq_1
def c73_2 : SC := (.reg ((SO.mk (some 12) (.move (.tmp 3)) none) :: (SO.mk (some 13) (.bin .shl 3 (.tmp 12) (.const (Value.int .u64 8))) none) :: (SO.mk (some 14) (.move (.tmp 5)) none) :: (SO.mk (some 15) (.conv 5 3 (.tmp 14)) none) :: o73_1))
theorem u73_2 : type_of% (@swc _ _ c73_2.eq_1) := @swc _ _ c73_2.eq_1
def c73_3 : SC := (.reg [SO.mk (some 17) (.bin .add 3 (.tmp 8) (.const (Value.int .i64 1))) none, SO.mk (some 8) (.move (.tmp 17)) none])
theorem u73_3 : type_of% (@swc _ _ c73_3.eq_1) := @swc _ _ c73_3.eq_1
def c73_4 : SC := (.seq (.block 1 (.seq (.reg [SO.mk (some 10) (.iaddr 29 (.tmp 6) (.tmp 8)) none, SO.mk (some 11) (.load 5 (.tmp 10)) none, SO.mk (some 5) (.move (.tmp 11)) none]) (.keep [3, 5, 8, 7, 6] c73_2))) (.keep [8, 7, 6, 3] c73_3))
theorem u73_4 : type_of% (@swc _ _ c73_4.eq_1) := @swc _ _ c73_4.eq_1
def c73_5 : SC := (.seq (.cond (.tmp 9) .skip (.exit 0)) (.keep [3, 8, 7, 6] c73_4))
theorem u73_5 : type_of% (@swc _ _ c73_5.eq_1) := @swc _ _ c73_5.eq_1
def c73_6 : SC := (.seq (.reg [SO.mk (some 9) (.bin .lss 3 (.tmp 8) (.tmp 7)) none]) (.keep [9, 6, 7, 8, 3] c73_5))
theorem u73_6 : type_of% (@swc _ _ c73_6.eq_1) := @swc _ _ c73_6.eq_1
def c73_7 : SC := (.block 0 (.loop (.keep [6, 7, 8, 3] c73_6)))
theorem u73_7 : type_of% (@swc _ _ c73_7.eq_1) := @swc _ _ c73_7.eq_1
def c73_8 : SC := (.seq (.reg [SO.mk (some 18) (.move (.tmp 3)) none, SO.mk (some 2) (.move (.tmp 18)) none]) (.keep [2] .ret))
theorem u73_8 : type_of% (@swc _ _ c73_8.eq_1) := @swc _ _ c73_8.eq_1
def c73_9 : SC := (.seq (.seq (.reg [SO.mk (some 6) (.move (.tmp 0)) none, SO.mk (some 7) (.len 29 (.tmp 6)) none, SO.mk (some 8) (.move (.const (Value.int .i64 0))) none]) (.keep [6, 7, 8, 3] c73_7)) (.keep [3] c73_8))
theorem u73_9 : type_of% (@swc _ _ c73_9.eq_1) := @swc _ _ c73_9.eq_1
def c73_10 : SC := (.seq (.reg [SO.mk (some 3) (.move (.const (Value.int .i64 0))) none]) (.keep [0, 3] c73_9))
theorem u73_10 : type_of% (@swc _ _ c73_10.eq_1) := @swc _ _ c73_10.eq_1
def c73 : SC := (.seq (.reg [SO.mk (some 2) (.move (.const (Value.int .i64 0))) none]) (.keep [0] c73_10))
theorem c73_eq : annC Try.f73 = some c73 := by kernel_rfl
theorem r73 : Try.f73.results.toList = [.tmp 2] := by kernel_rfl
theorem e73 : enters Try.prog 73 = true := by kernel_rfl
end Go.Proofs.Ytalhjhmphdgaoaa
namespace Go.Proofs.Ytalhjhmphdgaoaa
open Go.RowKit
set_option maxHeartbeats 4000000
set_option maxRecDepth 20000
attribute [local irreducible] SW SWL SWLn SWD SEcall SEcallv SDv SE SO1 SOg ACalls ACallv Wk EndV
set_option linter.unusedSimpArgs false
set_option linter.unusedVariables false
def numK (l : List UInt8) : Nat → Int
  | 0 => 0
  | k + 1 => 256 * numK l k + (l[k]!.toNat : Int)
theorem numK_0 (l : List UInt8) : numK l 0 = 0 := rfl
theorem numK_le (l : List UInt8) : ∀ k, 0 ≤ numK l k ∧ numK l k < 256 ^ k
  | 0 => by simp [numK]
  | k + 1 => by
    obtain ⟨h1, h2⟩ := numK_le l k
    have h3 : (l[k]!.toNat : Int) < 256 := by have := l[k]!.toNat_lt; omega
    have h4 : (256 : Int) ^ (k + 1) = 256 ^ k * 256 := by rw [Int.pow_succ]
    simp only [numK]
    omega
theorem numK_7 (l : List UInt8) {k : Nat} (hk : k ≤ 4) : 0 ≤ numK l k ∧ numK l k < 4294967296 := by
  have := numK_le l k
  have : (256 : Int) ^ k ≤ 256 ^ 4 := by
    match k, hk with
    | 0, _ => decide
    | 1, _ => decide
    | 2, _ => decide
    | 3, _ => decide
    | 4, _ => decide
  have e : (256 : Int) ^ 4 = 4294967296 := by decide
  omega
theorem small_p (l : List UInt8) (hl : l.length ≤ 4) : Pure Try.prog 42 [.d (bytes l)] (I (numK l l.length)) := by
  refine pure_of follows Try.func42 c42_eq r42 (Nat.le_of_ble_eq_true rfl) fun B σ hcl hsz => ?_
  clear hsz
  repeat' (first | (simp -implicitDefEqProofs only [*, contN, contC, Nat.reduceBEq, Bool.or_false, Bool.or_true, Bool.false_or, Bool.true_or, Bool.not_true, Bool.not_false, w_skip, w_ret, w_exit, w_reg, w_dreg, w_seq, SK_n, SK_r, SK_x, w_keep, w_block, w_cond, w_nil, w_cons, w_consg, w_nnil, w_ncons, w_dnil, w_dcons, w_dconsg, HK_app, HD_app, HQ_n, HQ_r, HQ_x, HQ_bn, HQ_br, HQ_bx, HQ_en, HQ_er, HQ_ex, CondB_true, CondB_false, SO1, w_sdv, SDe_alloc, SDe_box, SDe_bslice, SDe_app, true_imp_iff, false_imp_iff, and_false, false_and, not_false_eq_true, not_true_eq_false, addN, mkNames, killT, killD, killO, List.foldl_nil, List.foldl_cons, List.append_nil, List.nil_append, List.cons_append, GuardS_true, GuardS_false, GuardD_true, GuardD_false, DK_true, DK_false, lt_self_add, le_self_add, decide_true, decide_false, Bool.false_eq_true, Bool.true_eq_false, Nat.add_left_cancel_iff, SE, SEalloc, SEbox, SEstore, w_bs, SEbl, SEfz, SEbs0, fzName, osOf, AV.fz1, w_app, w_mk, aev, opd, Fr.get, putO, Fr.norm, List.map_cons, List.map_nil, with1, with2, onInt, AV.lit, entry, ↓reduceIte, Nat.reduceEqDiff, Nat.reduceAdd, reduceCtorEq, true_and, and_true, Option.map_some, Option.map_none, Option.bind_some, Option.bind_none, cond_true, cond_false, binV, unV, fieldV, loadV, sto, cellsAV, newF, newL, Fr.map, Loc.kill, Loc.set, AO.kill, AV.kill, AV.mapN, AV.mapNL, List.filter_nil, List.filter_cons, allP, EndV, retV, resV, resL, frz, dropL, AV.pick, nilV, tupV, imp_self, ne_eq, Int.cast_ofNat_Int, Int.reduceLT, Int.reduceToNat, List.getD_cons_zero, List.getD_cons_succ, bsliceV, buildV, afill, repl, chunk, rvs, AV.rv, RV.nrm, List.getElem?_nil, List.append_assoc, Nat.reduceMul, Nat.reducePow, Nat.zero_lt_succ, Nat.zero_add, Nat.add_zero, List.length_cons, List.length_nil, Nat.reduceLeDiff, Nat.le_refl, List.take_succ_cons, List.take_zero, List.drop_succ_cons, List.drop_zero, indexV, lenV, rowOf_mapD, rowOf_mapI, rowOf_mapA, List.length_map, Int.toNat_natCast, List.getElem?_cons_zero, List.getElem?_cons_succ, and_self, implies_true, if_true, if_false, HQ_zn, HQ_zr, HQ_wn, HQ_wr, AV.nz, AV.nzL, RV.nrm, SEbin, SEnil, nilK, srcV, dstV, appName, List.length_append, Nat.mul_one, take_map_len, take_map_app, List.getElem?_cons_zero, List.map_append, SEmkmap, SEmset, mgetV, kvOf, getM, setM, c42, r42, u42_1, v42_2, v42_3, u42_4, u42_5, u42_6, u42_7, u42_8, u42_9, u42_10, ty29, ty3, ty5, bytes, by_, numK_0, convV]) | (with_reducible refine And.intro ?_ ?_) | (refine loop_nat (l.length) (fun _ => True) (fun k => [(0, .d (bytes l)), (4, I k), (3, I (numK l k))]) (fun k => []) ?_ (Wk.keep hcl ?_ ?_ ?_) fun k hk hF => ?_; rotate_left 1; (focus (simp [Fr.get, newF, Fr.map, AV.kill, AV.mapN, bytes, by_, numK_0, convV] <;> fail)); (focus (simp [sto, newL, Loc.kill, Loc.set, AO.kill, AV.kill, AV.mapN, bytes, by_, numK_0, convV] <;> fail)); (focus (simp [newL, Loc.kill, Loc.set, bytes, by_, numK_0, convV] <;> fail)); (try have hw : IntKind.i64.wrap ((k : Int) + 1) = (k : Int) + 1 := IntWalk.i64_in _ (by omega))) | (refine EndX.plain ?_) | (refine nil_split (fun hn => ?_) (fun hn => ?_)) | (refine gcall_no not_false ?_) | (refine gdcall_no not_false ?_) | (refine GuardS_of _ _ _ _ _ _ (fun hg => ?_) (fun hg => ?_)) | (refine GuardD_of _ _ _ _ (fun hg => ?_) (fun hg => ?_)) | (refine CondB_of _ _ _ _ _ _ _ ?_ (fun hg => ?_) (fun hg => ?_)))
  all_goals (try (first | ((first | unfold noN | unfold Fr.below | unfold Loc.below); simp [Fr.allN, AV.allN, AV.allNL, AO.allN]; done) | rfl | trivial | assumption | (intro row hrow; simp only [List.mem_map] at hrow; obtain ⟨x, _, rfl⟩ := hrow; rfl) | (refine Wk.keep hcl ?_ ?_ ?_; (focus (simp [Fr.get, bytes, by_, numK_0, convV] <;> fail)); (focus (simp [sto, bytes, by_, numK_0, convV] <;> fail)); (focus (simp <;> fail))) | (simp [allP, opd, Fr.get, Fr.below, Fr.allN, AV.allN, AV.allNL, Loc.below, AO.allN, noN, killO, killT, killD, mkNames, AO.kill, AV.kill, AV.mapN, AV.mapNL]; done) | (with_reducible exact ltD (by assumption)) | omega | (simp only [decide_eq_true_eq, decide_eq_false_iff_not] at *; omega)))
  all_goals first
    | (have hk2 : k < l.length := ltD (by assumption)
       have h1 := numK_7 l (k := k + 1) (by omega)
       have h2 := (numK_le l k).1
       have h3 : (l[k]!.toNat : Int) < 256 := by have := l[k]!.toNat_lt; omega
       have e : numK l (k + 1) = 256 * numK l k + (l[k]!.toNat : Int) := rfl
       rw [IntWalk.i64_in (256 * numK l k) (by omega), IntWalk.i64_in (l[k]!.toNat : Int) (by omega), ← e, IntWalk.i64_in _ (by omega)]
       refine Wk.keep hcl ?_ ?_ ?_ <;> simp [Fr.get, sto])
    | (have hk2 : k = l.length := Nat.le_antisymm hk (geD (by assumption))
       rw [hk2])
theorem or_byte {m y : Nat} (hm : m < 2 ^ 40) (hy : y < 256) : bits BinOp.or IntKind.i64 ((m : Int) * 256) (y : Int) = (m : Int) * 256 + (y : Int) := by
  unfold bits
  have b64 : IntKind.i64.bits = 64 := rfl
  have h1 : (BitVec.ofInt IntKind.i64.bits ((m : Int) * 256)).toNat = m * 256 := by
    rw [b64, BitVec.toNat_ofInt]; omega
  have h2 : (BitVec.ofInt IntKind.i64.bits (y : Int)).toNat = y := by
    rw [b64, BitVec.toNat_ofInt]; omega
  simp only [BitVec.toNat_or, h1, h2]
  have h3 : m * 256 ||| y = m * 256 + y := by
    have := Nat.shiftLeft_add_eq_or_of_lt (i := 8) (b := y) (by omega) m
    rw [Nat.shiftLeft_eq] at this
    exact this.symm
  rw [h3, IntWalk.i64_in _ (by omega)]
  omega
theorem value_p (l : List UInt8) (hl : l.length ≤ 4) : Pure Try.prog 73 [.d (bytes l)] (I (numK l l.length)) := by
  refine pure_of follows Try.func73 c73_eq r73 (Nat.le_of_ble_eq_true rfl) fun B σ hcl hsz => ?_
  clear hsz
  repeat' (first | (simp -implicitDefEqProofs only [*, contN, contC, Nat.reduceBEq, Bool.or_false, Bool.or_true, Bool.false_or, Bool.true_or, Bool.not_true, Bool.not_false, w_skip, w_ret, w_exit, w_reg, w_dreg, w_seq, SK_n, SK_r, SK_x, w_keep, w_block, w_cond, w_nil, w_cons, w_consg, w_nnil, w_ncons, w_dnil, w_dcons, w_dconsg, HK_app, HD_app, HQ_n, HQ_r, HQ_x, HQ_bn, HQ_br, HQ_bx, HQ_en, HQ_er, HQ_ex, CondB_true, CondB_false, SO1, w_sdv, SDe_alloc, SDe_box, SDe_bslice, SDe_app, true_imp_iff, false_imp_iff, and_false, false_and, not_false_eq_true, not_true_eq_false, addN, mkNames, killT, killD, killO, List.foldl_nil, List.foldl_cons, List.append_nil, List.nil_append, List.cons_append, GuardS_true, GuardS_false, GuardD_true, GuardD_false, DK_true, DK_false, lt_self_add, le_self_add, decide_true, decide_false, Bool.false_eq_true, Bool.true_eq_false, Nat.add_left_cancel_iff, SE, SEalloc, SEbox, SEstore, w_bs, SEbl, SEfz, SEbs0, fzName, osOf, AV.fz1, w_app, w_mk, aev, opd, Fr.get, putO, Fr.norm, List.map_cons, List.map_nil, with1, with2, onInt, AV.lit, entry, ↓reduceIte, Nat.reduceEqDiff, Nat.reduceAdd, reduceCtorEq, true_and, and_true, Option.map_some, Option.map_none, Option.bind_some, Option.bind_none, cond_true, cond_false, binV, unV, fieldV, loadV, sto, cellsAV, newF, newL, Fr.map, Loc.kill, Loc.set, AO.kill, AV.kill, AV.mapN, AV.mapNL, List.filter_nil, List.filter_cons, allP, EndV, retV, resV, resL, frz, dropL, AV.pick, nilV, tupV, imp_self, ne_eq, Int.cast_ofNat_Int, Int.reduceLT, Int.reduceToNat, List.getD_cons_zero, List.getD_cons_succ, bsliceV, buildV, afill, repl, chunk, rvs, AV.rv, RV.nrm, List.getElem?_nil, List.append_assoc, Nat.reduceMul, Nat.reducePow, Nat.zero_lt_succ, Nat.zero_add, Nat.add_zero, List.length_cons, List.length_nil, Nat.reduceLeDiff, Nat.le_refl, List.take_succ_cons, List.take_zero, List.drop_succ_cons, List.drop_zero, indexV, lenV, rowOf_mapD, rowOf_mapI, rowOf_mapA, List.length_map, Int.toNat_natCast, List.getElem?_cons_zero, List.getElem?_cons_succ, and_self, implies_true, if_true, if_false, HQ_zn, HQ_zr, HQ_wn, HQ_wr, AV.nz, AV.nzL, RV.nrm, SEbin, SEnil, nilK, srcV, dstV, appName, List.length_append, Nat.mul_one, take_map_len, take_map_app, List.getElem?_cons_zero, List.map_append, SEmkmap, SEmset, mgetV, kvOf, getM, setM, c73, r73, v73_1, u73_2, u73_3, u73_4, u73_5, u73_6, u73_7, u73_8, u73_9, u73_10, ty29, ty3, ty5, bytes, by_, numK_0, convV]) | (with_reducible refine And.intro ?_ ?_) | (refine loop_nat (l.length) (fun _ => True) (fun k => [(6, .d (bytes l)), (7, I l.length), (8, I k), (3, I (numK l k))]) (fun k => []) ?_ (Wk.keep hcl ?_ ?_ ?_) fun k hk hF => ?_; rotate_left 1; (focus (simp [Fr.get, newF, Fr.map, AV.kill, AV.mapN, bytes, by_, numK_0, convV] <;> fail)); (focus (simp [sto, newL, Loc.kill, Loc.set, AO.kill, AV.kill, AV.mapN, bytes, by_, numK_0, convV] <;> fail)); (focus (simp [newL, Loc.kill, Loc.set, bytes, by_, numK_0, convV] <;> fail)); (try have hw : IntKind.i64.wrap ((k : Int) + 1) = (k : Int) + 1 := IntWalk.i64_in _ (by omega))) | (refine EndX.plain ?_) | (refine nil_split (fun hn => ?_) (fun hn => ?_)) | (refine gcall_no not_false ?_) | (refine gdcall_no not_false ?_) | (refine GuardS_of _ _ _ _ _ _ (fun hg => ?_) (fun hg => ?_)) | (refine GuardD_of _ _ _ _ (fun hg => ?_) (fun hg => ?_)) | (refine CondB_of _ _ _ _ _ _ _ ?_ (fun hg => ?_) (fun hg => ?_)))
  all_goals (try (first | ((first | unfold noN | unfold Fr.below | unfold Loc.below); simp [Fr.allN, AV.allN, AV.allNL, AO.allN]; done) | rfl | trivial | assumption | (intro row hrow; simp only [List.mem_map] at hrow; obtain ⟨x, _, rfl⟩ := hrow; rfl) | (refine Wk.keep hcl ?_ ?_ ?_; (focus (simp [Fr.get, bytes, by_, numK_0, convV] <;> fail)); (focus (simp [sto, bytes, by_, numK_0, convV] <;> fail)); (focus (simp <;> fail))) | (simp [allP, opd, Fr.get, Fr.below, Fr.allN, AV.allN, AV.allNL, Loc.below, AO.allN, noN, killO, killT, killD, mkNames, AO.kill, AV.kill, AV.mapN, AV.mapNL]; done) | (with_reducible exact ltD (by assumption)) | omega | (simp only [decide_eq_true_eq, decide_eq_false_iff_not] at *; omega)))
  all_goals first
    | (have hk2 : k < l.length := ltD (by assumption)
       have h1 := numK_7 l (k := k + 1) (by omega)
       have h2 := numK_le l k
       have h3 : l[k]!.toNat < 256 := l[k]!.toNat_lt
       have e : numK l (k + 1) = 256 * numK l k + (l[k]!.toNat : Int) := rfl
       obtain ⟨m, hm⟩ := Int.eq_ofNat_of_zero_le h2.1
       have e8 : (2 : Int) ^ min 8 IntKind.i64.bits = 256 := by decide
       rw [e8, IntWalk.i64_in (numK l k * 256) (by omega), IntWalk.i64_in (l[k]!.toNat : Int) (by omega), hm, or_byte (m := m) (y := l[k]!.toNat) (by omega) h3, show ((m : Int) * 256 + (l[k]!.toNat : Int)) = numK l (k + 1) by omega]
       refine Wk.keep hcl ?_ ?_ ?_ <;> simp [Fr.get, sto])
    | (have hk2 : k = l.length := Nat.le_antisymm hk (geD (by assumption))
       rw [hk2])
end Go.Proofs.Ytalhjhmphdgaoaa
