/- Bytes cut into pieces of 64. -/
import Derived.Test.YtkcfnhfbdcnhjaaBase
import Derived.Test.YtkcfnhfbdcnhjaaTypes
namespace Go.Proofs.Ytkcfnhfbdcnhjaa
open Go.RowKit
set_option maxRecDepth 100000
/-- icehouse_icehouseref.chunk -/
def c47_1 : SC := (.reg [SO.mk (some 19) (.move (.tmp 0)) none, SO.mk (some 20) (.len 29 (.tmp 19)) none, SO.mk (some 7) (.move (.tmp 20)) none])
theorem u47_1 (P : Program) (B : Nat) (T0 : List Nat) (r : Sto) (Q : Ex → Fr → Loc → Prop) (a : Fr) (l : Loc) : SW P B T0 r c47_1 Q a l = SW P B T0 r (.reg [SO.mk (some 19) (.move (.tmp 0)) none, SO.mk (some 20) (.len 29 (.tmp 19)) none, SO.mk (some 7) (.move (.tmp 20)) none]) Q a l := (rfl)
def c47_2 : SC := (.cond (.tmp 18) c47_1 .skip)
theorem u47_2 (P : Program) (B : Nat) (T0 : List Nat) (r : Sto) (Q : Ex → Fr → Loc → Prop) (a : Fr) (l : Loc) : SW P B T0 r c47_2 Q a l = SW P B T0 r (.cond (.tmp 18) c47_1 .skip) Q a l := (rfl)
def c47_3 : SC := (.reg [SO.mk (some 25) (.move (.tmp 0)) none, SO.mk (some 26) (.len 29 (.tmp 25)) none, SO.mk (some 8) (.move (.tmp 26)) none])
theorem u47_3 (P : Program) (B : Nat) (T0 : List Nat) (r : Sto) (Q : Ex → Fr → Loc → Prop) (a : Fr) (l : Loc) : SW P B T0 r c47_3 Q a l = SW P B T0 r (.reg [SO.mk (some 25) (.move (.tmp 0)) none, SO.mk (some 26) (.len 29 (.tmp 25)) none, SO.mk (some 8) (.move (.tmp 26)) none]) Q a l := (rfl)
def c47_4 : SC := (.cond (.tmp 24) c47_3 .skip)
theorem u47_4 (P : Program) (B : Nat) (T0 : List Nat) (r : Sto) (Q : Ex → Fr → Loc → Prop) (a : Fr) (l : Loc) : SW P B T0 r c47_4 Q a l = SW P B T0 r (.cond (.tmp 24) c47_3 .skip) Q a l := (rfl)
def c47_5 : SC := (.seq (.reg [SO.mk (some 27) (.move (.tmp 0)) none, SO.mk (some 28) (.move (.tmp 7)) none, SO.mk (some 29) (.move (.tmp 8)) none, SO.mk (some 30) (.slice 29 (.tmp 27) (some (.tmp 28)) (some (.tmp 29))) none, SO.mk (some 6) (.move (.tmp 30)) none]) (.keep [6] .ret))
theorem u47_5 (P : Program) (B : Nat) (T0 : List Nat) (r : Sto) (Q : Ex → Fr → Loc → Prop) (a : Fr) (l : Loc) : SW P B T0 r c47_5 Q a l = SW P B T0 r (.seq (.reg [SO.mk (some 27) (.move (.tmp 0)) none, SO.mk (some 28) (.move (.tmp 7)) none, SO.mk (some 29) (.move (.tmp 8)) none, SO.mk (some 30) (.slice 29 (.tmp 27) (some (.tmp 28)) (some (.tmp 29))) none, SO.mk (some 6) (.move (.tmp 30)) none]) (.keep [6] .ret)) Q a l := (rfl)
def c47_6 : SC := (.seq (.seq (.reg [SO.mk (some 21) (.move (.tmp 8)) none, SO.mk (some 22) (.move (.tmp 0)) none, SO.mk (some 23) (.len 29 (.tmp 22)) none, SO.mk (some 24) (.bin .gtr 3 (.tmp 21) (.tmp 23)) none]) (.keep [24, 0, 7, 8] c47_4)) (.keep [0, 7, 8] c47_5))
theorem u47_6 (P : Program) (B : Nat) (T0 : List Nat) (r : Sto) (Q : Ex → Fr → Loc → Prop) (a : Fr) (l : Loc) : SW P B T0 r c47_6 Q a l = SW P B T0 r (.seq (.seq (.reg [SO.mk (some 21) (.move (.tmp 8)) none, SO.mk (some 22) (.move (.tmp 0)) none, SO.mk (some 23) (.len 29 (.tmp 22)) none, SO.mk (some 24) (.bin .gtr 3 (.tmp 21) (.tmp 23)) none]) (.keep [24, 0, 7, 8] c47_4)) (.keep [0, 7, 8] c47_5)) Q a l := (rfl)
def c47_7 : SC := (.seq (.seq (.reg [SO.mk (some 15) (.move (.tmp 7)) none, SO.mk (some 16) (.move (.tmp 0)) none, SO.mk (some 17) (.len 29 (.tmp 16)) none, SO.mk (some 18) (.bin .gtr 3 (.tmp 15) (.tmp 17)) none]) (.keep [18, 0, 7, 8] c47_2)) (.keep [0, 7, 8] c47_6))
theorem u47_7 (P : Program) (B : Nat) (T0 : List Nat) (r : Sto) (Q : Ex → Fr → Loc → Prop) (a : Fr) (l : Loc) : SW P B T0 r c47_7 Q a l = SW P B T0 r (.seq (.seq (.reg [SO.mk (some 15) (.move (.tmp 7)) none, SO.mk (some 16) (.move (.tmp 0)) none, SO.mk (some 17) (.len 29 (.tmp 16)) none, SO.mk (some 18) (.bin .gtr 3 (.tmp 15) (.tmp 17)) none]) (.keep [18, 0, 7, 8] c47_2)) (.keep [0, 7, 8] c47_6)) Q a l := (rfl)
def c47_8 : SC := (.seq (.reg [SO.mk (some 12) (.move (.tmp 7)) none, SO.mk (some 13) (.move (.tmp 2)) none, SO.mk (some 14) (.bin .add 3 (.tmp 12) (.tmp 13)) none, SO.mk (some 8) (.move (.tmp 14)) none]) (.keep [0, 7, 8] c47_7))
theorem u47_8 (P : Program) (B : Nat) (T0 : List Nat) (r : Sto) (Q : Ex → Fr → Loc → Prop) (a : Fr) (l : Loc) : SW P B T0 r c47_8 Q a l = SW P B T0 r (.seq (.reg [SO.mk (some 12) (.move (.tmp 7)) none, SO.mk (some 13) (.move (.tmp 2)) none, SO.mk (some 14) (.bin .add 3 (.tmp 12) (.tmp 13)) none, SO.mk (some 8) (.move (.tmp 14)) none]) (.keep [0, 7, 8] c47_7)) Q a l := (rfl)
def c47_9 : SC := (.seq (.reg [SO.mk (some 9) (.move (.tmp 1)) none, SO.mk (some 10) (.move (.tmp 2)) none, SO.mk (some 11) (.bin .mul 3 (.tmp 9) (.tmp 10)) none, SO.mk (some 7) (.move (.tmp 11)) none]) (.keep [2, 0, 7] c47_8))
theorem u47_9 (P : Program) (B : Nat) (T0 : List Nat) (r : Sto) (Q : Ex → Fr → Loc → Prop) (a : Fr) (l : Loc) : SW P B T0 r c47_9 Q a l = SW P B T0 r (.seq (.reg [SO.mk (some 9) (.move (.tmp 1)) none, SO.mk (some 10) (.move (.tmp 2)) none, SO.mk (some 11) (.bin .mul 3 (.tmp 9) (.tmp 10)) none, SO.mk (some 7) (.move (.tmp 11)) none]) (.keep [2, 0, 7] c47_8)) Q a l := (rfl)
def c47 : SC := (.seq (.reg [SO.mk (some 6) (.move (.const (Value.slice none 0 0))) none]) (.keep [1, 2, 0] c47_9))
theorem c47_eq : annC Try.f47 = some c47 := by kernel_rfl
theorem r47 : Try.f47.results.toList = [.tmp 6] := by kernel_rfl
theorem e47 : enters Try.prog 47 = true := by kernel_rfl
end Go.Proofs.Ytkcfnhfbdcnhjaa
namespace Go.Proofs.Ytkcfnhfbdcnhjaa
open Go.RowKit
set_option maxHeartbeats 4000000
set_option maxRecDepth 20000
attribute [local irreducible] SW SWL SWLn SWD SEcall SEcallv SDv SE SO1 SOg ACalls ACallv Wk EndV
set_option linter.unusedSimpArgs false
set_option linter.unusedVariables false
theorem Rows_byK (l : List UInt8) : Rows (l.map by_) 1 = True := by
  refine eq_true ?_
  intro r hr
  simp only [List.mem_map] at hr; obtain ⟨x, _, rfl⟩ := hr; rfl
def chB (b : List UInt8) (i : Nat) : List UInt8 := (b.drop (i * 64)).take 64
theorem chunk_p (b : List UInt8) (i : Nat) (hi : i ≤ 2 ^ 20) (hb : b.length ≤ 2 ^ 40) : Pure Try.prog 47 [.d (bytes b), I i, I 64] (.d (bytes (chB b i))) := by
  refine pureZ_of follows Try.func47 c47_eq r47 (Nat.le_of_ble_eq_true rfl) fun B σ hcl hsz => ?_
  clear hsz
  have h1 : IntKind.i64.wrap ((i : Int) * 64) = (i : Int) * 64 := IntWalk.i64_in _ (by omega)
  have h2 : IntKind.i64.wrap ((i : Int) * 64 + 64) = (i : Int) * 64 + 64 := IntWalk.i64_in _ (by omega)
  repeat' (first | (simp -implicitDefEqProofs only [*, contN, contC, Nat.reduceBEq, Bool.or_false, Bool.or_true, Bool.false_or, Bool.true_or, Bool.not_true, Bool.not_false, w_skip, w_ret, w_exit, w_reg, w_dreg, w_seq, SK_n, SK_r, SK_x, w_keep, w_block, w_cond, w_nil, w_cons, w_consg, w_nnil, w_ncons, w_dnil, w_dcons, w_dconsg, HK_app, HD_app, HQ_n, HQ_r, HQ_x, HQ_bn, HQ_br, HQ_bx, HQ_en, HQ_er, HQ_ex, CondB_true, CondB_false, SO1, w_sdv, SDe_alloc, SDe_box, SDe_bslice, SDe_app, true_imp_iff, false_imp_iff, and_false, false_and, not_false_eq_true, not_true_eq_false, addN, mkNames, killT, killD, killO, List.foldl_nil, List.foldl_cons, List.append_nil, List.nil_append, List.cons_append, GuardS_true, GuardS_false, GuardD_true, GuardD_false, DK_true, DK_false, lt_self_add, le_self_add, decide_true, decide_false, Bool.false_eq_true, Bool.true_eq_false, Nat.add_left_cancel_iff, SE, SEalloc, SEbox, SEstore, w_bs, SEbl, SEfz, SEbs0, fzName, osOf, AV.fz1, w_app, w_mk, aev, opd, Fr.get, putO, Fr.norm, List.map_cons, List.map_nil, with1, with2, onInt, AV.lit, entry, ↓reduceIte, Nat.reduceEqDiff, Nat.reduceAdd, reduceCtorEq, true_and, and_true, Option.map_some, Option.map_none, Option.bind_some, Option.bind_none, cond_true, cond_false, binV, unV, fieldV, loadV, sto, cellsAV, newF, newL, Fr.map, Loc.kill, Loc.set, AO.kill, AV.kill, AV.mapN, AV.mapNL, List.filter_nil, List.filter_cons, allP, EndV, retV, resV, resL, frz, dropL, AV.pick, nilV, tupV, imp_self, ne_eq, Int.cast_ofNat_Int, Int.reduceLT, Int.reduceToNat, List.getD_cons_zero, List.getD_cons_succ, bsliceV, buildV, afill, repl, chunk, rvs, AV.rv, RV.nrm, List.getElem?_nil, List.append_assoc, Nat.reduceMul, Nat.reducePow, Nat.zero_lt_succ, Nat.zero_add, Nat.add_zero, List.length_cons, List.length_nil, Nat.reduceLeDiff, Nat.le_refl, List.take_succ_cons, List.take_zero, List.drop_succ_cons, List.drop_zero, indexV, lenV, rowOf_mapD, rowOf_mapI, rowOf_mapA, List.length_map, Int.toNat_natCast, List.getElem?_cons_zero, List.getElem?_cons_succ, and_self, implies_true, if_true, if_false, HQ_zn, HQ_zr, HQ_wn, HQ_wr, AV.nz, AV.nzL, RV.nrm, SEbin, SEnil, nilK, srcV, dstV, appName, List.length_append, Nat.mul_one, take_map_len, take_map_app, List.getElem?_cons_zero, List.map_append, c47, r47, u47_1, u47_2, u47_3, u47_4, u47_5, u47_6, u47_7, u47_8, u47_9, ty3, ty29, ty5, bytes, bnd, sliceV, Option.getD_some, Option.getD_none, Rows_byK, Nat.sub_zero, ← List.map_take, ← List.map_drop]) | (with_reducible refine And.intro ?_ ?_) | (refine EndX.plain ?_) | (refine nil_split (fun hn => ?_) (fun hn => ?_)) | (refine gcall_no not_false ?_) | (refine gdcall_no not_false ?_) | (refine GuardS_of _ _ _ _ _ _ (fun hg => ?_) (fun hg => ?_)) | (refine GuardD_of _ _ _ _ (fun hg => ?_) (fun hg => ?_)) | (refine CondB_of _ _ _ _ _ _ _ ?_ (fun hg => ?_) (fun hg => ?_)))
  all_goals (try (first | ((first | unfold noN | unfold Fr.below | unfold Loc.below); simp [Fr.allN, AV.allN, AV.allNL, AO.allN]; done) | rfl | trivial | assumption | (intro row hrow; simp only [List.mem_map] at hrow; obtain ⟨x, _, rfl⟩ := hrow; rfl) | (refine Wk.keep hcl ?_ ?_ ?_; (focus (simp [Fr.get, bytes, bnd, sliceV, Option.getD_some, Option.getD_none, Rows_byK, Nat.sub_zero, ← List.map_take, ← List.map_drop] <;> fail)); (focus (simp [sto, bytes, bnd, sliceV, Option.getD_some, Option.getD_none, Rows_byK, Nat.sub_zero, ← List.map_take, ← List.map_drop] <;> fail)); (focus (simp <;> fail))) | (simp [allP, opd, Fr.get, Fr.below, Fr.allN, AV.allN, AV.allNL, Loc.below, AO.allN, noN, killO, killT, killD, mkNames, AO.kill, AV.kill, AV.mapN, AV.mapNL]; done) | (with_reducible exact ltD (by assumption)) | omega | (simp only [decide_eq_true_eq, decide_eq_false_iff_not] at *; omega)))
  all_goals (
    have e1 : ((i : Int) * 64).toNat = i * 64 := by omega
    have e2 : ((i : Int) * 64 + 64).toNat = i * 64 + 64 := by omega
    simp only [decide_eq_true_eq, decide_eq_false_iff_not] at *
    first
    | (have e : chB b i = [] := by rw [chB, List.drop_of_length_le (by omega)]; rfl
       rw [e, Nat.sub_self]; rfl)
    | (rw [e1]
       have e : chB b i = List.take (b.length - i * 64) (List.drop (i * 64) b) := by
         rw [chB, List.take_of_length_le (by rw [List.length_drop]; omega), List.take_of_length_le (by rw [List.length_drop]; omega)]
       rw [e])
    | (rw [e1, e2, chB, show i * 64 + 64 - i * 64 = 64 by omega]))
end Go.Proofs.Ytkcfnhfbdcnhjaa
