/- An own array that is only read from a call on; a copy of numbers. -/
import Derived.Test.YtkcfnhfbdcnhjaaBase
import Derived.Test.YtkcfnhfbdcnhjaaTypes
namespace Go.Proofs.Ytkcfnhfbdcnhjaa
open Go.RowKit
set_option maxRecDepth 100000
/-- icehouse_icehouselaw.ints -/
def c19_1 : SC := (.seq (.reg [SO.mk (some 3) (.move (.tmp 0)) none, SO.mk (some 4) (.app 40 40 (.const (Value.slice none 0 0)) (.tmp 3)) none, SO.mk (some 2) (.move (.tmp 4)) none]) (.keep [2] .ret))
theorem u19_1 (P : Program) (B : Nat) (T0 : List Nat) (r : Sto) (Q : Ex → Fr → Loc → Prop) (a : Fr) (l : Loc) : SW P B T0 r c19_1 Q a l = SW P B T0 r (.seq (.reg [SO.mk (some 3) (.move (.tmp 0)) none, SO.mk (some 4) (.app 40 40 (.const (Value.slice none 0 0)) (.tmp 3)) none, SO.mk (some 2) (.move (.tmp 4)) none]) (.keep [2] .ret)) Q a l := (rfl)
def c19 : SC := (.seq (.reg [SO.mk (some 2) (.move (.const (Value.slice none 0 0))) none]) (.keep [0] c19_1))
theorem c19_eq : annC Try.f19 = some c19 := by kernel_rfl
theorem r19 : Try.f19.results.toList = [.tmp 2] := by kernel_rfl
theorem e19 : enters Try.prog 19 = true := by kernel_rfl
end Go.Proofs.Ytkcfnhfbdcnhjaa
namespace Go.Proofs.Ytkcfnhfbdcnhjaa
open Go.RowKit
set_option maxHeartbeats 4000000
set_option maxRecDepth 20000
attribute [local irreducible] SW SWL SWLn SWD SEcall SEcallv SDv SE SO1 SOg ACalls ACallv Wk EndV
set_option linter.unusedSimpArgs false
set_option linter.unusedVariables false
/-- an own array, only read from now on -/
theorem Wk.freeze {B : Nat} {T0 : List Nat} {r : Sto} {a : Fr} {l : Loc} {m k : Nat} {E : TypeId} {rows : List (List RV)} (hB : ClosedS B r) (hm : B ≤ m) (ho : sto l r m = .arr k E rows) : Wk B T0 r a l (Fr.map (AV.fz1 m rows) a) (Loc.kill m l) := by
  unfold Wk
  intro t w K h1 h2
  obtain ⟨K', g1, g2⟩ := freeze_ok (N := t.size) (T0 := T0) (act := { tmps := t, defers := [] }) hB ⟨h1, h2, rfl, rfl⟩ hm ho
  exact ⟨K', g1, g2.rs, g2.rf⟩
theorem call_fz {P : Program} {B : Nat} {T0 : List Nat} {r : Sto} {a : Fr} {l : Loc} {d : Option Nat} {K : Fr → Loc → Prop} {f : FuncId} {args : List Operand} {vs : List AV} {v : AV} {m k : Nat} {E : TypeId} {rows : List (List RV)} (hB : ClosedS B r) (hm : B ≤ m) (ho : sto l r m = .arr k E rows) (he : enters P f = true) (hC : Pure P f vs v) (hv : (args.map fun x => (opd (Fr.map (AV.fz1 m rows) a) x).2) = vs) (hp : allP (args.map fun x => (opd (Fr.map (AV.fz1 m rows) a) x).1)) (hF : Fr.below (B + 100000) (Fr.map (AV.fz1 m rows) a)) (hL : Loc.below (B + 100000) (Loc.kill m l)) (hk : K (putO d v (Fr.map (AV.fz1 m rows) a)) (Loc.kill m l)) : SEcall P B T0 r d K a l f args := by
  unfold SEcall
  unfold Pure at hC
  exact ⟨[], fun v' σ' => v' = v ∧ σ' = sto (Loc.kill m l) r, _, _, Wk.freeze hB hm ho, he, by simp, by rw [hv]; exact hC _ _, hp, hF, hL, fun v' σ' ⟨h1, h2⟩ => ⟨_, h2, by rw [h1]; exact hk⟩⟩
theorem intsC_p (l : List Int) (h : l.length * 8 ≤ 2 ^ 47) : Pure Try.prog 19 [.d (ints l)] (.d (ints l)) := by
  refine pureZ_of follows Try.func19 c19_eq r19 (Nat.le_of_ble_eq_true rfl) fun B σ hcl hsz => ?_
  clear hsz
  repeat' (first | (simp -implicitDefEqProofs only [*, contN, contC, Nat.reduceBEq, Bool.or_false, Bool.or_true, Bool.false_or, Bool.true_or, Bool.not_true, Bool.not_false, w_skip, w_ret, w_exit, w_reg, w_dreg, w_seq, SK_n, SK_r, SK_x, w_keep, w_block, w_cond, w_nil, w_cons, w_consg, w_nnil, w_ncons, w_dnil, w_dcons, w_dconsg, HK_app, HD_app, HQ_n, HQ_r, HQ_x, HQ_bn, HQ_br, HQ_bx, HQ_en, HQ_er, HQ_ex, CondB_true, CondB_false, SO1, w_sdv, SDe_alloc, SDe_box, SDe_bslice, SDe_app, true_imp_iff, false_imp_iff, and_false, false_and, not_false_eq_true, not_true_eq_false, addN, mkNames, killT, killD, killO, List.foldl_nil, List.foldl_cons, List.append_nil, List.nil_append, List.cons_append, GuardS_true, GuardS_false, GuardD_true, GuardD_false, DK_true, DK_false, lt_self_add, le_self_add, decide_true, decide_false, Bool.false_eq_true, Bool.true_eq_false, Nat.add_left_cancel_iff, SE, SEalloc, SEbox, SEstore, w_bs, SEbl, SEfz, SEbs0, fzName, osOf, AV.fz1, w_app, w_mk, aev, opd, Fr.get, putO, Fr.norm, List.map_cons, List.map_nil, with1, with2, onInt, AV.lit, entry, ↓reduceIte, Nat.reduceEqDiff, Nat.reduceAdd, reduceCtorEq, true_and, and_true, Option.map_some, Option.map_none, Option.bind_some, Option.bind_none, cond_true, cond_false, binV, unV, fieldV, loadV, sto, cellsAV, newF, newL, Fr.map, Loc.kill, Loc.set, AO.kill, AV.kill, AV.mapN, AV.mapNL, List.filter_nil, List.filter_cons, allP, EndV, retV, resV, resL, frz, dropL, AV.pick, nilV, tupV, imp_self, ne_eq, Int.cast_ofNat_Int, Int.reduceLT, Int.reduceToNat, List.getD_cons_zero, List.getD_cons_succ, bsliceV, buildV, afill, repl, chunk, rvs, AV.rv, RV.nrm, List.getElem?_nil, List.append_assoc, Nat.reduceMul, Nat.reducePow, Nat.zero_lt_succ, Nat.zero_add, Nat.add_zero, List.length_cons, List.length_nil, Nat.reduceLeDiff, Nat.le_refl, List.take_succ_cons, List.take_zero, List.drop_succ_cons, List.drop_zero, indexV, lenV, rowOf_mapD, rowOf_mapI, rowOf_mapA, List.length_map, Int.toNat_natCast, List.getElem?_cons_zero, List.getElem?_cons_succ, and_self, implies_true, if_true, if_false, HQ_zn, HQ_zr, HQ_wn, HQ_wr, AV.nz, AV.nzL, RV.nrm, SEbin, SEnil, nilK, srcV, dstV, appName, List.length_append, Nat.mul_one, take_map_len, take_map_app, List.getElem?_cons_zero, List.map_append, c19, r19, u19_1, ty40, ty3, ints]) | (with_reducible refine And.intro ?_ ?_) | (refine EndX.plain ?_) | (refine nil_split (fun hn => ?_) (fun hn => ?_)) | (refine gcall_no not_false ?_) | (refine gdcall_no not_false ?_) | (refine GuardS_of _ _ _ _ _ _ (fun hg => ?_) (fun hg => ?_)) | (refine GuardD_of _ _ _ _ (fun hg => ?_) (fun hg => ?_)) | (refine CondB_of _ _ _ _ _ _ _ ?_ (fun hg => ?_) (fun hg => ?_)))
  all_goals (try (first | ((first | unfold noN | unfold Fr.below | unfold Loc.below); simp [Fr.allN, AV.allN, AV.allNL, AO.allN]; done) | rfl | trivial | assumption | (intro row hrow; simp only [List.mem_map] at hrow; obtain ⟨x, _, rfl⟩ := hrow; rfl) | (refine Wk.keep hcl ?_ ?_ ?_; (focus (simp [Fr.get, ints] <;> fail)); (focus (simp [sto, ints] <;> fail)); (focus (simp <;> fail))) | (simp [allP, opd, Fr.get, Fr.below, Fr.allN, AV.allN, AV.allNL, Loc.below, AO.allN, noN, killO, killT, killD, mkNames, AO.kill, AV.kill, AV.mapN, AV.mapNL]; done) | (with_reducible exact ltD (by assumption)) | omega | (simp only [decide_eq_true_eq, decide_eq_false_iff_not] at *; omega)))
end Go.Proofs.Ytkcfnhfbdcnhjaa
