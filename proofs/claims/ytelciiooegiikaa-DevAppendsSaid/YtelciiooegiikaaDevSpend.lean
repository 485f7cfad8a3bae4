/- Devices in one's own memory, for one thing more. -/
import Derived.Test.YtelciiooegiikaaDevCopy
import Derived.Test.YtelciiooegiikaaNz
import Derived.Test.YtelciiooegiikaaTypes
namespace Go.Proofs.Ytelciiooegiikaa
open Go.RowKit
set_option maxRecDepth 100000
def c12_1 : SC := (.seq (.reg [SO.mk (some 13) (.build 28 []) none, SO.mk (some 14) (.move (.tmp 6)) none, SO.mk none (.store 28 (.tmp 4) (.tmp 13)) none, SO.mk (some 5) (.move (.tmp 14)) none]) (.keep [4, 5] .ret))
theorem u12_1 : type_of% (@swc _ _ c12_1.eq_1) := @swc _ _ c12_1.eq_1
def c12_2 : SC := (.cond (.tmp 12) c12_1 .skip)
theorem u12_2 : type_of% (@swc _ _ c12_2.eq_1) := @swc _ _ c12_2.eq_1
def c12_3 : SC := (.seq (.reg [SO.mk (some 11) (.move (.tmp 6)) none, SO.mk (some 12) (.bin .neq 31 (.tmp 11) (.const (Value.int .i64 0))) none]) (.keep [12, 6, 3, 4] c12_2))
theorem u12_3 : type_of% (@swc _ _ c12_3.eq_1) := @swc _ _ c12_3.eq_1
def c12_4 : SC := (.seq (.reg [SO.mk (some 18) (.build 28 []) none, SO.mk none (.store 28 (.tmp 4) (.tmp 18)) none, SO.mk (some 5) (.move (.const (Value.int .i64 10))) none]) (.keep [4, 5] .ret))
theorem u12_4 : type_of% (@swc _ _ c12_4.eq_1) := @swc _ _ c12_4.eq_1
def c12_5 : SC := (.cond (.tmp 17) c12_4 .skip)
theorem u12_5 : type_of% (@swc _ _ c12_5.eq_1) := @swc _ _ c12_5.eq_1
def c12_6 : SC := (.reg [SO.mk (some 24) (.faddr 28 (.tmp 7) 3) none, SO.mk (some 25) (.load 3 (.tmp 24)) none, SO.mk (some 26) (.bin .sub 3 (.tmp 25) (.const (Value.int .i64 1))) none, SO.mk (some 27) (.faddr 28 (.tmp 7) 3) none, SO.mk none (.store 3 (.tmp 27) (.tmp 26)) none])
theorem u12_6 : type_of% (@swc _ _ c12_6.eq_1) := @swc _ _ c12_6.eq_1
def c12_7 : SC := (.cond (.tmp 23) c12_6 .skip)
theorem u12_7 : type_of% (@swc _ _ c12_7.eq_1) := @swc _ _ c12_7.eq_1
def c12_8 : SC := (.seq (.reg [SO.mk (some 28) (.load 28 (.tmp 7)) none, SO.mk none (.store 28 (.tmp 4) (.tmp 28)) none, SO.mk (some 5) (.move (.const (Value.int .i64 0))) none]) (.keep [4, 5] .ret))
theorem u12_8 : type_of% (@swc _ _ c12_8.eq_1) := @swc _ _ c12_8.eq_1
def c12_9 : SC := (.seq (.seq (.reg [SO.mk (some 21) (.faddr 28 (.tmp 7) 3) none, SO.mk (some 22) (.load 3 (.tmp 21)) none, SO.mk (some 23) (.bin .gtr 3 (.tmp 22) (.const (Value.int .i64 0))) none]) (.keep [23, 7, 4] c12_7)) (.keep [7, 4] c12_8))
theorem u12_9 : type_of% (@swc _ _ c12_9.eq_1) := @swc _ _ c12_9.eq_1
def c12_10 : SC := (.seq (.reg [SO.mk (some 19) (.load 28 (.tmp 3)) none, SO.mk (some 20) (.call 25 [(.tmp 19)]) none, SO.mk (some 7) (.alloc 28) none, SO.mk none (.store 28 (.tmp 7) (.tmp 20)) none]) (.keep [7, 4] c12_9))
theorem u12_10 : type_of% (@swc _ _ c12_10.eq_1) := @swc _ _ c12_10.eq_1
def c12_11 : SC := (.seq (.seq (.reg [SO.mk (some 15) (.faddr 28 (.tmp 3) 3) none, SO.mk (some 16) (.load 3 (.tmp 15)) none, SO.mk (some 17) (.bin .eql 3 (.tmp 16) (.const (Value.int .i64 0))) none]) (.keep [17, 3, 4] c12_5)) (.keep [3, 4] c12_10))
theorem u12_11 : type_of% (@swc _ _ c12_11.eq_1) := @swc _ _ c12_11.eq_1
def c12_12 : SC := (.seq (.seq (.reg [SO.mk (some 8) (.load 23 (.tmp 2)) none, SO.mk (some 9) (.load 28 (.tmp 3)) none, SO.mk (some 10) (.call 10 [(.tmp 8), (.tmp 9)]) none, SO.mk (some 6) (.move (.tmp 10)) none]) (.keep [6, 3, 4] c12_3)) (.keep [3, 4] c12_11))
theorem u12_12 : type_of% (@swc _ _ c12_12.eq_1) := @swc _ _ c12_12.eq_1
def c12 : SC := (.seq (.reg [SO.mk (some 2) (.box 23 (.tmp 0)) none, SO.mk (some 3) (.box 28 (.tmp 1)) none, SO.mk (some 4) (.alloc 28) none, SO.mk (some 5) (.move (.const (Value.int .i64 0))) none]) (.keep [2, 3, 4] c12_12))
theorem c12_eq : annC Try.f12 = some c12 := by kernel_rfl
theorem r12 : Try.f12.results.toList = [.cell 4 28, .tmp 5] := by kernel_rfl
theorem e12 : enters Try.prog 12 = true := by kernel_rfl
def c15_1 : SC := (.seq (.reg [SO.mk (some 8) (.build 28 []) none, SO.mk none (.store 28 (.tmp 2) (.tmp 8)) none, SO.mk (some 3) (.move (.const (Value.int .i64 10))) none]) (.keep [2, 3] .ret))
theorem u15_1 : type_of% (@swc _ _ c15_1.eq_1) := @swc _ _ c15_1.eq_1
def c15_2 : SC := (.cond (.tmp 7) c15_1 .skip)
theorem u15_2 : type_of% (@swc _ _ c15_2.eq_1) := @swc _ _ c15_2.eq_1
def c15_3 : SC := (.reg [SO.mk (some 14) (.faddr 28 (.tmp 1) 3) none, SO.mk (some 15) (.load 3 (.tmp 14)) none, SO.mk (some 16) (.bin .sub 3 (.tmp 15) (.const (Value.int .i64 1))) none, SO.mk (some 17) (.faddr 28 (.tmp 4) 3) none, SO.mk none (.store 3 (.tmp 17) (.tmp 16)) none])
theorem u15_3 : type_of% (@swc _ _ c15_3.eq_1) := @swc _ _ c15_3.eq_1
def c15_4 : SC := (.cond (.tmp 13) c15_3 .skip)
theorem u15_4 : type_of% (@swc _ _ c15_4.eq_1) := @swc _ _ c15_4.eq_1
def c15_5 : SC := (.seq (.reg [SO.mk (some 18) (.load 28 (.tmp 4)) none, SO.mk none (.store 28 (.tmp 2) (.tmp 18)) none, SO.mk (some 3) (.move (.const (Value.int .i64 0))) none]) (.keep [2, 3] .ret))
theorem u15_5 : type_of% (@swc _ _ c15_5.eq_1) := @swc _ _ c15_5.eq_1
def c15_6 : SC := (.seq (.seq (.reg [SO.mk (some 11) (.faddr 28 (.tmp 1) 3) none, SO.mk (some 12) (.load 3 (.tmp 11)) none, SO.mk (some 13) (.bin .gtr 3 (.tmp 12) (.const (Value.int .i64 0))) none]) (.keep [13, 1, 4, 2] c15_4)) (.keep [4, 2] c15_5))
theorem u15_6 : type_of% (@swc _ _ c15_6.eq_1) := @swc _ _ c15_6.eq_1
def c15_7 : SC := (.seq (.reg [SO.mk (some 9) (.load 28 (.tmp 1)) none, SO.mk (some 10) (.call 4 [(.tmp 9)]) none, SO.mk (some 4) (.alloc 28) none, SO.mk none (.store 28 (.tmp 4) (.tmp 10)) none]) (.keep [1, 4, 2] c15_6))
theorem u15_7 : type_of% (@swc _ _ c15_7.eq_1) := @swc _ _ c15_7.eq_1
def c15_8 : SC := (.seq (.seq (.reg [SO.mk (some 5) (.faddr 28 (.tmp 1) 3) none, SO.mk (some 6) (.load 3 (.tmp 5)) none, SO.mk (some 7) (.bin .eql 3 (.tmp 6) (.const (Value.int .i64 0))) none]) (.keep [7, 1, 2] c15_2)) (.keep [1, 2] c15_7))
theorem u15_8 : type_of% (@swc _ _ c15_8.eq_1) := @swc _ _ c15_8.eq_1
def c15 : SC := (.seq (.reg [SO.mk (some 1) (.box 28 (.tmp 0)) none, SO.mk (some 2) (.alloc 28) none, SO.mk (some 3) (.move (.const (Value.int .i64 0))) none]) (.keep [1, 2] c15_8))
theorem c15_eq : annC Try.f15 = some c15 := by kernel_rfl
theorem r15 : Try.f15.results.toList = [.cell 2 28, .tmp 3] := by kernel_rfl
theorem e15 : enters Try.prog 15 = true := by kernel_rfl
end Go.Proofs.Ytelciiooegiikaa
namespace Go.Proofs.Ytelciiooegiikaa
open Go.RowKit
set_option maxHeartbeats 4000000
set_option maxRecDepth 20000
attribute [local irreducible] SW OSW SWL SWLn SWD SEcall SEcallv SDv SE SO1 SOg ACalls ACallv Wk EndV
set_option linter.unusedSimpArgs false
set_option linter.unusedVariables false
theorem Free3.up {B : Nat} {σ : Sto} {m1 m2 m3 : Nat} (h : Free3 B σ m1 m2 m3) {l : Loc} (h1 : ∀ p ∈ l, p.2.kill m1 = p.2 ∧ p.2.kill m2 = p.2 ∧ p.2.kill m3 = p.2) : Free3 (B + 100000) (sto l σ) m1 m2 m3 where
  b1 := by have := h.b1; omega
  b2 := by have := h.b2; omega
  b3 := by have := h.b3; omega
  k1 := sto_all (q := fun o => o.kill m1 = o) (fun p hp => (h1 p hp).1) h.k1
  k2 := sto_all (q := fun o => o.kill m2 = o) (fun p hp => (h1 p hp).2.1) h.k2
  k3 := sto_all (q := fun o => o.kill m3 = o) (fun p hp => (h1 p hp).2.2) h.k3
  h12 := h.h12
  h13 := h.h13
  h23 := h.h23
theorem Free3.new {B : Nat} {r : Sto} (hr : ClosedS B r) {l : Loc} (h1 : ∀ p ∈ l, p.2.kill (B + 90001) = p.2 ∧ p.2.kill (B + 90002) = p.2 ∧ p.2.kill (B + 90003) = p.2) : Free3 (B + 100000) (sto l r) (B + 90001) (B + 90002) (B + 90003) where
  b1 := by omega
  b2 := by omega
  b3 := by omega
  k1 := sto_all (q := fun o => o.kill (B + 90001) = o) (fun p hp => (h1 p hp).1) fun n => AO.kill_below (q := fun m => decide (m < B)) (by simp) _ (hr n).1
  k2 := sto_all (q := fun o => o.kill (B + 90002) = o) (fun p hp => (h1 p hp).2.1) fun n => AO.kill_below (q := fun m => decide (m < B)) (by simp) _ (hr n).1
  k3 := sto_all (q := fun o => o.kill (B + 90003) = o) (fun p hp => (h1 p hp).2.2) fun n => AO.kill_below (q := fun m => decide (m < B)) (by simp) _ (hr n).1
  h12 := by omega
  h13 := by omega
  h23 := by omega
def nilD : DevD := ⟨[], [], [], 0⟩
def fuel1 (d : DevD) : Int := bif decide (d.fuel > 0) then IntKind.i64.wrap (d.fuel - 1) else d.fuel
def spendE (g : GeoD) (d : DevD) : Int := bif devF g d != 0 then devF g d else bif d.fuel == 0 then 10 else 0
theorem spend_bad (g : GeoD) (d : DevD) (he : spendE g d ≠ 0) : Pure Try.prog 12 [g.av, d.av] (.tup [nilD.av, I (spendE g d)]) := by
  refine pureY_of follows Try.func12 c12_eq r12 (Nat.le_of_ble_eq_true rfl) fun B σ hcl hsz => ?_
  clear hsz
  unfold spendE at he ⊢
  rcases devE_or g d with h1 | ⟨h1, h1'⟩ <;> cases h2 : d.fuel == 0 <;> simp only [*, Bool.false_or, Bool.true_or, Bool.or_true, Bool.or_false, Bool.and_true, Bool.true_and, Bool.false_and, Bool.and_false, Bool.not_true, Bool.not_false, cond_true, cond_false, bne_self_eq_false] at he ⊢ <;> (try (exact absurd rfl he))
  repeat' (first | (simp -implicitDefEqProofs only [*, contN, contC, Nat.reduceBEq, Bool.or_false, Bool.or_true, Bool.false_or, Bool.true_or, Bool.not_true, Bool.not_false, SEconv, w_skip, w_ret, w_exit, w_reg, w_dreg, w_oreg, HO_app, w_odone, w_onil, w_ofst, w_obr, w_seq, SK_n, SK_r, SK_x, w_keep, w_block, w_cond, w_nil, w_cons, w_consg, w_nnil, w_ncons, w_dnil, w_dcons, w_dconsg, HK_app, HD_app, HQ_n, HQ_r, HQ_x, HQ_bn, HQ_br, HQ_bx, HQ_en, HQ_er, HQ_ex, CondB_true, CondB_false, SO1, w_sdv, SDe_alloc, SDe_box, SDe_bslice, SDe_app, true_imp_iff, false_imp_iff, and_false, false_and, not_false_eq_true, not_true_eq_false, addN, mkNames, killT, killD, killO, List.foldl_nil, List.foldl_cons, List.append_nil, List.nil_append, List.cons_append, GuardS_true, GuardS_false, GuardD_true, GuardD_false, DK_true, DK_false, lt_self_add, le_self_add, decide_true, decide_false, Bool.false_eq_true, Bool.true_eq_false, Nat.add_left_cancel_iff, SE, SEalloc, SEbox, SEstore, w_bs, SEbl, SEfz, SEbs0, fzName, osOf, AV.fz1, w_app, w_mk, aev, opd, Fr.get, putO, Fr.norm, List.map_cons, List.map_nil, with1, with2, onInt, AV.lit, entry, ↓reduceIte, Nat.reduceEqDiff, Nat.reduceAdd, reduceCtorEq, true_and, and_true, Option.map_some, Option.map_none, Option.bind_some, Option.bind_none, cond_true, cond_false, binV, unV, fieldV, loadV, sto, cellsAV, newF, newL, Fr.map, Loc.kill, Loc.set, AO.kill, AV.kill, AV.mapN, AV.mapNL, List.filter_nil, List.filter_cons, allP, EndV, retV, resV, resL, frz, dropL, AV.pick, nilV, tupV, imp_self, ne_eq, Int.cast_ofNat_Int, Int.reduceLT, Int.reduceToNat, List.getD_cons_zero, List.getD_cons_succ, bsliceV, buildV, afill, repl, chunk, rvs, AV.rv, RV.nrm, List.getElem?_nil, List.append_assoc, Nat.reduceMul, Nat.reducePow, Nat.zero_lt_succ, Nat.zero_add, Nat.add_zero, List.length_cons, List.length_nil, Nat.reduceLeDiff, Nat.le_refl, List.take_succ_cons, List.take_zero, List.drop_succ_cons, List.drop_zero, indexV, lenV, rowOf_mapD, rowOf_mapI, rowOf_mapA, List.length_map, Int.toNat_natCast, List.getElem?_cons_zero, List.getElem?_cons_succ, and_self, implies_true, if_true, if_false, HQ_zn, HQ_zr, HQ_wn, HQ_wr, AV.nz, AV.nzL, RV.nrm, SEbin, SEnil, nilK, srcV, dstV, appName, List.length_append, Nat.mul_one, take_map_len, take_map_app, List.getElem?_cons_zero, List.map_append, SEmkmap, SEmset, mgetV, kvOf, getM, setM, w_bsH, SEapA, SEapB, bsliceA, c12, r12, u12_1, u12_2, u12_3, u12_4, u12_5, u12_6, u12_7, u12_8, u12_9, u12_10, u12_11, u12_12, ty23, ty28, ty31, ty3, GeoD.av, DevD.av, nilD, bne_self_eq_false, HQ_yn, HQ_yr, Loc.nz, AO.nz]) | (with_reducible refine And.intro ?_ ?_) | (refine call_ro e10 ( check_p g d) rfl ?_ ?_ ?_ ?_) | (refine gcall_ro e10 ( check_p g d) rfl ?_ ?_ ?_ ?_) | (refine dcall_ro e10 ( check_p g d) rfl ?_ ?_ ?_ ?_) | (refine gdcall_ro rfl e10 ( check_p g d) rfl ?_ ?_ ?_ ?_) | (refine EndX.plain ?_) | (refine nil_split (fun hn => ?_) (fun hn => ?_)) | (refine gcall_no not_false ?_) | (refine gdcall_no not_false ?_) | (refine GuardS_of _ _ _ _ _ _ (fun hg => ?_) (fun hg => ?_)) | (refine GuardD_of _ _ _ _ (fun hg => ?_) (fun hg => ?_)) | (refine CondB_of _ _ _ _ _ _ _ ?_ (fun hg => ?_) (fun hg => ?_)))
  all_goals (try (first | ((first | unfold noN | unfold Fr.below | unfold Loc.below); simp [Fr.allN, AV.allN, AV.allNL, AO.allN]; done) | rfl | trivial | assumption | (intro row hrow; simp only [List.mem_map] at hrow; obtain ⟨x, _, rfl⟩ := hrow; rfl) | (refine Wk.keep hcl ?_ ?_ ?_; (focus (simp [Fr.get, GeoD.av, DevD.av, nilD, bne_self_eq_false, HQ_yn, HQ_yr, Loc.nz, AO.nz] <;> fail)); (focus (simp [sto, GeoD.av, DevD.av, nilD, bne_self_eq_false, HQ_yn, HQ_yr, Loc.nz, AO.nz] <;> fail)); (focus (simp <;> fail))) | (simp [allP, opd, Fr.get, Fr.below, Fr.allN, AV.allN, AV.allNL, Loc.below, AO.allN, noN, killO, killT, killD, mkNames, AO.kill, AV.kill, AV.mapN, AV.mapNL]; done) | (with_reducible exact ltD (by assumption)) | omega | (simp only [decide_eq_true_eq, decide_eq_false_iff_not] at *; omega)))
theorem spend_good (g : GeoD) (d : DevD) (hw : d.fit) (h1 : devF g d = 0) (h2 : (d.fuel == 0) = false) (B : Nat) (σ : Sto) (m1 m2 m3 : Nat) (hf : Free3 B σ m1 m2 m3) : ACalls Try.prog 12 [g.av, d.av] σ B [m1, m2, m3] (fun v σ' => v = .tup [devA m1 m2 m3 d.safe.length d.cache.length d.vols.length (fuel1 d), I 0] ∧ σ' = sto (devL m1 m2 m3 d.safe d.cache d.vols) σ) := by
  refine own_of follows Try.func12 c12_eq r12 (Nat.le_of_ble_eq_true rfl) fun hcl hsz => ?_
  clear hsz
  have hf' := hf
  obtain ⟨b1, b2, b3, k1, k2, k3, h12, h13, h23⟩ := hf'
  have y1 := nbF b1
  have y2 := nbF b2
  have y3 := nbF b3
  have y4 := nbF' b1
  have y5 := nbF' b2
  have y6 := nbF' b3
  have y7 := nbL b1
  have y8 := nbL b2
  have y9 := nbL b3
  have y10 := neF h12
  have y11 := neF h13
  have y12 := neF h23
  have y13 := neF' h12
  have y14 := neF' h13
  have y15 := neF' h23
  have g1 : decide (m1 < B + 100000) = true := by simp; omega
  have g2 : decide (m2 < B + 100000) = true := by simp; omega
  have g3 : decide (m3 < B + 100000) = true := by simp; omega
  repeat' (first | (simp -implicitDefEqProofs only [*, contN, contC, Nat.reduceBEq, Bool.or_false, Bool.or_true, Bool.false_or, Bool.true_or, Bool.not_true, Bool.not_false, SEconv, w_skip, w_ret, w_exit, w_reg, w_dreg, w_oreg, HO_app, w_odone, w_onil, w_ofst, w_obr, w_seq, SK_n, SK_r, SK_x, w_keep, w_block, w_cond, w_nil, w_cons, w_consg, w_nnil, w_ncons, w_dnil, w_dcons, w_dconsg, HK_app, HD_app, HQ_n, HQ_r, HQ_x, HQ_bn, HQ_br, HQ_bx, HQ_en, HQ_er, HQ_ex, CondB_true, CondB_false, SO1, w_sdv, SDe_alloc, SDe_box, SDe_bslice, SDe_app, true_imp_iff, false_imp_iff, and_false, false_and, not_false_eq_true, not_true_eq_false, addN, mkNames, killT, killD, killO, List.foldl_nil, List.foldl_cons, List.append_nil, List.nil_append, List.cons_append, GuardS_true, GuardS_false, GuardD_true, GuardD_false, DK_true, DK_false, lt_self_add, le_self_add, decide_true, decide_false, Bool.false_eq_true, Bool.true_eq_false, Nat.add_left_cancel_iff, SE, SEalloc, SEbox, SEstore, w_bs, SEbl, SEfz, SEbs0, fzName, osOf, AV.fz1, w_app, w_mk, aev, opd, Fr.get, putO, Fr.norm, List.map_cons, List.map_nil, with1, with2, onInt, AV.lit, entry, ↓reduceIte, Nat.reduceEqDiff, Nat.reduceAdd, reduceCtorEq, true_and, and_true, Option.map_some, Option.map_none, Option.bind_some, Option.bind_none, cond_true, cond_false, binV, unV, fieldV, loadV, sto, cellsAV, newF, newL, Fr.map, Loc.kill, Loc.set, AO.kill, AV.kill, AV.mapN, AV.mapNL, List.filter_nil, List.filter_cons, allP, EndV, retV, resV, resL, frz, dropL, AV.pick, nilV, tupV, imp_self, ne_eq, Int.cast_ofNat_Int, Int.reduceLT, Int.reduceToNat, List.getD_cons_zero, List.getD_cons_succ, bsliceV, buildV, afill, repl, chunk, rvs, AV.rv, RV.nrm, List.getElem?_nil, List.append_assoc, Nat.reduceMul, Nat.reducePow, Nat.zero_lt_succ, Nat.zero_add, Nat.add_zero, List.length_cons, List.length_nil, Nat.reduceLeDiff, Nat.le_refl, List.take_succ_cons, List.take_zero, List.drop_succ_cons, List.drop_zero, indexV, lenV, rowOf_mapD, rowOf_mapI, rowOf_mapA, List.length_map, Int.toNat_natCast, List.getElem?_cons_zero, List.getElem?_cons_succ, and_self, implies_true, if_true, if_false, HQ_zn, HQ_zr, HQ_wn, HQ_wr, AV.nz, AV.nzL, RV.nrm, SEbin, SEnil, nilK, srcV, dstV, appName, List.length_append, Nat.mul_one, take_map_len, take_map_app, List.getElem?_cons_zero, List.map_append, SEmkmap, SEmset, mgetV, kvOf, getM, setM, w_bsH, SEapA, SEapB, bsliceA, c12, r12, u12_1, u12_2, u12_3, u12_4, u12_5, u12_6, u12_7, u12_8, u12_9, u12_10, u12_11, u12_12, ty23, ty28, ty31, ty3, GeoD.av, DevD.av, devA, devL, y1, y2, y3, y4, y5, y6, y10, y11, y12, y13, y14, y15, bne_self_eq_false]) | (with_reducible refine And.intro ?_ ?_) | (refine call_ro e10 ( check_p g d) rfl ?_ ?_ ?_ ?_) | (refine gcall_ro e10 ( check_p g d) rfl ?_ ?_ ?_ ?_) | (refine dcall_ro e10 ( check_p g d) rfl ?_ ?_ ?_ ?_) | (refine gdcall_ro rfl e10 ( check_p g d) rfl ?_ ?_ ?_ ?_) | (refine call_own [m1, m2, m3] (devL m1 m2 m3 d.safe d.cache d.vols) e25 (own_p d hw _ _ m1 m2 m3 (hf.up (by simp [AO.kill, AV.kill, AV.mapN]))) rfl ?_ ?_ ?_ ?_ ?_) | (refine EndX.plain ?_) | (refine nil_split (fun hn => ?_) (fun hn => ?_)) | (refine gcall_no not_false ?_) | (refine gdcall_no not_false ?_) | (refine GuardS_of _ _ _ _ _ _ (fun hg => ?_) (fun hg => ?_)) | (refine GuardD_of _ _ _ _ (fun hg => ?_) (fun hg => ?_)) | (refine CondB_of _ _ _ _ _ _ _ ?_ (fun hg => ?_) (fun hg => ?_)))
  all_goals (try (first | ((first | unfold noN | unfold Fr.below | unfold Loc.below); simp [Fr.allN, AV.allN, AV.allNL, AO.allN]; done) | rfl | trivial | assumption | (intro row hrow; simp only [List.mem_map] at hrow; obtain ⟨x, _, rfl⟩ := hrow; rfl) | (refine Wk.keep hcl ?_ ?_ ?_; (focus (simp [Fr.get, GeoD.av, DevD.av, devA, devL, y1, y2, y3, y4, y5, y6, y10, y11, y12, y13, y14, y15, bne_self_eq_false] <;> fail)); (focus (simp [sto, GeoD.av, DevD.av, devA, devL, y1, y2, y3, y4, y5, y6, y10, y11, y12, y13, y14, y15, bne_self_eq_false] <;> fail)); (focus (simp <;> fail))) | (simp [allP, opd, Fr.get, Fr.below, Fr.allN, AV.allN, AV.allNL, Loc.below, AO.allN, noN, killO, killT, killD, mkNames, AO.kill, AV.kill, AV.mapN, AV.mapNL]; done) | (with_reducible exact ltD (by assumption)) | omega | (simp only [decide_eq_true_eq, decide_eq_false_iff_not] at *; omega)))
  all_goals simp only [fuel1, hg, Bool.false_or, Bool.true_or, Bool.or_true, Bool.or_false, Bool.and_true, Bool.true_and, Bool.false_and, Bool.and_false, Bool.not_true, Bool.not_false, cond_true, cond_false]
theorem spent_bad (d : DevD) (he : (d.fuel == 0) = true) : Pure Try.prog 15 [d.av] (.tup [nilD.av, I 10]) := by
  refine pureY_of follows Try.func15 c15_eq r15 (Nat.le_of_ble_eq_true rfl) fun B σ hcl hsz => ?_
  clear hsz
  repeat' (first | (simp -implicitDefEqProofs only [*, contN, contC, Nat.reduceBEq, Bool.or_false, Bool.or_true, Bool.false_or, Bool.true_or, Bool.not_true, Bool.not_false, SEconv, w_skip, w_ret, w_exit, w_reg, w_dreg, w_oreg, HO_app, w_odone, w_onil, w_ofst, w_obr, w_seq, SK_n, SK_r, SK_x, w_keep, w_block, w_cond, w_nil, w_cons, w_consg, w_nnil, w_ncons, w_dnil, w_dcons, w_dconsg, HK_app, HD_app, HQ_n, HQ_r, HQ_x, HQ_bn, HQ_br, HQ_bx, HQ_en, HQ_er, HQ_ex, CondB_true, CondB_false, SO1, w_sdv, SDe_alloc, SDe_box, SDe_bslice, SDe_app, true_imp_iff, false_imp_iff, and_false, false_and, not_false_eq_true, not_true_eq_false, addN, mkNames, killT, killD, killO, List.foldl_nil, List.foldl_cons, List.append_nil, List.nil_append, List.cons_append, GuardS_true, GuardS_false, GuardD_true, GuardD_false, DK_true, DK_false, lt_self_add, le_self_add, decide_true, decide_false, Bool.false_eq_true, Bool.true_eq_false, Nat.add_left_cancel_iff, SE, SEalloc, SEbox, SEstore, w_bs, SEbl, SEfz, SEbs0, fzName, osOf, AV.fz1, w_app, w_mk, aev, opd, Fr.get, putO, Fr.norm, List.map_cons, List.map_nil, with1, with2, onInt, AV.lit, entry, ↓reduceIte, Nat.reduceEqDiff, Nat.reduceAdd, reduceCtorEq, true_and, and_true, Option.map_some, Option.map_none, Option.bind_some, Option.bind_none, cond_true, cond_false, binV, unV, fieldV, loadV, sto, cellsAV, newF, newL, Fr.map, Loc.kill, Loc.set, AO.kill, AV.kill, AV.mapN, AV.mapNL, List.filter_nil, List.filter_cons, allP, EndV, retV, resV, resL, frz, dropL, AV.pick, nilV, tupV, imp_self, ne_eq, Int.cast_ofNat_Int, Int.reduceLT, Int.reduceToNat, List.getD_cons_zero, List.getD_cons_succ, bsliceV, buildV, afill, repl, chunk, rvs, AV.rv, RV.nrm, List.getElem?_nil, List.append_assoc, Nat.reduceMul, Nat.reducePow, Nat.zero_lt_succ, Nat.zero_add, Nat.add_zero, List.length_cons, List.length_nil, Nat.reduceLeDiff, Nat.le_refl, List.take_succ_cons, List.take_zero, List.drop_succ_cons, List.drop_zero, indexV, lenV, rowOf_mapD, rowOf_mapI, rowOf_mapA, List.length_map, Int.toNat_natCast, List.getElem?_cons_zero, List.getElem?_cons_succ, and_self, implies_true, if_true, if_false, HQ_zn, HQ_zr, HQ_wn, HQ_wr, AV.nz, AV.nzL, RV.nrm, SEbin, SEnil, nilK, srcV, dstV, appName, List.length_append, Nat.mul_one, take_map_len, take_map_app, List.getElem?_cons_zero, List.map_append, SEmkmap, SEmset, mgetV, kvOf, getM, setM, w_bsH, SEapA, SEapB, bsliceA, c15, r15, u15_1, u15_2, u15_3, u15_4, u15_5, u15_6, u15_7, u15_8, ty28, ty3, DevD.av, nilD, HQ_yn, HQ_yr, Loc.nz, AO.nz]) | (with_reducible refine And.intro ?_ ?_) | (refine EndX.plain ?_) | (refine nil_split (fun hn => ?_) (fun hn => ?_)) | (refine gcall_no not_false ?_) | (refine gdcall_no not_false ?_) | (refine GuardS_of _ _ _ _ _ _ (fun hg => ?_) (fun hg => ?_)) | (refine GuardD_of _ _ _ _ (fun hg => ?_) (fun hg => ?_)) | (refine CondB_of _ _ _ _ _ _ _ ?_ (fun hg => ?_) (fun hg => ?_)))
  all_goals (try (first | ((first | unfold noN | unfold Fr.below | unfold Loc.below); simp [Fr.allN, AV.allN, AV.allNL, AO.allN]; done) | rfl | trivial | assumption | (intro row hrow; simp only [List.mem_map] at hrow; obtain ⟨x, _, rfl⟩ := hrow; rfl) | (refine Wk.keep hcl ?_ ?_ ?_; (focus (simp [Fr.get, DevD.av, nilD, HQ_yn, HQ_yr, Loc.nz, AO.nz] <;> fail)); (focus (simp [sto, DevD.av, nilD, HQ_yn, HQ_yr, Loc.nz, AO.nz] <;> fail)); (focus (simp <;> fail))) | (simp [allP, opd, Fr.get, Fr.below, Fr.allN, AV.allN, AV.allNL, Loc.below, AO.allN, noN, killO, killT, killD, mkNames, AO.kill, AV.kill, AV.mapN, AV.mapNL]; done) | (with_reducible exact ltD (by assumption)) | omega | (simp only [decide_eq_true_eq, decide_eq_false_iff_not] at *; omega)))
theorem spent_good (d : DevD) (hw : d.fit) (h2 : (d.fuel == 0) = false) (B : Nat) (σ : Sto) (m1 m2 m3 : Nat) (hf : Free3 B σ m1 m2 m3) : ACalls Try.prog 15 [d.av] σ B [m1, m2, m3] (fun v σ' => v = .tup [devA m1 m2 m3 d.safe.length d.cache.length d.vols.length (fuel1 d), I 0] ∧ σ' = sto (devL m1 m2 m3 d.safe d.cache d.vols) σ) := by
  refine own_of follows Try.func15 c15_eq r15 (Nat.le_of_ble_eq_true rfl) fun hcl hsz => ?_
  clear hsz
  have hf' := hf
  obtain ⟨b1, b2, b3, k1, k2, k3, h12, h13, h23⟩ := hf'
  have y1 := nbF b1
  have y2 := nbF b2
  have y3 := nbF b3
  have y4 := nbF' b1
  have y5 := nbF' b2
  have y6 := nbF' b3
  have y7 := nbL b1
  have y8 := nbL b2
  have y9 := nbL b3
  have y10 := neF h12
  have y11 := neF h13
  have y12 := neF h23
  have y13 := neF' h12
  have y14 := neF' h13
  have y15 := neF' h23
  have g1 : decide (m1 < B + 100000) = true := by simp; omega
  have g2 : decide (m2 < B + 100000) = true := by simp; omega
  have g3 : decide (m3 < B + 100000) = true := by simp; omega
  repeat' (first | (simp -implicitDefEqProofs only [*, contN, contC, Nat.reduceBEq, Bool.or_false, Bool.or_true, Bool.false_or, Bool.true_or, Bool.not_true, Bool.not_false, SEconv, w_skip, w_ret, w_exit, w_reg, w_dreg, w_oreg, HO_app, w_odone, w_onil, w_ofst, w_obr, w_seq, SK_n, SK_r, SK_x, w_keep, w_block, w_cond, w_nil, w_cons, w_consg, w_nnil, w_ncons, w_dnil, w_dcons, w_dconsg, HK_app, HD_app, HQ_n, HQ_r, HQ_x, HQ_bn, HQ_br, HQ_bx, HQ_en, HQ_er, HQ_ex, CondB_true, CondB_false, SO1, w_sdv, SDe_alloc, SDe_box, SDe_bslice, SDe_app, true_imp_iff, false_imp_iff, and_false, false_and, not_false_eq_true, not_true_eq_false, addN, mkNames, killT, killD, killO, List.foldl_nil, List.foldl_cons, List.append_nil, List.nil_append, List.cons_append, GuardS_true, GuardS_false, GuardD_true, GuardD_false, DK_true, DK_false, lt_self_add, le_self_add, decide_true, decide_false, Bool.false_eq_true, Bool.true_eq_false, Nat.add_left_cancel_iff, SE, SEalloc, SEbox, SEstore, w_bs, SEbl, SEfz, SEbs0, fzName, osOf, AV.fz1, w_app, w_mk, aev, opd, Fr.get, putO, Fr.norm, List.map_cons, List.map_nil, with1, with2, onInt, AV.lit, entry, ↓reduceIte, Nat.reduceEqDiff, Nat.reduceAdd, reduceCtorEq, true_and, and_true, Option.map_some, Option.map_none, Option.bind_some, Option.bind_none, cond_true, cond_false, binV, unV, fieldV, loadV, sto, cellsAV, newF, newL, Fr.map, Loc.kill, Loc.set, AO.kill, AV.kill, AV.mapN, AV.mapNL, List.filter_nil, List.filter_cons, allP, EndV, retV, resV, resL, frz, dropL, AV.pick, nilV, tupV, imp_self, ne_eq, Int.cast_ofNat_Int, Int.reduceLT, Int.reduceToNat, List.getD_cons_zero, List.getD_cons_succ, bsliceV, buildV, afill, repl, chunk, rvs, AV.rv, RV.nrm, List.getElem?_nil, List.append_assoc, Nat.reduceMul, Nat.reducePow, Nat.zero_lt_succ, Nat.zero_add, Nat.add_zero, List.length_cons, List.length_nil, Nat.reduceLeDiff, Nat.le_refl, List.take_succ_cons, List.take_zero, List.drop_succ_cons, List.drop_zero, indexV, lenV, rowOf_mapD, rowOf_mapI, rowOf_mapA, List.length_map, Int.toNat_natCast, List.getElem?_cons_zero, List.getElem?_cons_succ, and_self, implies_true, if_true, if_false, HQ_zn, HQ_zr, HQ_wn, HQ_wr, AV.nz, AV.nzL, RV.nrm, SEbin, SEnil, nilK, srcV, dstV, appName, List.length_append, Nat.mul_one, take_map_len, take_map_app, List.getElem?_cons_zero, List.map_append, SEmkmap, SEmset, mgetV, kvOf, getM, setM, w_bsH, SEapA, SEapB, bsliceA, c15, r15, u15_1, u15_2, u15_3, u15_4, u15_5, u15_6, u15_7, u15_8, ty28, ty3, DevD.av, devA, devL, y1, y2, y3, y4, y5, y6, y10, y11, y12, y13, y14, y15, bne_self_eq_false]) | (with_reducible refine And.intro ?_ ?_) | (refine call_own [m1, m2, m3] (devL m1 m2 m3 d.safe d.cache d.vols) e4 (devCopy_own d hw _ _ m1 m2 m3 (hf.up (by simp [AO.kill, AV.kill, AV.mapN]))) rfl ?_ ?_ ?_ ?_ ?_) | (refine EndX.plain ?_) | (refine nil_split (fun hn => ?_) (fun hn => ?_)) | (refine gcall_no not_false ?_) | (refine gdcall_no not_false ?_) | (refine GuardS_of _ _ _ _ _ _ (fun hg => ?_) (fun hg => ?_)) | (refine GuardD_of _ _ _ _ (fun hg => ?_) (fun hg => ?_)) | (refine CondB_of _ _ _ _ _ _ _ ?_ (fun hg => ?_) (fun hg => ?_)))
  all_goals (try (first | ((first | unfold noN | unfold Fr.below | unfold Loc.below); simp [Fr.allN, AV.allN, AV.allNL, AO.allN]; done) | rfl | trivial | assumption | (intro row hrow; simp only [List.mem_map] at hrow; obtain ⟨x, _, rfl⟩ := hrow; rfl) | (refine Wk.keep hcl ?_ ?_ ?_; (focus (simp [Fr.get, DevD.av, devA, devL, y1, y2, y3, y4, y5, y6, y10, y11, y12, y13, y14, y15, bne_self_eq_false] <;> fail)); (focus (simp [sto, DevD.av, devA, devL, y1, y2, y3, y4, y5, y6, y10, y11, y12, y13, y14, y15, bne_self_eq_false] <;> fail)); (focus (simp <;> fail))) | (simp [allP, opd, Fr.get, Fr.below, Fr.allN, AV.allN, AV.allNL, Loc.below, AO.allN, noN, killO, killT, killD, mkNames, AO.kill, AV.kill, AV.mapN, AV.mapNL]; done) | (with_reducible exact ltD (by assumption)) | omega | (simp only [decide_eq_true_eq, decide_eq_false_iff_not] at *; omega)))
  all_goals simp only [fuel1, hg, Bool.false_or, Bool.true_or, Bool.or_true, Bool.or_false, Bool.and_true, Bool.true_and, Bool.false_and, Bool.and_false, Bool.not_true, Bool.not_false, cond_true, cond_false]
end Go.Proofs.Ytelciiooegiikaa
