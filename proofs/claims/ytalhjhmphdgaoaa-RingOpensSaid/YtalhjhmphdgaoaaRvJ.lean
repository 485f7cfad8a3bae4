/- The reference's OpenOf, walked: the second of the two journals is the newer one. CODED ELSEWHERE: icehouse/icehouseref.OpenOf -/
import Derived.Test.YtalhjhmphdgaoaaRvM
namespace Go.Proofs.Ytalhjhmphdgaoaa
open Go.RowKit
set_option maxHeartbeats 4000000
set_option maxRecDepth 20000
attribute [local irreducible] SW SWL SWLn SWD SEcall SEcallv SDv SE SO1 SOg ACalls ACallv Wk EndV
set_option linter.unusedSimpArgs false
set_option linter.unusedVariables false
attribute [local irreducible] runF endR jEnd superB posO arV snB fuB trR tB tK tE trB trS trF
attribute [local irreducible] oS1 oS2
set_option maxHeartbeats 40000000 in
theorem openOf_1 (g : GeoD) (d : DevD) (j ja : JrnD) (hwf : d.fit) (h1 : devF g d = 0) (hJ : JNew g j) (ha : Pure Try.prog 40 [g.av, d.av, I 0] ja.av) (hb : Pure Try.prog 40 [g.av, d.av, I 1] j.av) (hab : decide (j.gen > ja.gen) = true) (h3 : ¬ (j.gen = 1048576)) (h4 : ¬ (j.epoch = 1048576)) : Pure Try.prog 18 [g.av, d.av] (openV g d j (opF g d 61 (op0 j))) := by
  refine pureY_of follows Try.func18 c18_eq r18 (Nat.le_of_ble_eq_true rfl) fun B σ hcl hsz => ?_
  clear hsz
  have hg := (okR h1).geo
  have hB := geoB hg
  have hI0 := op0_ok hB hJ
  have hSup := fun s => superOfO_p s hJ.ok hB h3 h4
  obtain ⟨gr1, gr2, ga1, ga2, gh1, gh2⟩ := id hB
  obtain ⟨g1, g2, e1, e2, f1, n1, n2, a1, a2, l1, l2, s1, s2, u1, u2, pp⟩ := id hJ.ok
  have q0 : (g.ring = 0) = False := eq_false (by omega)
  have q1 : (j.gen == 0) = false := by simp; omega
  have q3 : decide (j.gen ≥ 1048576) = false := by simp; omega
  have q3' : decide (j.epoch ≥ 1048576) = false := by simp; omega
  have q4 : IntKind.i64.wrap (j.gen + 1) = j.gen + 1 := IntWalk.i64_in _ (by omega)
  have q5 : IntKind.i64.wrap (j.epoch + 1) = j.epoch + 1 := IntWalk.i64_in _ (by omega)
  obtain ⟨m1, m2⟩ := mO_facts l1
  have hl : j.length ≤ 5120 := by omega
  have hm : mO j ≤ 80 := by omega
  have c1 : secN j.length = (mO j : Int) := by
    unfold secN mO
    rw [IntWalk.i64_in (j.length + 64) (by omega), IntWalk.i64_in (j.length + 64 - 1) (by omega), Int.tdiv_eq_ediv_of_nonneg (by omega), IntWalk.i64_in _ (by omega)]
    omega
  have t2 : ∀ i : Nat, IntKind.i64.wrap (IntKind.i64.wrap (IntKind.i64.wrap (2 + g.ring) + IntKind.i64.wrap (j.area * g.area)) + (i : Int)) = posO g j i := fun i => by unfold posO arV; rfl
  have t3 : ∀ i : Nat, i ≤ mO j → (fuB g d j i).length = 64 * i := fun i hi => fuB_len h1 hJ.ok i (by omega)
  have t4 : snB g d j (mO j) = (fuB g d j (mO j)).take j.length.toNat := snB_fuB h1 hJ.ok (mO j) m1
  have hS0 : op0 j = ⟨j.place, j.used, j.next, 0, []⟩ := rfl
  obtain ⟨s0, hs0⟩ : ∃ s, op0 j = s := ⟨_, rfl⟩
  have z1 : j.place = s0.place := by rw [← hs0]; rfl
  have z2 : j.used = s0.used := by rw [← hs0]; rfl
  have z3 : j.next = s0.next := by rw [← hs0]; rfl
  have z4 : s0.low = 0 := by rw [← hs0]; rfl
  have z5 : s0.all = [] := by rw [← hs0]; rfl
  rw [hs0] at hI0 ⊢
  clear hS0
  obtain ⟨R, hR⟩ : ∃ R, opF g d 61 s0 = R := ⟨_, rfl⟩
  have hRI := rinv_0 hI0 hR
  rw [hR]
  have w1 : ∀ v, RInv g d R (opRk g d s0 v) v → IntKind.i64.wrap (g.ring - (opRk g d s0 v).1.used) = ((g.ring - (opRk g d s0 v).1.used).toNat : Int) := fun v h => by
    have := h.u1; have := h.u2
    rw [IntWalk.i64_in _ (by omega)]; omega
  have w2 : ∀ v, RInv g d R (opRk g d s0 v) v → ∀ i : Nat, decide ((i : Int) < ((g.ring - (opRk g d s0 v).1.used).toNat : Int)) = true → IntKind.i64.wrap ((opRk g d s0 v).1.place + (i : Int)) = (opRk g d s0 v).1.place + (i : Int) := fun v h i hi => by
    have := h.p1; have := h.p2; have := h.u1; have := h.u2; have := of_decide_eq_true hi
    exact IntWalk.i64_in _ (by omega)
  have w3 : ∀ v, RInv g d R (opRk g d s0 v) v → ∀ i : Nat, decide ((i : Int) < ((g.ring - (opRk g d s0 v).1.used).toNat : Int)) = true → IntKind.i64.wrap (2 + ((opRk g d s0 v).1.place + (i : Int)).tmod g.ring) = 2 + ((opRk g d s0 v).1.place + (i : Int)).tmod g.ring := fun v h i hi => by
    have := h.p1
    have := tmod_b hB (x := (opRk g d s0 v).1.place + (i : Int)) (by omega)
    exact IntWalk.i64_in _ (by omega)
  have w4 : ∀ v, RInv g d R (opRk g d s0 v) v → IntKind.i64.wrap ((opRk g d s0 v).1.next + 1) = (opRk g d s0 v).1.next + 1 := fun v h => by
    have := h.n1; have := h.n2
    exact IntWalk.i64_in _ (by omega)
  have w5 : ∀ v, RInv g d R (opRk g d s0 v) v → ∀ i : Nat, decide ((i : Int) < ((g.ring - (opRk g d s0 v).1.used).toNat : Int)) = true → IntKind.i64.wrap ((opRk g d s0 v).1.place + (i : Int) + 1) = (opRk g d s0 v).1.place + (i : Int) + 1 := fun v h i hi => by
    have := h.p1; have := h.p2; have := h.u1; have := h.u2; have := of_decide_eq_true hi
    exact IntWalk.i64_in _ (by omega)
  have w6 : ∀ v, RInv g d R (opRk g d s0 v) v → ∀ i : Nat, decide ((i : Int) < ((g.ring - (opRk g d s0 v).1.used).toNat : Int)) = true → IntKind.i64.wrap ((opRk g d s0 v).1.used + (i : Int)) = (opRk g d s0 v).1.used + (i : Int) := fun v h i hi => by
    have := h.p1; have := h.p2; have := h.u1; have := h.u2; have := of_decide_eq_true hi
    exact IntWalk.i64_in _ (by omega)
  have w7 : ∀ v, RInv g d R (opRk g d s0 v) v → ∀ i : Nat, decide ((i : Int) < ((g.ring - (opRk g d s0 v).1.used).toNat : Int)) = true → IntKind.i64.wrap ((opRk g d s0 v).1.used + (i : Int) + 1) = (opRk g d s0 v).1.used + (i : Int) + 1 := fun v h i hi => by
    have := h.p1; have := h.p2; have := h.u1; have := h.u2; have := of_decide_eq_true hi
    exact IntWalk.i64_in _ (by omega)
  have w8 : ∀ v i, IntKind.i64.wrap (12 + nA (trS g d (opRk g d s0 v).1.place i) 10 2) = 12 + nA (trS g d (opRk g d s0 v).1.place i) 10 2 := fun v i => by
    have := nA_b (trS g d (opRk g d s0 v).1.place i) 10 (n := 2) (by omega)
    exact IntWalk.i64_in _ (by omega)
  have w9 : ∀ x : UInt8, IntKind.i64.wrap (x.toNat : Int) = (x.toNat : Int) := fun x => by
    have := x.toNat_lt
    exact IntWalk.i64_in _ (by omega)
  have h64 : ∀ v, RInv g d R (opRk g d s0 v) v → ∀ i : Nat, (trS g d (opRk g d s0 v).1.place i).length = 64 := fun v h i => tr_64 h1 h.p1 i
  have hGet : ∀ (p : Int) (i : Nat), Pure Try.prog 8 [g.av, d.av, I (2 + (p + (i : Int)).tmod g.ring)] (.tup [.d (bytes (trS g d p i)), I (getE g d (2 + (p + (i : Int)).tmod g.ring))]) := fun p i => by
    unfold trS; exact getOf_p g d _
  have hlen := fun p => trB_len g d p
  have w12 : ∀ v, RInv g d R (opRk g d s0 v) v → ∀ i : Nat, decide ((i : Int) < ((g.ring - (opRk g d s0 v).1.used).toNat : Int)) = true → IntKind.i64.wrap ((i : Int) + 1) = (i : Int) + 1 := fun v h i hi => by
    have := h.u1; have := hB.r2; have := of_decide_eq_true hi
    exact IntWalk.i64_in _ (by omega)
  have hjb : ∀ v, RInv g d R (opRk g d s0 v) v → ∀ i : Nat, i ≤ (g.ring - (opRk g d s0 v).1.used).toNat → (trB g d (opRk g d s0 v).1.place i ++ List.take (nA (trS g d (opRk g d s0 v).1.place i) 10 2).toNat (List.drop 12 (trS g d (opRk g d s0 v).1.place i))).length ≤ 2 ^ 47 := fun v h i hi => by
    have z1 := hlen (opRk g d s0 v).1.place i
    have z2 := h64 v h i
    have z3 := h.u1
    have z4 := hB.r2
    rw [List.length_append, List.length_take, List.length_drop]; omega
  have w11 : ∀ v i, (12 ≤ 12 + nA (trS g d (opRk g d s0 v).1.place i) 10 2) = True := fun v i => eq_true (by
    have := nA_b (trS g d (opRk g d s0 v).1.place i) 10 (n := 2) (by omega)
    omega)
  have w10 : ∀ v i, (12 + nA (trS g d (opRk g d s0 v).1.place i) 10 2).toNat - 12 = (nA (trS g d (opRk g d s0 v).1.place i) 10 2).toNat := fun v i => by
    have := nA_b (trS g d (opRk g d s0 v).1.place i) 10 (n := 2) (by omega)
    omega
  clear hg gr1 gr2 ga1 ga2 gh1 gh2 g1 g2 e1 e2 f1 n1 n2 a1 a2 l1 l2 s1 s2 u1 u2 pp h3 h4 hR
  repeat' (first | (simp -implicitDefEqProofs only [*, contN, contC, Nat.reduceBEq, Bool.or_false, Bool.or_true, Bool.false_or, Bool.true_or, Bool.not_true, Bool.not_false, w_skip, w_ret, w_exit, w_reg, w_dreg, w_seq, SK_n, SK_r, SK_x, w_keep, w_block, w_cond, w_nil, w_cons, w_consg, w_nnil, w_ncons, w_dnil, w_dcons, w_dconsg, HK_app, HD_app, HQ_n, HQ_r, HQ_x, HQ_bn, HQ_br, HQ_bx, HQ_en, HQ_er, HQ_ex, CondB_true, CondB_false, SO1, w_sdv, SDe_alloc, SDe_box, SDe_bslice, SDe_app, true_imp_iff, false_imp_iff, and_false, false_and, not_false_eq_true, not_true_eq_false, addN, mkNames, killT, killD, killO, List.foldl_nil, List.foldl_cons, List.append_nil, List.nil_append, List.cons_append, GuardS_true, GuardS_false, GuardD_true, GuardD_false, DK_true, DK_false, lt_self_add, le_self_add, decide_true, decide_false, Bool.false_eq_true, Bool.true_eq_false, Nat.add_left_cancel_iff, SE, SEalloc, SEbox, SEstore, w_bs, SEbl, SEfz, SEbs0, fzName, osOf, AV.fz1, w_app, w_mk, aev, opd, Fr.get, putO, Fr.norm, List.map_cons, List.map_nil, with1, with2, onInt, AV.lit, entry, ↓reduceIte, Nat.reduceEqDiff, Nat.reduceAdd, reduceCtorEq, true_and, and_true, Option.map_some, Option.map_none, Option.bind_some, Option.bind_none, cond_true, cond_false, binV, unV, fieldV, loadV, sto, cellsAV, newF, newL, Fr.map, Loc.kill, Loc.set, AO.kill, AV.kill, AV.mapN, AV.mapNL, List.filter_nil, List.filter_cons, allP, EndV, retV, resV, resL, frz, dropL, AV.pick, nilV, tupV, imp_self, ne_eq, Int.cast_ofNat_Int, Int.reduceLT, Int.reduceToNat, List.getD_cons_zero, List.getD_cons_succ, bsliceV, buildV, afill, repl, chunk, rvs, AV.rv, RV.nrm, List.getElem?_nil, List.append_assoc, Nat.reduceMul, Nat.reducePow, Nat.zero_lt_succ, Nat.zero_add, Nat.add_zero, List.length_cons, List.length_nil, Nat.reduceLeDiff, Nat.le_refl, List.take_succ_cons, List.take_zero, List.drop_succ_cons, List.drop_zero, indexV, lenV, rowOf_mapD, rowOf_mapI, rowOf_mapA, List.length_map, Int.toNat_natCast, List.getElem?_cons_zero, List.getElem?_cons_succ, and_self, implies_true, if_true, if_false, HQ_zn, HQ_zr, HQ_wn, HQ_wr, AV.nz, AV.nzL, RV.nrm, SEbin, SEnil, nilK, srcV, dstV, appName, List.length_append, Nat.mul_one, take_map_len, take_map_app, List.getElem?_cons_zero, List.map_append, SEmkmap, SEmset, mgetV, kvOf, getM, setM, c18, r18, v18_1, v18_2, u18_3, u18_4, u18_5, u18_6, v18_7, u18_8, u18_9, v18_10, v18_11, u18_12, u18_13, u18_14, v18_15, v18_16, v18_17, v18_18, u18_19, u18_20, u18_21, u18_22, u18_23, v18_24, u18_25, v18_26, u18_27, v18_28, v18_29, v18_30, m18_30, v18_31, v18_32, v18_33, v18_34, v18_35, v18_36, v18_37, v18_38, v18_39, v18_40, v18_41, v18_42, v18_43, v18_44, m18_44, u18_45, v18_46, v18_47, v18_48, v18_49, u18_50, u18_51, u18_52, u18_53, u18_54, u18_55, u18_56, u18_57, u18_58, u18_59, u18_60, u18_61, u18_62, u18_63, u18_64, u18_65, u18_66, u18_67, u18_68, u18_69, u18_70, u18_71, v18_72, v18_73, v18_74, v18_75, v18_76, m18_76, u18_77, u18_78, u18_79, u18_80, u18_81, u18_82, u18_83, u18_84, u18_85, u18_86, u18_87, u18_88, u18_89, u18_90, u18_91, u18_92, u18_93, u18_94, u18_95, u18_96, u18_97, ty23, ty28, ty45, ty30, ty3, ty24, ty29, ty5, ty82, ty83, GeoD.av, GeoD.cells, DevD.av, DevD.cells, JrnD.av, JrnD.cells, bytes, by_, convV, secRow, AV.nz, RV.nrm, fuB_0, opRk_0, trB_0, trE_0, HQ_yn, HQ_yr, Loc.nz, AO.nz, bne_self_eq_false, doneV, bnd, sliceV, Option.getD_some, Option.getD_none, Rows_byV, ← List.map_take, ← List.map_drop, z4, z5, List.take_length, Nat.sub_zero]) | (with_reducible refine And.intro ?_ ?_) | (refine call_ro e23 ( devFault_p g d) rfl ?_ ?_ ?_ ?_) | (refine gcall_ro e23 ( devFault_p g d) rfl ?_ ?_ ?_ ?_) | (refine dcall_ro e23 ( devFault_p g d) rfl ?_ ?_ ?_ ?_) | (refine gdcall_ro rfl e23 ( devFault_p g d) rfl ?_ ?_ ?_ ?_) | (refine call_ro e40 ( ha) rfl ?_ ?_ ?_ ?_) | (refine gcall_ro e40 ( ha) rfl ?_ ?_ ?_ ?_) | (refine dcall_ro e40 ( ha) rfl ?_ ?_ ?_ ?_) | (refine gdcall_ro rfl e40 ( ha) rfl ?_ ?_ ?_ ?_) | (refine call_ro e40 ( hb) rfl ?_ ?_ ?_ ?_) | (refine gcall_ro e40 ( hb) rfl ?_ ?_ ?_ ?_) | (refine dcall_ro e40 ( hb) rfl ?_ ?_ ?_ ?_) | (refine gdcall_ro rfl e40 ( hb) rfl ?_ ?_ ?_ ?_) | (refine call_ro e41 ( chunks_p _) rfl ?_ ?_ ?_ ?_) | (refine gcall_ro e41 ( chunks_p _) rfl ?_ ?_ ?_ ?_) | (refine dcall_ro e41 ( chunks_p _) rfl ?_ ?_ ?_ ?_) | (refine gdcall_ro rfl e41 ( chunks_p _) rfl ?_ ?_ ?_ ?_) | (refine call_ro e8 ( hGet (opRk g d s0 v).1.place i) rfl ?_ ?_ ?_ ?_) | (refine gcall_ro e8 ( hGet (opRk g d s0 v).1.place i) rfl ?_ ?_ ?_ ?_) | (refine dcall_ro e8 ( hGet (opRk g d s0 v).1.place i) rfl ?_ ?_ ?_ ?_) | (refine gdcall_ro rfl e8 ( hGet (opRk g d s0 v).1.place i) rfl ?_ ?_ ?_ ?_) | (refine call_ro e42 ( small_at _ (h64 v hFv i) 10 2 (by omega) (by omega)) rfl ?_ ?_ ?_ ?_) | (refine gcall_ro e42 ( small_at _ (h64 v hFv i) 10 2 (by omega) (by omega)) rfl ?_ ?_ ?_ ?_) | (refine dcall_ro e42 ( small_at _ (h64 v hFv i) 10 2 (by omega) (by omega)) rfl ?_ ?_ ?_ ?_) | (refine gdcall_ro rfl e42 ( small_at _ (h64 v hFv i) 10 2 (by omega) (by omega)) rfl ?_ ?_ ?_ ?_) | (refine call_ro e42 ( small_at _ (h64 v hFv i) 0 4 (by omega) (by omega)) rfl ?_ ?_ ?_ ?_) | (refine gcall_ro e42 ( small_at _ (h64 v hFv i) 0 4 (by omega) (by omega)) rfl ?_ ?_ ?_ ?_) | (refine dcall_ro e42 ( small_at _ (h64 v hFv i) 0 4 (by omega) (by omega)) rfl ?_ ?_ ?_ ?_) | (refine gdcall_ro rfl e42 ( small_at _ (h64 v hFv i) 0 4 (by omega) (by omega)) rfl ?_ ?_ ?_ ?_) | (refine call_ro e42 ( small_at _ (h64 v hFv i) 4 4 (by omega) (by omega)) rfl ?_ ?_ ?_ ?_) | (refine gcall_ro e42 ( small_at _ (h64 v hFv i) 4 4 (by omega) (by omega)) rfl ?_ ?_ ?_ ?_) | (refine dcall_ro e42 ( small_at _ (h64 v hFv i) 4 4 (by omega) (by omega)) rfl ?_ ?_ ?_ ?_) | (refine gdcall_ro rfl e42 ( small_at _ (h64 v hFv i) 4 4 (by omega) (by omega)) rfl ?_ ?_ ?_ ?_) | (refine call_ro e8 ( getOf_p g d (posO g j k)) rfl ?_ ?_ ?_ ?_) | (refine gcall_ro e8 ( getOf_p g d (posO g j k)) rfl ?_ ?_ ?_ ?_) | (refine dcall_ro e8 ( getOf_p g d (posO g j k)) rfl ?_ ?_ ?_ ?_) | (refine gdcall_ro rfl e8 ( getOf_p g d (posO g j k)) rfl ?_ ?_ ?_ ?_) | (refine call_ro e25 ( joinedO (fuB g d j k) (getR g d (posO g j k)) (by rw [fuB_next, t3 (k + 1) (ltD (by assumption))]; omega)) rfl ?_ ?_ ?_ ?_) | (refine gcall_ro e25 ( joinedO (fuB g d j k) (getR g d (posO g j k)) (by rw [fuB_next, t3 (k + 1) (ltD (by assumption))]; omega)) rfl ?_ ?_ ?_ ?_) | (refine dcall_ro e25 ( joinedO (fuB g d j k) (getR g d (posO g j k)) (by rw [fuB_next, t3 (k + 1) (ltD (by assumption))]; omega)) rfl ?_ ?_ ?_ ?_) | (refine gdcall_ro rfl e25 ( joinedO (fuB g d j k) (getR g d (posO g j k)) (by rw [fuB_next, t3 (k + 1) (ltD (by assumption))]; omega)) rfl ?_ ?_ ?_ ?_) | (refine call_ro e25 ( joinedO (trB g d (opRk g d s0 v).1.place i) (List.take (nA (trS g d (opRk g d s0 v).1.place i) 10 2).toNat (List.drop 12 (trS g d (opRk g d s0 v).1.place i))) (hjb v hFv i hi)) rfl ?_ ?_ ?_ ?_) | (refine gcall_ro e25 ( joinedO (trB g d (opRk g d s0 v).1.place i) (List.take (nA (trS g d (opRk g d s0 v).1.place i) 10 2).toNat (List.drop 12 (trS g d (opRk g d s0 v).1.place i))) (hjb v hFv i hi)) rfl ?_ ?_ ?_ ?_) | (refine dcall_ro e25 ( joinedO (trB g d (opRk g d s0 v).1.place i) (List.take (nA (trS g d (opRk g d s0 v).1.place i) 10 2).toNat (List.drop 12 (trS g d (opRk g d s0 v).1.place i))) (hjb v hFv i hi)) rfl ?_ ?_ ?_ ?_) | (refine gdcall_ro rfl e25 ( joinedO (trB g d (opRk g d s0 v).1.place i) (List.take (nA (trS g d (opRk g d s0 v).1.place i) 10 2).toNat (List.drop 12 (trS g d (opRk g d s0 v).1.place i))) (hjb v hFv i hi)) rfl ?_ ?_ ?_ ?_) | (refine call_ro e44 ( hSup (opRk g d s0 v).1) rfl ?_ ?_ ?_ ?_) | (refine gcall_ro e44 ( hSup (opRk g d s0 v).1) rfl ?_ ?_ ?_ ?_) | (refine dcall_ro e44 ( hSup (opRk g d s0 v).1) rfl ?_ ?_ ?_ ?_) | (refine gdcall_ro rfl e44 ( hSup (opRk g d s0 v).1) rfl ?_ ?_ ?_ ?_) | (refine call_ro e43 ( doneO_p g d j (opRk g d s0 v).1 hwf) rfl ?_ ?_ ?_ ?_) | (refine gcall_ro e43 ( doneO_p g d j (opRk g d s0 v).1 hwf) rfl ?_ ?_ ?_ ?_) | (refine dcall_ro e43 ( doneO_p g d j (opRk g d s0 v).1 hwf) rfl ?_ ?_ ?_ ?_) | (refine gdcall_ro rfl e43 ( doneO_p g d j (opRk g d s0 v).1 hwf) rfl ?_ ?_ ?_ ?_) | (refine loop_nat (mO j) (fun _ => True) (fun k => [(13, I k), (12, .d (bytes (fuB g d j k))), (2, .lp (B + 2) 0), (3, .lp (B + 3) 0), (10, .lp (B + 10) 0), (4, .lp (B + 4) 0), (5, .lp (B + 5) 0)]) (fun k => [(B + 2, .box g.cells), (B + 3, .box d.cells), (B + 10, .box [I j.gen, I j.epoch, I j.area, I j.length, I j.start, I j.first, I s0.place, I s0.next, I s0.used]), (B + 4, .box [.d (.v (.slice none 0 0)), .d (.v (.slice none 0 0)), .d (.v (.slice none 0 0)), I 0]), (B + 5, .box [I 0, I 0, I 0, I 0, I 0, I 0, I 0, I 0, I 0])]) ?_ (Wk.trans (Wk.nz _ _ _ _ _) (Wk.keep hcl ?_ ?_ ?_)) fun k hk hF => ?_; rotate_left 1; (focus (simp [Fr.get, newF, Fr.map, AV.kill, AV.mapN, GeoD.av, GeoD.cells, DevD.av, DevD.cells, JrnD.av, JrnD.cells, bytes, by_, convV, secRow, AV.nz, RV.nrm, fuB_0, opRk_0, trB_0, trE_0, HQ_yn, HQ_yr, Loc.nz, AO.nz, bne_self_eq_false, doneV, bnd, sliceV, Option.getD_some, Option.getD_none, Rows_byV, ← List.map_take, ← List.map_drop, z4, z5, List.take_length, Nat.sub_zero] <;> fail)); (focus (simp [sto, newL, Loc.kill, Loc.set, AO.kill, AV.kill, AV.mapN, GeoD.av, GeoD.cells, DevD.av, DevD.cells, JrnD.av, JrnD.cells, bytes, by_, convV, secRow, AV.nz, RV.nrm, fuB_0, opRk_0, trB_0, trE_0, HQ_yn, HQ_yr, Loc.nz, AO.nz, bne_self_eq_false, doneV, bnd, sliceV, Option.getD_some, Option.getD_none, Rows_byV, ← List.map_take, ← List.map_drop, z4, z5, List.take_length, Nat.sub_zero] <;> fail)); (focus (simp [newL, Loc.kill, Loc.set, GeoD.av, GeoD.cells, DevD.av, DevD.cells, JrnD.av, JrnD.cells, bytes, by_, convV, secRow, AV.nz, RV.nrm, fuB_0, opRk_0, trB_0, trE_0, HQ_yn, HQ_yr, Loc.nz, AO.nz, bne_self_eq_false, doneV, bnd, sliceV, Option.getD_some, Option.getD_none, Rows_byV, ← List.map_take, ← List.map_drop, z4, z5, List.take_length, Nat.sub_zero] <;> fail)); (try have hw : IntKind.i64.wrap ((k : Int) + 1) = (k : Int) + 1 := IntWalk.i64_in _ (by omega))) | (refine loop_nat (62) (fun v => RInv g d R (opRk g d s0 v) v) (fun v => [(18, Bo (opRk g d s0 v).2), (17, I (opRk g d s0 v).1.low), (12, .d (.ro (((fuB g d j k).take j.length.toNat).map by_))), (16, .os (B + 197) (opRk g d s0 v).1.all.length), (2, .lp (B + 2) 0), (3, .lp (B + 3) 0), (10, .lp (B + 10) 0), (4, .lp (B + 4) 0), (5, .lp (B + 5) 0)]) (fun v => [(B + 197, .arr 1 29 ((opRk g d s0 v).1.all.map secRow)), (B + 2, .box g.cells), (B + 3, .box d.cells), (B + 10, .box [I j.gen, I j.epoch, I j.area, I j.length, I j.start, I j.first, I (opRk g d s0 v).1.place, I (opRk g d s0 v).1.next, I (opRk g d s0 v).1.used]), (B + 4, .box [.d (.v (.slice none 0 0)), .d (.v (.slice none 0 0)), .d (.v (.slice none 0 0)), I 0]), (B + 5, .box [I 0, I 0, I 0, I 0, I 0, I 0, I 0, I 0, I 0])]) ?_ (Wk.trans (Wk.nameF (s := 16) (n := B + 197) (k := 1) (E := 29) rfl (by omega) (.inl (by omega)) (fun m => AO.kill_below (q := fun m => decide (m < B)) (by simp) _ (hcl m).1)) (Wk.keep hcl ?_ ?_ ?_)) fun v hv hFv => ?_; rotate_left 1; (focus (simp [Fr.get, newF, Fr.map, AV.kill, AV.mapN, GeoD.av, GeoD.cells, DevD.av, DevD.cells, JrnD.av, JrnD.cells, bytes, by_, convV, secRow, AV.nz, RV.nrm, fuB_0, opRk_0, trB_0, trE_0, HQ_yn, HQ_yr, Loc.nz, AO.nz, bne_self_eq_false, doneV, bnd, sliceV, Option.getD_some, Option.getD_none, Rows_byV, ← List.map_take, ← List.map_drop, z4, z5, List.take_length, Nat.sub_zero] <;> fail)); (focus (simp [sto, newL, Loc.kill, Loc.set, AO.kill, AV.kill, AV.mapN, GeoD.av, GeoD.cells, DevD.av, DevD.cells, JrnD.av, JrnD.cells, bytes, by_, convV, secRow, AV.nz, RV.nrm, fuB_0, opRk_0, trB_0, trE_0, HQ_yn, HQ_yr, Loc.nz, AO.nz, bne_self_eq_false, doneV, bnd, sliceV, Option.getD_some, Option.getD_none, Rows_byV, ← List.map_take, ← List.map_drop, z4, z5, List.take_length, Nat.sub_zero] <;> fail)); (focus (simp [newL, Loc.kill, Loc.set, GeoD.av, GeoD.cells, DevD.av, DevD.cells, JrnD.av, JrnD.cells, bytes, by_, convV, secRow, AV.nz, RV.nrm, fuB_0, opRk_0, trB_0, trE_0, HQ_yn, HQ_yr, Loc.nz, AO.nz, bne_self_eq_false, doneV, bnd, sliceV, Option.getD_some, Option.getD_none, Rows_byV, ← List.map_take, ← List.map_drop, z4, z5, List.take_length, Nat.sub_zero] <;> fail)); (try have hwv : IntKind.i64.wrap ((v : Int) + 1) = (v : Int) + 1 := IntWalk.i64_in _ (by omega))) | (refine loop_nat ((g.ring - (opRk g d s0 v).1.used).toNat) (fun i => trF g d (opRk g d s0 v).1.place (opRk g d s0 v).1.next (opRk g d s0 v).1.low ((g.ring - (opRk g d s0 v).1.used).toNat - i) i = opT g d (opRk g d s0 v).1) (fun i => [(21, I i), (19, .d (bytes (trB g d (opRk g d s0 v).1.place i))), (20, I (trE g d (opRk g d s0 v).1.place i)), (18, Bo false), (17, I (opRk g d s0 v).1.low), (12, .d (.ro (((fuB g d j k).take j.length.toNat).map by_))), (16, .os (B + 197) (opRk g d s0 v).1.all.length), (2, .lp (B + 2) 0), (3, .lp (B + 3) 0), (10, .lp (B + 10) 0), (4, .lp (B + 4) 0), (5, .lp (B + 5) 0)]) (fun i => [(B + 197, .arr 1 29 ((opRk g d s0 v).1.all.map secRow)), (B + 2, .box g.cells), (B + 3, .box d.cells), (B + 10, .box [I j.gen, I j.epoch, I j.area, I j.length, I j.start, I j.first, I (opRk g d s0 v).1.place, I (opRk g d s0 v).1.next, I (opRk g d s0 v).1.used]), (B + 4, .box [.d (.v (.slice none 0 0)), .d (.v (.slice none 0 0)), .d (.v (.slice none 0 0)), I 0]), (B + 5, .box [I 0, I 0, I 0, I 0, I 0, I 0, I 0, I 0, I 0])]) ?_ (Wk.trans (Wk.nz _ _ _ _ _) (Wk.keep hcl ?_ ?_ ?_)) fun i hi hFi => ?_; rotate_left 1; (focus (simp [Fr.get, newF, Fr.map, AV.kill, AV.mapN, GeoD.av, GeoD.cells, DevD.av, DevD.cells, JrnD.av, JrnD.cells, bytes, by_, convV, secRow, AV.nz, RV.nrm, fuB_0, opRk_0, trB_0, trE_0, HQ_yn, HQ_yr, Loc.nz, AO.nz, bne_self_eq_false, doneV, bnd, sliceV, Option.getD_some, Option.getD_none, Rows_byV, ← List.map_take, ← List.map_drop, z4, z5, List.take_length, Nat.sub_zero] <;> fail)); (focus (simp [sto, newL, Loc.kill, Loc.set, AO.kill, AV.kill, AV.mapN, GeoD.av, GeoD.cells, DevD.av, DevD.cells, JrnD.av, JrnD.cells, bytes, by_, convV, secRow, AV.nz, RV.nrm, fuB_0, opRk_0, trB_0, trE_0, HQ_yn, HQ_yr, Loc.nz, AO.nz, bne_self_eq_false, doneV, bnd, sliceV, Option.getD_some, Option.getD_none, Rows_byV, ← List.map_take, ← List.map_drop, z4, z5, List.take_length, Nat.sub_zero] <;> fail)); (focus (simp [newL, Loc.kill, Loc.set, GeoD.av, GeoD.cells, DevD.av, DevD.cells, JrnD.av, JrnD.cells, bytes, by_, convV, secRow, AV.nz, RV.nrm, fuB_0, opRk_0, trB_0, trE_0, HQ_yn, HQ_yr, Loc.nz, AO.nz, bne_self_eq_false, doneV, bnd, sliceV, Option.getD_some, Option.getD_none, Rows_byV, ← List.map_take, ← List.map_drop, z4, z5, List.take_length, Nat.sub_zero] <;> fail)); (try have hwi : IntKind.i64.wrap ((i : Int) + 1) = (i : Int) + 1 := IntWalk.i64_in _ (by omega))) | (refine EndX.plain ?_) | (refine nil_split (fun hn => ?_) (fun hn => ?_)) | (refine gcall_no not_false ?_) | (refine gdcall_no not_false ?_) | (refine GuardS_of _ _ _ _ _ _ (fun hg => ?_) (fun hg => ?_)) | (refine GuardD_of _ _ _ _ (fun hg => ?_) (fun hg => ?_)) | (refine CondB_of _ _ _ _ _ _ _ ?_ (fun hg => ?_) (fun hg => ?_)))
  all_goals (try (first | ((first | unfold noN | unfold Fr.below | unfold Loc.below); simp [Fr.allN, AV.allN, AV.allNL, AO.allN]; done) | rfl | trivial | assumption | (intro row hrow; simp only [List.mem_map] at hrow; obtain ⟨x, _, rfl⟩ := hrow; rfl) | (refine Wk.keep hcl ?_ ?_ ?_; (focus (simp [Fr.get, GeoD.av, GeoD.cells, DevD.av, DevD.cells, JrnD.av, JrnD.cells, bytes, by_, convV, secRow, AV.nz, RV.nrm, fuB_0, opRk_0, trB_0, trE_0, HQ_yn, HQ_yr, Loc.nz, AO.nz, bne_self_eq_false, doneV, bnd, sliceV, Option.getD_some, Option.getD_none, Rows_byV, ← List.map_take, ← List.map_drop, z4, z5, List.take_length, Nat.sub_zero] <;> fail)); (focus (simp [sto, GeoD.av, GeoD.cells, DevD.av, DevD.cells, JrnD.av, JrnD.cells, bytes, by_, convV, secRow, AV.nz, RV.nrm, fuB_0, opRk_0, trB_0, trE_0, HQ_yn, HQ_yr, Loc.nz, AO.nz, bne_self_eq_false, doneV, bnd, sliceV, Option.getD_some, Option.getD_none, Rows_byV, ← List.map_take, ← List.map_drop, z4, z5, List.take_length, Nat.sub_zero] <;> fail)); (focus (simp <;> fail))) | (simp [allP, opd, Fr.get, Fr.below, Fr.allN, AV.allN, AV.allNL, Loc.below, AO.allN, noN, killO, killT, killD, mkNames, AO.kill, AV.kill, AV.mapN, AV.mapNL]; done) | (with_reducible exact ltD (by assumption)) | omega | (simp only [decide_eq_true_eq, decide_eq_false_iff_not] at *; omega)))
  all_goals (try (first
    | (simp [avName, loadNames, opd, Fr.get]; done)
    | exact hJ.ok.l1
    | exact hRI
    | exact opT_def g d _
    | (have := hFv.l1; omega)))
  all_goals first
    | (have hlt := ltD (by assumption : decide ((i : Int) < ((g.ring - (opRk g d s0 v).1.used).toNat : Int)) = true)
       have ho : trOk g d (opRk g d s0 v).1.place (opRk g d s0 v).1.next (opRk g d s0 v).1.low i = false := by rw [trOk_ref]; simp only [*, Bool.false_or, Bool.true_or, Bool.or_true, Bool.or_false, Bool.and_true, Bool.true_and, Bool.false_and, Bool.and_false, Bool.not_true, Bool.not_false, cond_true, cond_false]; done
       have hT := trF_no hFi hlt ho
       obtain ⟨h62, hinv, hrk⟩ := r_no hB hFv (by assumption) hT
       first
       | exact h62
       | exact hinv
       | (rw [hrk]
          refine Wk.keep hcl ?_ ?_ ?_ <;> simp [Fr.get, sto]))
    | (have hlt := ltD (by assumption : decide ((i : Int) < ((g.ring - (opRk g d s0 v).1.used).toNat : Int)) = true)
       have ho : trOk g d (opRk g d s0 v).1.place (opRk g d s0 v).1.next (opRk g d s0 v).1.low i = true := by rw [trOk_ref]; simp only [*, Bool.false_or, Bool.true_or, Bool.or_true, Bool.or_false, Bool.and_true, Bool.true_and, Bool.false_and, Bool.and_false, Bool.not_true, Bool.not_false, cond_true, cond_false]; done
       have hok := trOk_ok ho
       first
       | (have hl : fL (trS g d (opRk g d s0 v).1.place i) = false := by rw [fL_ok hok]; assumption
          first
          | exact trF_next hFi hlt ho hl
          | (rw [w12 v hFv i (by assumption), ← trE_next, ← trB_next, fE_ok hok, fB_ok hok, List.map_append]
             refine Wk.keep hcl ?_ ?_ ?_ <;> simp [Fr.get, sto]))
       | (have hl : fL (trS g d (opRk g d s0 v).1.place i) = true := by rw [fL_ok hok]; assumption
          have hT := trF_last hFi hlt ho hl
          obtain ⟨h62, hinv, hrk⟩ := r_yes hB hFv (by assumption) (by assumption) hT
          first
          | exact h62
          | exact hinv
          | (rw [hrk]
             simp only [opN, hT, tK_some, tE_some, tB_some]
             rw [fE_ok hok, ← Int.add_assoc, ← Int.add_assoc, ← trB_next, fB_ok hok]
             simp only [List.map_append, List.map_cons, List.map_nil]
             refine Wk.keep hcl ?_ ?_ ?_ <;> simp [Fr.get, sto, secRow, bytes])))
    | (have hge := geD (by assumption : decide ((i : Int) < ((g.ring - (opRk g d s0 v).1.used).toNat : Int)) = false)
       have hT := trF_end hFi hge
       obtain ⟨h62, hinv, hrk⟩ := r_no hB hFv (by assumption) hT
       first
       | exact h62
       | exact hinv
       | (rw [hrk]
          refine Wk.keep hcl ?_ ?_ ?_ <;> simp [Fr.get, sto]))
    | (have hk3 : k = mO j := Nat.le_antisymm hk (geD (by assumption))
       have e : R = (opRk g d s0 v).1 := by
         first
         | (refine rinv_end hFv (.inl ?_); assumption; done)
         | (refine rinv_end hFv (.inr ?_); assumption; done)
       rw [e]; (try rw [hk3]); unfold openV
       first
       | (have h0 : (oS2 g d (jE j (opRk g d s0 v).1)).2 = 0 := by simpa using hg
          simp only [h0, bne_self_eq_false, cond_false, t4]; rfl)
       | (simp only [hg, cond_true]; rfl))
    | (rw [← fuB_next, List.map_append]
       refine Wk.keep hcl ?_ ?_ ?_ <;> simp [Fr.get, sto])
end Go.Proofs.Ytalhjhmphdgaoaa
