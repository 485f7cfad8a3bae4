/- code.Encode. -/
import Derived.Test.YtckjgipcephmfaaDoorKWR
import Derived.Test.YtckjgipcephmfaaDoorKEN
import Derived.Test.YtckjgipcephmfaaDoorKChk
import Derived.Test.YtckjgipcephmfaaDoorNameB
import Derived.Test.YtckjgipcephmfaaDoorTypes
namespace Go.Proofs.YtckjgipcephmfaaDoor
open Go.RowKit
set_option maxRecDepth 100000
def c4_1 : SC := (.seq (.reg [SO.mk (some 2) (.move (.const (Value.slice none 0 0))) none, SO.mk (some 3) (.move (.const (Value.int .i64 1))) none]) (.keep [2, 3] .ret))
theorem u4_1 : type_of% (@swc _ _ c4_1.eq_1) := @swc _ _ c4_1.eq_1
def c4_2 : SC := (.cond (.tmp 10) c4_1 .skip)
theorem u4_2 : type_of% (@swc _ _ c4_2.eq_1) := @swc _ _ c4_2.eq_1
def c4_3 : SC := (.seq (.reg [SO.mk (some 27) (.move (.tmp 7)) none, SO.mk (some 2) (.move (.const (Value.slice none 0 0))) none, SO.mk (some 3) (.move (.tmp 27)) none]) (.keep [2, 3] .ret))
theorem u4_3 : type_of% (@swc _ _ c4_3.eq_1) := @swc _ _ c4_3.eq_1
def c4_4 : SC := (.cond (.tmp 26) c4_3 .skip)
theorem u4_4 : type_of% (@swc _ _ c4_4.eq_1) := @swc _ _ c4_4.eq_1
def c4_5 : SC := (.seq (.reg [SO.mk (some 25) (.move (.tmp 7)) none, SO.mk (some 26) (.bin .neq 24 (.tmp 25) (.const (Value.int .i64 0))) none]) (.keep [26, 7, 6, 19, 18, 17, 4] c4_4))
theorem u4_5 : type_of% (@swc _ _ c4_5.eq_1) := @swc _ _ c4_5.eq_1
def c4_6 : SC := (.reg [SO.mk (some 28) (.move (.tmp 4)) none, SO.mk (some 29) (.load 42 (.tmp 6)) none, SO.mk (some 30) (.call 8 [(.tmp 28), (.tmp 29)]) none])
theorem u4_6 : type_of% (@swc _ _ c4_6.eq_1) := @swc _ _ c4_6.eq_1
def c4_7 : SC := (.seq (.seq (.reg [SO.mk (some 23) (.load 42 (.tmp 6)) none, SO.mk (some 24) (.call 7 [(.tmp 23)]) none, SO.mk (some 7) (.move (.tmp 24)) none]) (.keep [7, 6, 19, 18, 17, 4] c4_5)) (.keep [6, 19, 18, 17, 4] c4_6))
theorem u4_7 : type_of% (@swc _ _ c4_7.eq_1) := @swc _ _ c4_7.eq_1
def c4_8 : SC := (.reg [SO.mk (some 31) (.bin .add 3 (.tmp 19) (.const (Value.int .i64 1))) none, SO.mk (some 19) (.move (.tmp 31)) none])
theorem u4_8 : type_of% (@swc _ _ c4_8.eq_1) := @swc _ _ c4_8.eq_1
def c4_9 : SC := (.seq (.block 1 (.seq (.reg [SO.mk (some 21) (.iaddr 22 (.tmp 17) (.tmp 19)) none, SO.mk (some 22) (.load 42 (.tmp 21)) none, SO.mk (some 6) (.alloc 42) none, SO.mk none (.store 42 (.tmp 6) (.tmp 22)) none]) (.keep [6, 19, 18, 17, 4] c4_7))) (.keep [19, 18, 17, 4] c4_8))
theorem u4_9 : type_of% (@swc _ _ c4_9.eq_1) := @swc _ _ c4_9.eq_1
def c4_10 : SC := (.seq (.cond (.tmp 20) .skip (.exit 0)) (.keep [19, 18, 17, 4] c4_9))
theorem u4_10 : type_of% (@swc _ _ c4_10.eq_1) := @swc _ _ c4_10.eq_1
def c4_11 : SC := (.seq (.reg [SO.mk (some 20) (.bin .lss 3 (.tmp 19) (.tmp 18)) none]) (.keep [20, 17, 18, 19, 4] c4_10))
theorem u4_11 : type_of% (@swc _ _ c4_11.eq_1) := @swc _ _ c4_11.eq_1
def c4_12 : SC := (.block 0 (.loop (.keep [17, 18, 19, 4] c4_11)))
theorem u4_12 : type_of% (@swc _ _ c4_12.eq_1) := @swc _ _ c4_12.eq_1
def o4_13 : List SO := ((SO.mk (some 2) (.move (.tmp 35)) none) :: (SO.mk (some 3) (.move (.const (Value.int .i64 0))) none) :: [])
theorem v4_13 : type_of% (@swl _ _ o4_13.eq_1) := @swl _ _ o4_13.eq_1
def c4_14 : SC := (.seq (.reg ((SO.mk (some 32) (.move (.tmp 4)) none) :: (SO.mk (some 33) (.nilCheck (.tmp 32)) none) :: (SO.mk (some 34) (.faddr 30 (.tmp 33) 0) none) :: (SO.mk (some 35) (.load 23 (.tmp 34)) none) :: o4_13)) (.keep [2, 3] .ret))
theorem u4_14 : type_of% (@swc _ _ c4_14.eq_1) := @swc _ _ c4_14.eq_1
def c4_15 : SC := (.seq (.seq (.reg [SO.mk (some 17) (.move (.tmp 0)) none, SO.mk (some 18) (.len 22 (.tmp 17)) none, SO.mk (some 19) (.move (.const (Value.int .i64 0))) none]) (.keep [17, 18, 19, 4] c4_12)) (.keep [4] c4_14))
theorem u4_15 : type_of% (@swc _ _ c4_15.eq_1) := @swc _ _ c4_15.eq_1
def c4_16 : SC := (.seq (.reg [SO.mk (some 13) (.move (.tmp 4)) none, SO.mk (some 14) (.move (.tmp 0)) none, SO.mk (some 15) (.len 22 (.tmp 14)) none, SO.mk (some 16) (.call 6 [(.tmp 13), (.tmp 15), (.const (Value.int .i64 1))]) none]) (.keep [0, 4] c4_15))
theorem u4_16 : type_of% (@swc _ _ c4_16.eq_1) := @swc _ _ c4_16.eq_1
def c4_17 : SC := (.seq (.reg [SO.mk (some 11) (.build 30 []) none, SO.mk (some 12) (.box 30 (.tmp 11)) none, SO.mk (some 4) (.move (.tmp 12)) none]) (.keep [0, 4] c4_16))
theorem u4_17 : type_of% (@swc _ _ c4_17.eq_1) := @swc _ _ c4_17.eq_1
def c4_18 : SC := (.seq (.seq (.reg [SO.mk (some 8) (.move (.tmp 0)) none, SO.mk (some 9) (.len 22 (.tmp 8)) none, SO.mk (some 10) (.bin .gtr 3 (.tmp 9) (.const (Value.int .i64 255))) none]) (.keep [10, 0] c4_2)) (.keep [0] c4_17))
theorem u4_18 : type_of% (@swc _ _ c4_18.eq_1) := @swc _ _ c4_18.eq_1
def c4 : SC := (.seq (.reg [SO.mk (some 2) (.move (.const (Value.slice none 0 0))) none, SO.mk (some 3) (.move (.const (Value.int .i64 0))) none]) (.keep [0] c4_18))
theorem c4_eq : annC Tryd.f4 = some c4 := by kernel_rfl
theorem r4 : Tryd.f4.results.toList = [.tmp 2, .tmp 3] := by kernel_rfl
theorem e4 : enters Tryd.prog 4 = true := by kernel_rfl
end Go.Proofs.YtckjgipcephmfaaDoor
namespace Go.Proofs.YtckjgipcephmfaaDoor
open Go.RowKit
set_option maxHeartbeats 4000000
set_option maxRecDepth 20000
attribute [local irreducible] SW SWL SWLn SWD SEcall SEcallv SDv SE SO1 SOg ACalls ACallv Wk EndV
set_option linter.unusedSimpArgs false
set_option linter.unusedVariables false
theorem SEcall_wk {P : Program} {B : Nat} {T0 : List Nat} {r : Sto} {a a1 : Fr} {l l1 : Loc} {d : Option Nat} {K : Fr → Loc → Prop} {f : FuncId} {args : List Operand} (h : Wk B T0 r a l a1 l1) (hs : SEcall P B T0 r d K a1 l1 f args) : SEcall P B T0 r d K a l f args := by
  unfold SEcall at hs ⊢
  obtain ⟨T, R, a2, l2, h1, h2⟩ := hs
  exact ⟨T, R, a2, l2, h.trans h1, h2⟩
theorem wn_nil {B : Nat} {T0 : List Nat} {r : Sto} {a : Fr} {n m : Nat} (ne : m ≠ n) (hm : B ≤ m) (hr : ∀ x, (r x).kill m = r x) : Wk B T0 r a [(n, .box [.d (.v (.slice none 0 0))])] (newF m a) [(m, arO []), (n, wrO m [])] := by
  have h := Wk.nameB (B := B) (T0 := T0) (r := r) (a := a) (l := [(n, .box [.d (.v (.slice none 0 0))])]) (b := n) (cs := [.d (.v (.slice none 0 0))]) (j := 0) (n := m) (k := 1) (E := 5) (by simp [sto]) rfl ne.symm (by omega) (.inl hm) hr
  have e : Loc.set n (.box (([AV.d (.v (.slice none 0 0))].map (AV.kill m)).set 0 (.os m 0))) (newL m (.arr 1 5 []) [(n, .box [.d (.v (.slice none 0 0))])]) = [(m, arO []), (n, wrO m [])] := by
    simp [newL, Loc.kill, Loc.set, ne, ne.symm, arO, wrO]
  rw [e] at h
  exact h
def eB (l : List RecD) (k : Nat) : List UInt8 := [b8 l.length] ++ catR l k
theorem eB_0 (l : List RecD) : eB l 0 = [b8 l.length] := by simp [eB, catR_0]
theorem eB_next {l : List RecD} {k : Nat} (h : k < l.length) : eB l (k + 1) = eB l k ++ recB l[k]! := by unfold eB; rw [catR_next h, List.append_assoc]
theorem eB_len {l : List RecD} {k : Nat} (hk : k ≤ l.length) (h : okN l k) : (eB l k).length ≤ 2200 * k + 1 := by
  have := catR_len hk h
  unfold eB; simp; omega
attribute [local irreducible] textB intsB bitB bigB verB askB partB ruleB b8 eB recB encV
theorem encode_p (l : List RecD) : Pure Tryd.prog 4 [.d (.ro (l.map RecD.row))] (encV l) := by
  refine pureZ_of follows Tryd.func4 c4_eq r4 (Nat.le_of_ble_eq_true rfl) fun B σ hcl hsz => ?_
  clear hsz
  have hr3 : ∀ x, (σ x).kill (B + 90001) = σ x := fun x => AO.kill_below (q := fun m => decide (m < B)) (by simp) _ (hcl x).1
  have ne : B + 90001 ≠ B + 12 := by omega
  have hlo : ∀ k : Nat, (recF l[k]! != 0) = false → RecD.sh l[k]! ∧ 1 ≤ RecD.kind l[k]! ∧ RecD.kind l[k]! ≤ 14 := fun k h => by
    have := recF_sm (by simpa using h : recF l[k]! = 0)
    exact ⟨this.sh, this.k1, this.k2⟩
  have hsize : ∀ k : Nat, k < l.length → okN l k → (recF l[k]! != 0) = false → decide ((l.length : Int) > 255) = false → (eB l k).length + (recB l[k]!).length ≤ 2 ^ 40 := fun k hk h1 h2 h3 => by
    have a1 := eB_len (by omega) h1
    have a2 := recB_len (recF_sm (by simpa using h2 : recF l[k]! = 0))
    simp at h3; omega
  repeat' (first | (simp -implicitDefEqProofs only [*, contN, contC, Nat.reduceBEq, Bool.or_false, Bool.or_true, Bool.false_or, Bool.true_or, Bool.not_true, Bool.not_false, SEconv, w_skip, w_ret, w_exit, w_reg, w_dreg, w_seq, SK_n, SK_r, SK_x, w_keep, w_block, w_cond, w_nil, w_cons, w_consg, w_nnil, w_ncons, w_dnil, w_dcons, w_dconsg, HK_app, HD_app, HQ_n, HQ_r, HQ_x, HQ_bn, HQ_br, HQ_bx, HQ_en, HQ_er, HQ_ex, CondB_true, CondB_false, SO1, w_sdv, SDe_alloc, SDe_box, SDe_bslice, SDe_app, true_imp_iff, false_imp_iff, and_false, false_and, not_false_eq_true, not_true_eq_false, addN, mkNames, killT, killD, killO, List.foldl_nil, List.foldl_cons, List.append_nil, List.nil_append, List.cons_append, GuardS_true, GuardS_false, GuardD_true, GuardD_false, DK_true, DK_false, lt_self_add, le_self_add, decide_true, decide_false, Bool.false_eq_true, Bool.true_eq_false, Nat.add_left_cancel_iff, SE, SEalloc, SEbox, SEstore, w_bs, SEbl, SEfz, SEbs0, fzName, osOf, AV.fz1, w_app, w_mk, aev, opd, Fr.get, putO, Fr.norm, List.map_cons, List.map_nil, with1, with2, onInt, AV.lit, entry, ↓reduceIte, Nat.reduceEqDiff, Nat.reduceAdd, reduceCtorEq, true_and, and_true, Option.map_some, Option.map_none, Option.bind_some, Option.bind_none, cond_true, cond_false, binV, unV, fieldV, loadV, sto, cellsAV, newF, newL, Fr.map, Loc.kill, Loc.set, AV.kill, AV.mapN, AV.mapNL, List.filter_nil, List.filter_cons, allP, EndV, retV, resV, resL, frz, dropL, AV.pick, nilV, tupV, imp_self, ne_eq, Int.cast_ofNat_Int, Int.reduceLT, Int.reduceToNat, List.getD_cons_zero, List.getD_cons_succ, bsliceV, buildV, afill, repl, chunk, rvs, AV.rv, RV.nrm, List.getElem?_nil, List.append_assoc, Nat.reduceMul, Nat.reducePow, Nat.zero_lt_succ, Nat.zero_add, Nat.add_zero, List.length_cons, List.length_nil, Nat.reduceLeDiff, Nat.le_refl, List.take_succ_cons, List.take_zero, List.drop_succ_cons, List.drop_zero, indexV, lenV, rowOf_mapD, rowOf_mapI, rowOf_mapA, List.length_map, Int.toNat_natCast, List.getElem?_cons_zero, List.getElem?_cons_succ, and_self, implies_true, if_true, if_false, HQ_zn, HQ_zr, HQ_wn, HQ_wr, AV.nz, AV.nzL, RV.nrm, SEbin, SEnil, nilK, srcV, dstV, appName, List.length_append, Nat.mul_one, take_map_len, take_map_app, List.getElem?_cons_zero, List.map_append, SEmkmap, SEmset, mgetV, kvOf, getM, setM, c4, r4, u4_1, u4_2, u4_3, u4_4, u4_5, u4_6, u4_7, u4_8, u4_9, u4_10, u4_11, u4_12, v4_13, u4_14, u4_15, u4_16, u4_17, u4_18, ty22, ty3, ty30, ty42, ty24, ty23, ty5, aokB, aokD, aokA, ↓arO_allN, ↓wrO_allN, ↓arO_kill, wrO_kill, RecD.av, RecD.row, VerD.avW, VerD.row, PartD.avW, PartD.row, AskD.av, AskD.row, ints, eB_0]) | (with_reducible refine And.intro ?_ ?_) | (refine call_ro e7 ( checkRec_p l[k]!) rfl ?_ ?_ ?_ ?_) | (refine gcall_ro e7 ( checkRec_p l[k]!) rfl ?_ ?_ ?_ ?_) | (refine dcall_ro e7 ( checkRec_p l[k]!) rfl ?_ ?_ ?_ ?_) | (refine gdcall_ro rfl e7 ( checkRec_p l[k]!) rfl ?_ ?_ ?_ ?_) | (refine SEcall_wk (wn_nil (m := B + 90001) (n := B + 12) ne (by omega) hr3) ?_) | (refine call_w0 (d := some 16) (by omega) (by omega) ne (fun h => absurd h (by omega)) hr3 e6 (put1_w l.length) rfl ?_ ?_ ?_ ?_ ?_ ?_) | (refine call_w1 (d := some 30) (by omega) (by omega) ne (fun h => absurd h (by omega)) hr3 e8 (rec_w l[k]! (hlo k (by assumption)).2.1 (hlo k (by assumption)).2.2 (hlo k (by assumption)).1) rfl ?_ ?_ ?_ ?_ ?_ ?_) | (refine loop_nat (l.length) (fun k => okN l k) (fun k => [(17, .d (.ro (l.map RecD.row))), (18, I l.length), (19, I k), (4, .lp (B + 12) 0)]) (fun k => [(B + 90001, arO (eB l k)), (B + 12, wrO (B + 90001) (eB l k))]) ?_ (Wk.keep hcl ?_ ?_ ?_) fun k hk hF => ?_; rotate_left 1; (focus (simp [Fr.get, newF, Fr.map, AV.kill, AV.mapN, aokB, aokD, aokA, ↓arO_allN, ↓wrO_allN, ↓arO_kill, wrO_kill, RecD.av, RecD.row, VerD.avW, VerD.row, PartD.avW, PartD.row, AskD.av, AskD.row, ints, eB_0] <;> fail)); (focus (simp [sto, newL, Loc.kill, Loc.set, AO.kill, AV.kill, AV.mapN, aokB, aokD, aokA, ↓arO_allN, ↓wrO_allN, ↓arO_kill, wrO_kill, RecD.av, RecD.row, VerD.avW, VerD.row, PartD.avW, PartD.row, AskD.av, AskD.row, ints, eB_0] <;> fail)); (focus (simp [newL, Loc.kill, Loc.set, aokB, aokD, aokA, ↓arO_allN, ↓wrO_allN, ↓arO_kill, wrO_kill, RecD.av, RecD.row, VerD.avW, VerD.row, PartD.avW, PartD.row, AskD.av, AskD.row, ints, eB_0] <;> fail)); (try have hw : IntKind.i64.wrap ((k : Int) + 1) = (k : Int) + 1 := IntWalk.i64_in _ (by omega))) | (refine EndX.plain ?_) | (refine nil_split (fun hn => ?_) (fun hn => ?_)) | (refine gcall_no not_false ?_) | (refine gdcall_no not_false ?_) | (refine GuardS_of _ _ _ _ _ _ (fun hg => ?_) (fun hg => ?_)) | (refine GuardD_of _ _ _ _ (fun hg => ?_) (fun hg => ?_)) | (refine CondB_of _ _ _ _ _ _ _ ?_ (fun hg => ?_) (fun hg => ?_)))
  all_goals (try (have hs5 : decide ((l.length : Int) > 255) = false := by assumption))
  all_goals (try (have hlt := ltD (by assumption : decide ((k : Int) < (l.length : Int)) = true)))
  all_goals first
    | (unfold Fr.below; simp [Fr.allN, AV.allN, AV.allNL]; done)
    | (unfold Loc.below; simp only [List.all_cons, List.all_nil, arO_allN, wrO_allN]; simp [AO.allN, AV.allN, AV.allNL]; done)
    | (intro p hp; cases hp; done)
    | (intro p hp; simp only [List.mem_cons, List.not_mem_nil, or_false] at hp; subst hp; exact ⟨by simp, by simp, rfl⟩)
    | with_reducible exact okN_0 l
    | with_reducible exact enc_size (by assumption)
    | with_reducible exact enc_bad hs5 hlt hF (by simpa [bne] using (by assumption : (recF l[k]! != 0) = true))
    | (intro p hp; cases hp; done)
    | (intro p hp; simp only [List.mem_cons, List.not_mem_nil, or_false] at hp; subst hp; exact ⟨by simp, by simp, rfl⟩)
    | trivial
    | with_reducible exact hsize k hlt hF (by assumption) hs5
    | (with_reducible exact okN_next hF (by simpa using (by assumption : (recF l[k]! != 0) = false)))
    | omega
    | (simp; done)
    | (rw [← eB_next hlt, IntWalk.i64_in ((k : Int) + 1) (by simp at hs5; omega)]
       refine Wk.keep hcl ?_ ?_ ?_ <;> simp [Fr.get, sto])
    | skip
  have hk2 : k = l.length := Nat.le_antisymm hk (geD (by assumption))
  subst hk2
  have he := enc_ok hs5 rfl hF
  repeat' (first | (simp -implicitDefEqProofs only [*, contN, contC, Nat.reduceBEq, Bool.or_false, Bool.or_true, Bool.false_or, Bool.true_or, Bool.not_true, Bool.not_false, SEconv, w_skip, w_ret, w_exit, w_reg, w_dreg, w_seq, SK_n, SK_r, SK_x, w_keep, w_block, w_cond, w_nil, w_cons, w_consg, w_nnil, w_ncons, w_dnil, w_dcons, w_dconsg, HK_app, HD_app, HQ_n, HQ_r, HQ_x, HQ_bn, HQ_br, HQ_bx, HQ_en, HQ_er, HQ_ex, CondB_true, CondB_false, SO1, w_sdv, SDe_alloc, SDe_box, SDe_bslice, SDe_app, true_imp_iff, false_imp_iff, and_false, false_and, not_false_eq_true, not_true_eq_false, addN, mkNames, killT, killD, killO, List.foldl_nil, List.foldl_cons, List.append_nil, List.nil_append, List.cons_append, GuardS_true, GuardS_false, GuardD_true, GuardD_false, DK_true, DK_false, lt_self_add, le_self_add, decide_true, decide_false, Bool.false_eq_true, Bool.true_eq_false, Nat.add_left_cancel_iff, SE, SEalloc, SEbox, SEstore, w_bs, SEbl, SEfz, SEbs0, fzName, osOf, AV.fz1, w_app, w_mk, aev, opd, Fr.get, putO, Fr.norm, List.map_cons, List.map_nil, with1, with2, onInt, AV.lit, entry, ↓reduceIte, Nat.reduceEqDiff, Nat.reduceAdd, reduceCtorEq, true_and, and_true, Option.map_some, Option.map_none, Option.bind_some, Option.bind_none, cond_true, cond_false, binV, unV, fieldV, loadV, sto, cellsAV, newF, newL, Fr.map, Loc.kill, Loc.set, AO.kill, AV.kill, AV.mapN, AV.mapNL, List.filter_nil, List.filter_cons, allP, EndV, retV, resV, resL, frz, dropL, AV.pick, nilV, tupV, imp_self, ne_eq, Int.cast_ofNat_Int, Int.reduceLT, Int.reduceToNat, List.getD_cons_zero, List.getD_cons_succ, bsliceV, buildV, afill, repl, chunk, rvs, AV.rv, RV.nrm, List.getElem?_nil, List.append_assoc, Nat.reduceMul, Nat.reducePow, Nat.zero_lt_succ, Nat.zero_add, Nat.add_zero, List.length_cons, List.length_nil, Nat.reduceLeDiff, Nat.le_refl, List.take_succ_cons, List.take_zero, List.drop_succ_cons, List.drop_zero, indexV, lenV, rowOf_mapD, rowOf_mapI, rowOf_mapA, List.length_map, Int.toNat_natCast, List.getElem?_cons_zero, List.getElem?_cons_succ, and_self, implies_true, if_true, if_false, HQ_zn, HQ_zr, HQ_wn, HQ_wr, AV.nz, AV.nzL, RV.nrm, SEbin, SEnil, nilK, srcV, dstV, appName, List.length_append, Nat.mul_one, take_map_len, take_map_app, List.getElem?_cons_zero, List.map_append, SEmkmap, SEmset, mgetV, kvOf, getM, setM, c4, r4, u4_1, u4_2, u4_3, u4_4, u4_5, u4_6, u4_7, u4_8, u4_9, u4_10, u4_11, u4_12, v4_13, u4_14, u4_15, u4_16, u4_17, u4_18, ty22, ty3, ty30, ty42, ty24, ty23, ty5, arO, wrO]) | (with_reducible refine And.intro ?_ ?_) | (refine EndX.plain ?_) | (refine nil_split (fun hn => ?_) (fun hn => ?_)) | (refine gcall_no not_false ?_) | (refine gdcall_no not_false ?_) | (refine GuardS_of _ _ _ _ _ _ (fun hg => ?_) (fun hg => ?_)) | (refine GuardD_of _ _ _ _ (fun hg => ?_) (fun hg => ?_)) | (refine CondB_of _ _ _ _ _ _ _ ?_ (fun hg => ?_) (fun hg => ?_)))
  all_goals (try (first | ((first | unfold noN | unfold Fr.below | unfold Loc.below); simp [Fr.allN, AV.allN, AV.allNL, AO.allN]; done) | rfl | trivial | assumption | (intro row hrow; simp only [List.mem_map] at hrow; obtain ⟨x, _, rfl⟩ := hrow; rfl) | (refine Wk.keep hcl ?_ ?_ ?_; (focus (simp [Fr.get, arO, wrO] <;> fail)); (focus (simp [sto, arO, wrO] <;> fail)); (focus (simp <;> fail))) | (simp [allP, opd, Fr.get, Fr.below, Fr.allN, AV.allN, AV.allNL, Loc.below, AO.allN, noN, killO, killT, killD, mkNames, AO.kill, AV.kill, AV.mapN, AV.mapNL]; done) | (with_reducible exact ltD (by assumption)) | omega | (simp only [decide_eq_true_eq, decide_eq_false_iff_not] at *; omega)))
  all_goals (unfold eB; exact he)
end Go.Proofs.YtckjgipcephmfaaDoor
