/- Tiers: the versions for which something holds. -/
import Derived.Test.YteaojhieghakfaaQueue
import Derived.Test.YteaojhieghakfaaMayH
import Derived.Test.YteaojhieghakfaaTypes
namespace Go.Proofs.Yteaojhieghakfaa
open Go.RowKit
set_option maxRecDepth 100000
def o35_1 : List SO := ((SO.mk (some 22) (.app 28 28 (.tmp 18) (.tmp 21)) none) :: (SO.mk (some 5) (.move (.tmp 22)) none) :: [])
theorem v35_1 : type_of% (@swl _ _ o35_1.eq_1) := @swl _ _ o35_1.eq_1
def c35_2 : SC := (.reg ((SO.mk (some 18) (.move (.tmp 5)) none) :: (SO.mk (some 19) (.faddr 57 (.tmp 7) 0) none) :: (SO.mk (some 20) (.load 3 (.tmp 19)) none) :: (SO.mk (some 21) (.bslice 28 1 [(0 , (.tmp 20))]) none) :: o35_1))
theorem u35_2 : type_of% (@swc _ _ c35_2.eq_1) := @swc _ _ c35_2.eq_1
def c35_3 : SC := (.cond (.tmp 17) c35_2 .skip)
theorem u35_3 : type_of% (@swc _ _ c35_3.eq_1) := @swc _ _ c35_3.eq_1
def c35_4 : SC := (.seq (.reg [SO.mk (some 15) (.move (.tmp 1)) none, SO.mk (some 16) (.load 57 (.tmp 7)) none, SO.mk (some 17) (.callv (.tmp 15) [(.tmp 16)]) none]) (.keep [17, 7, 11, 10, 1, 9, 5] c35_3))
theorem u35_4 : type_of% (@swc _ _ c35_4.eq_1) := @swc _ _ c35_4.eq_1
def c35_5 : SC := (.reg [SO.mk (some 23) (.bin .add 3 (.tmp 11) (.const (Value.int .i64 1))) none, SO.mk (some 11) (.move (.tmp 23)) none])
theorem u35_5 : type_of% (@swc _ _ c35_5.eq_1) := @swc _ _ c35_5.eq_1
def c35_6 : SC := (.seq (.block 1 (.seq (.reg [SO.mk (some 13) (.iaddr 25 (.tmp 9) (.tmp 11)) none, SO.mk (some 14) (.load 57 (.tmp 13)) none, SO.mk (some 7) (.alloc 57) none, SO.mk none (.store 57 (.tmp 7) (.tmp 14)) none]) (.keep [7, 11, 10, 1, 9, 5] c35_4))) (.keep [11, 10, 1, 9, 5] c35_5))
theorem u35_6 : type_of% (@swc _ _ c35_6.eq_1) := @swc _ _ c35_6.eq_1
def c35_7 : SC := (.seq (.cond (.tmp 12) .skip (.exit 0)) (.keep [11, 10, 1, 9, 5] c35_6))
theorem u35_7 : type_of% (@swc _ _ c35_7.eq_1) := @swc _ _ c35_7.eq_1
def c35_8 : SC := (.seq (.reg [SO.mk (some 12) (.bin .lss 3 (.tmp 11) (.tmp 10)) none]) (.keep [12, 9, 1, 10, 11, 5] c35_7))
theorem u35_8 : type_of% (@swc _ _ c35_8.eq_1) := @swc _ _ c35_8.eq_1
def c35_9 : SC := (.block 0 (.loop (.keep [9, 1, 10, 11, 5] c35_8)))
theorem u35_9 : type_of% (@swc _ _ c35_9.eq_1) := @swc _ _ c35_9.eq_1
def c35_10 : SC := (.seq (.reg [SO.mk (some 24) (.move (.tmp 5)) none, SO.mk (some 4) (.move (.tmp 24)) none]) (.keep [4] .ret))
theorem u35_10 : type_of% (@swc _ _ c35_10.eq_1) := @swc _ _ c35_10.eq_1
def c35_11 : SC := (.seq (.seq (.reg [SO.mk (some 8) (.faddr 30 (.tmp 2) 3) none, SO.mk (some 9) (.load 25 (.tmp 8)) none, SO.mk (some 10) (.len 25 (.tmp 9)) none, SO.mk (some 11) (.move (.const (Value.int .i64 0))) none]) (.keep [9, 1, 10, 11, 5] c35_9)) (.keep [5] c35_10))
theorem u35_11 : type_of% (@swc _ _ c35_11.eq_1) := @swc _ _ c35_11.eq_1
def c35_12 : SC := (.seq (.reg [SO.mk (some 5) (.move (.const (Value.slice none 0 0))) none]) (.keep [2, 1, 5] c35_11))
theorem u35_12 : type_of% (@swc _ _ c35_12.eq_1) := @swc _ _ c35_12.eq_1
def c35 : SC := (.seq (.reg [SO.mk (some 2) (.box 30 (.tmp 0)) none, SO.mk (some 4) (.move (.const (Value.slice none 0 0))) none]) (.keep [2, 1] c35_12))
theorem c35_eq : annC Try.f35 = some c35 := by kernel_rfl
theorem r35 : Try.f35.results.toList = [.tmp 4] := by kernel_rfl
theorem e35 : enters Try.prog 35 = true := by kernel_rfl
end Go.Proofs.Yteaojhieghakfaa
namespace Go.Proofs.Yteaojhieghakfaa
open Go.RowKit
theorem Pure.clo {P : Program} {f : FuncId} {args : List AV} {v : AV} (he : enters P f = true) (h : Pure P f args v) : Purev P (.clo (.func f) [] []) args v := by
  unfold Pure at h
  unfold Purev
  intro B σ
  have h' := h B σ
  unfold ACallv
  exact ⟨he, by simpa using h'⟩
set_option maxHeartbeats 4000000
set_option maxRecDepth 20000
attribute [local irreducible] SW SWL SWLn SWD SEcall SEcallv SDv SE SO1 SOg ACalls ACallv Wk EndV
set_option linter.unusedSimpArgs false
set_option linter.unusedVariables false
theorem pureZ_ofC {C : Sto → Prop} {P : Program} {f : FuncId} {fn : Func} {args : List AV} {v : AV} {sc : SC} {rs : List ResultVar} (hm : P.follows .mixedOrders = true) (hf : P.funcs[f]? = some fn) (hc : annC fn = some sc) (hr : fn.results.toList = rs) (hn : args.length ≤ fn.ntmps)
    (h : ∀ B σ, C σ → ClosedS B σ → (∀ c ∈ args, c.sz) → SW P B [] σ sc (HQ (EndZ P B σ rs fun v' σ' => v' = v ∧ σ' = σ)) (entry 0 args) []) : PureC C P f args v := by
  unfold PureC
  intro B σ hC
  refine own_of hm hf hc hr hn fun hcl hsz => ?_
  unfold HQ
  refine SW_mono sc (fun e a l h => ?_) (h B σ hC hcl hsz)
  unfold HQ at h
  have e1 := HQ_wn P B [] σ a l rs (fun v' σ' => v' = v ∧ σ' = σ)
  have e2 := HQ_wr P B [] σ a l rs (fun v' σ' => v' = v ∧ σ' = σ)
  unfold HQ at e1 e2
  cases e
  · rw [e1]; exact EndX.nz h
  · rw [e2]; exact EndX.nz h
  · exact h
def idsK (l : List VerD) (p : VerD → Bool) (k : Nat) : List Int := ((l.take k).filter p).map VerD.id
def idsF (l : List VerD) (p : VerD → Bool) : List Int := (l.filter p).map VerD.id
theorem idsK_yes {l : List VerD} {p : VerD → Bool} {k : Nat} (hk : k < l.length) (h : p l[k]! = true) : idsK l p (k + 1) = idsK l p k ++ [l[k]!.id] := by
  unfold idsK; rw [take_next hk, List.filter_append, List.map_append]; simp only [List.filter_cons, List.filter_nil, h, if_true, List.map_cons, List.map_nil]
theorem idsK_no {l : List VerD} {p : VerD → Bool} {k : Nat} (hk : k < l.length) (h : p l[k]! = false) : idsK l p (k + 1) = idsK l p k := by
  unfold idsK; rw [take_next hk, List.filter_append, List.map_append]; simp only [List.filter_cons, List.filter_nil, h, Bool.false_eq_true, if_false, List.map_nil, List.append_nil]
theorem idsK_end {l : List VerD} {p : VerD → Bool} {k : Nat} (h : decide ((k : Int) < (l.length : Int)) = false) : idsK l p k = idsF l p := by
  unfold idsK idsF; rw [List.take_of_length_le (geS h)]
theorem idsK_0 (l : List VerD) (p : VerD → Bool) : idsK l p 0 = [] := rfl
theorem idsK_len (l : List VerD) (p : VerD → Bool) (k : Nat) : (idsK l p k).length ≤ l.length := by
  unfold idsK; rw [List.length_map]
  exact Nat.le_trans (List.length_filter_le _ _) (by rw [List.length_take]; omega)
theorem ids_p (s : SttD) (hfit : s.fit) (g : FuncId) (m : Nat) (cs : List AV) (p : VerD → Bool) (hf : ∀ i, i < s.vers.length → PurevC (fun σ => σ m = .box cs) Try.prog (.clo (.func g) [] [.lp m 0]) [.agg (s.vers[i]!.row.map .d)] (Bo (p s.vers[i]!))) :
    PureC (fun σ => σ m = .box cs) Try.prog 35 [s.av, .clo (.func g) [] [.lp m 0]] (.d (ints (idsF s.vers p))) := by
  refine pureZ_ofC follows Try.func35 c35_eq r35 (Nat.le_of_ble_eq_true rfl) fun B σ hC hcl hsz => ?_
  obtain ⟨z1, z2, z3, z4, z5⟩ := st_sz5 (hsz s.av (by simp))
  have hfv := hfit.v
  clear hsz hfit
  have hn : m < B := by
    rcases Nat.lt_or_ge m B with h | h
    · exact h
    · rw [(hcl m).2 h] at hC; cases hC
  have y1 : ∀ s, (m = B + s) = False := fun s => by simp; omega
  have y2 : ∀ s, (B + s = m) = False := fun s => by simp; omega
  have y5 : decide (m < B + 100000) = true := by simp; omega
  repeat' (first | (simp -implicitDefEqProofs only [*, contN, contC, Nat.reduceBEq, Bool.or_false, Bool.or_true, Bool.false_or, Bool.true_or, Bool.not_true, Bool.not_false, w_skip, w_ret, w_exit, w_reg, w_dreg, w_seq, SK_n, SK_r, SK_x, w_keep, w_block, w_cond, w_nil, w_cons, w_consg, w_nnil, w_ncons, w_dnil, w_dcons, w_dconsg, HK_app, HD_app, HQ_n, HQ_r, HQ_x, HQ_bn, HQ_br, HQ_bx, HQ_en, HQ_er, HQ_ex, CondB_true, CondB_false, SO1, w_sdv, SDe_alloc, SDe_box, SDe_bslice, SDe_app, true_imp_iff, false_imp_iff, and_false, false_and, not_false_eq_true, not_true_eq_false, addN, mkNames, killT, killD, killO, List.foldl_nil, List.foldl_cons, List.append_nil, List.nil_append, List.cons_append, GuardS_true, GuardS_false, GuardD_true, GuardD_false, DK_true, DK_false, lt_self_add, le_self_add, decide_true, decide_false, Bool.false_eq_true, Bool.true_eq_false, Nat.add_left_cancel_iff, SE, SEalloc, SEbox, SEstore, w_bs, SEbl, SEfz, SEbs0, fzName, osOf, AV.fz1, w_app, w_mk, aev, opd, Fr.get, putO, Fr.norm, List.map_cons, List.map_nil, with1, with2, onInt, AV.lit, entry, ↓reduceIte, Nat.reduceEqDiff, Nat.reduceAdd, reduceCtorEq, true_and, and_true, Option.map_some, Option.map_none, Option.bind_some, Option.bind_none, cond_true, cond_false, binV, unV, fieldV, loadV, sto, cellsAV, newF, newL, Fr.map, Loc.kill, Loc.set, AO.kill, AV.kill, AV.mapN, AV.mapNL, List.filter_nil, List.filter_cons, allP, EndV, retV, resV, resL, frz, dropL, AV.pick, nilV, tupV, imp_self, ne_eq, Int.cast_ofNat_Int, Int.reduceLT, Int.reduceToNat, List.getD_cons_zero, List.getD_cons_succ, bsliceV, buildV, afill, repl, chunk, rvs, AV.rv, RV.nrm, List.getElem?_nil, List.append_assoc, Nat.reduceMul, Nat.reducePow, Nat.zero_lt_succ, Nat.zero_add, Nat.add_zero, List.length_cons, List.length_nil, Nat.reduceLeDiff, Nat.le_refl, List.take_succ_cons, List.take_zero, List.drop_succ_cons, List.drop_zero, indexV, lenV, rowOf_mapD, rowOf_mapI, rowOf_mapA, List.length_map, Int.toNat_natCast, List.getElem?_cons_zero, List.getElem?_cons_succ, and_self, implies_true, if_true, if_false, HQ_zn, HQ_zr, HQ_wn, HQ_wr, AV.nz, AV.nzL, RV.nrm, SEbin, SEnil, nilK, srcV, dstV, appName, List.length_append, Nat.mul_one, take_map_len, take_map_app, List.getElem?_cons_zero, List.map_append, SEmkmap, SEmset, mgetV, kvOf, getM, setM, c35, r35, v35_1, u35_2, u35_3, u35_4, u35_5, u35_6, u35_7, u35_8, u35_9, u35_10, u35_11, u35_12, ty30, ty25, ty3, ty57, ty28, y1, y2, y5, hC, AV.mapNL, SttD.av, SttD.cells, ints, int_, VerD.row, idsK_0, idsK_end]) | (with_reducible refine And.intro ?_ ?_) | (refine callv_roC ( hf k (ltD (by assumption))) rfl rfl ?_ ?_ ?_ ?_ ?_ ?_) | (refine loop_nat (s.vers.length) (fun _ => True) (fun k => [(11, I k), (10, I s.vers.length), (1, .clo (.func g) [] [.lp m 0]), (9, .d (.ro (s.vers.map VerD.row))), (5, .os (B + 22) (idsK s.vers p k).length)]) (fun k => [(B + 22, .arr 1 3 ((idsK s.vers p k).map int_))]) ?_ (Wk.trans (Wk.nameF (s := 5) (n := B + 22) (k := 1) (E := 3) rfl (by omega) (.inl (by omega)) (fun m => AO.kill_below (q := fun m => decide (m < B)) (by simp) _ (hcl m).1)) (Wk.keep hcl ?_ ?_ ?_)) fun k hk hF => ?_; rotate_left 1; (focus (simp [Fr.get, newF, Fr.map, AV.kill, AV.mapN, y1, y2, y5, hC, AV.mapNL, SttD.av, SttD.cells, ints, int_, VerD.row, idsK_0, idsK_end] <;> fail)); (focus (simp [sto, newL, Loc.kill, Loc.set, AO.kill, AV.kill, AV.mapN, y1, y2, y5, hC, AV.mapNL, SttD.av, SttD.cells, ints, int_, VerD.row, idsK_0, idsK_end] <;> fail)); (focus (simp [newL, Loc.kill, Loc.set, y1, y2, y5, hC, AV.mapNL, SttD.av, SttD.cells, ints, int_, VerD.row, idsK_0, idsK_end] <;> fail)); (try have hw : IntKind.i64.wrap ((k : Int) + 1) = (k : Int) + 1 := IntWalk.i64_in _ (by omega))) | (refine EndX.plain ?_) | (refine nil_split (fun hn => ?_) (fun hn => ?_)) | (refine gcall_no not_false ?_) | (refine gdcall_no not_false ?_) | (refine GuardS_of _ _ _ _ _ _ (fun hg => ?_) (fun hg => ?_)) | (refine GuardD_of _ _ _ _ (fun hg => ?_) (fun hg => ?_)) | (refine CondB_of _ _ _ _ _ _ _ ?_ (fun hg => ?_) (fun hg => ?_)))
  all_goals (try (first | ((first | unfold noN | unfold Fr.below | unfold Loc.below); simp [Fr.allN, AV.allN, AV.allNL, AO.allN]; done) | rfl | trivial | assumption | (intro row hrow; simp only [List.mem_map] at hrow; obtain ⟨x, _, rfl⟩ := hrow; rfl) | (refine Wk.keep hcl ?_ ?_ ?_; (focus (simp [Fr.get, y1, y2, y5, hC, AV.mapNL, SttD.av, SttD.cells, ints, int_, VerD.row, idsK_0, idsK_end] <;> fail)); (focus (simp [sto, y1, y2, y5, hC, AV.mapNL, SttD.av, SttD.cells, ints, int_, VerD.row, idsK_0, idsK_end] <;> fail)); (focus (simp <;> fail))) | (simp [allP, opd, Fr.get, Fr.below, Fr.allN, AV.allN, AV.allNL, Loc.below, AO.allN, noN, killO, killT, killD, mkNames, AO.kill, AV.kill, AV.mapN, AV.mapNL]; done) | (with_reducible exact ltD (by assumption)) | omega | (simp only [decide_eq_true_eq, decide_eq_false_iff_not] at *; omega)))
  all_goals first
    | (have hm2 : m < B + 100000 := by omega
       simp [Fr.below, Loc.below, Fr.allN, AO.allN, AV.allN, AV.allNL, hm2]; done)
    | (have hl := idsK_len s.vers p k
       have hk2 := ltS (by assumption : decide ((k : Int) < (s.vers.length : Int)) = true)
       omega)
    | (have hk2 := ltS (by assumption : decide ((k : Int) < (s.vers.length : Int)) = true)
       first | rw [idsK_yes hk2 (by assumption)] | rw [idsK_no hk2 (by assumption)]
       refine Wk.keep hcl ?_ ?_ ?_
       · simp [Fr.get]
       · simp [sto, SttD.cells, ints, int_]
       · simp)
end Go.Proofs.Yteaojhieghakfaa
