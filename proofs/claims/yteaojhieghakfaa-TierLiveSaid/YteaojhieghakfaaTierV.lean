/- Tiers: what lives on each volume. -/
import Derived.Test.YteaojhieghakfaaTierI
import Derived.Test.YteaojhieghakfaaChkP
import Derived.Test.YteaojhieghakfaaMayP
import Derived.Test.YteaojhieghakfaaTypes
namespace Go.Proofs.Yteaojhieghakfaa
open Go.RowKit
set_option maxRecDepth 100000
def o28_1 : List SO := ((SO.mk (some 27) (.bin .eql 3 (.tmp 25) (.tmp 26)) (some (23 , true))) :: (SO.mk (some 28) (.pick (.tmp 23) (.tmp 27) (.const (Value.bool false))) none) :: [])
theorem v28_1 : type_of% (@swl _ _ o28_1.eq_1) := @swl _ _ o28_1.eq_1
def o28_2 : List SO := ((SO.mk (some 23) (.move (.tmp 22)) none) :: (SO.mk (some 24) (.faddr 57 (.tmp 7) 9) (some (23 , true))) :: (SO.mk (some 25) (.load 3 (.tmp 24)) (some (23 , true))) :: (SO.mk (some 26) (.move (.tmp 1)) (some (23 , true))) :: o28_1)
theorem v28_2 : type_of% (@swl _ _ o28_2.eq_1) := @swl _ _ o28_2.eq_1
def o28_3 : List SO := ((SO.mk (some 19) (.faddr 57 (.tmp 7) 7) (some (18 , false))) :: (SO.mk (some 20) (.load 3 (.tmp 19)) (some (18 , false))) :: (SO.mk (some 21) (.bin .eql 3 (.tmp 20) (.const (Value.int .i64 3))) (some (18 , false))) :: (SO.mk (some 22) (.pick (.tmp 18) (.const (Value.bool true)) (.tmp 21)) none) :: o28_2)
theorem v28_3 : type_of% (@swl _ _ o28_3.eq_1) := @swl _ _ o28_3.eq_1
def o28_4 : List SO := ((SO.mk (some 33) (.bin .add 3 (.tmp 29) (.tmp 32)) none) :: (SO.mk (some 5) (.move (.tmp 33)) none) :: [])
theorem v28_4 : type_of% (@swl _ _ o28_4.eq_1) := @swl _ _ o28_4.eq_1
def c28_5 : SC := (.reg ((SO.mk (some 29) (.move (.tmp 5)) none) :: (SO.mk (some 30) (.faddr 57 (.tmp 7) 5) none) :: (SO.mk (some 31) (.load 3 (.tmp 30)) none) :: (SO.mk (some 32) (.bin .add 3 (.const (Value.int .i64 6)) (.tmp 31)) none) :: o28_4))
theorem u28_5 : type_of% (@swc _ _ c28_5.eq_1) := @swc _ _ c28_5.eq_1
def c28_6 : SC := (.cond (.tmp 28) c28_5 .skip)
theorem u28_6 : type_of% (@swc _ _ c28_6.eq_1) := @swc _ _ c28_6.eq_1
def c28_7 : SC := (.seq (.reg ((SO.mk (some 15) (.faddr 57 (.tmp 7) 7) none) :: (SO.mk (some 16) (.load 3 (.tmp 15)) none) :: (SO.mk (some 17) (.bin .eql 3 (.tmp 16) (.const (Value.int .i64 2))) none) :: (SO.mk (some 18) (.move (.tmp 17)) none) :: o28_3)) (.keep [28, 7, 11, 10, 1, 9, 5] c28_6))
theorem u28_7 : type_of% (@swc _ _ c28_7.eq_1) := @swc _ _ c28_7.eq_1
def c28_8 : SC := (.reg [SO.mk (some 34) (.bin .add 3 (.tmp 11) (.const (Value.int .i64 1))) none, SO.mk (some 11) (.move (.tmp 34)) none])
theorem u28_8 : type_of% (@swc _ _ c28_8.eq_1) := @swc _ _ c28_8.eq_1
def c28_9 : SC := (.seq (.block 1 (.seq (.reg [SO.mk (some 13) (.iaddr 25 (.tmp 9) (.tmp 11)) none, SO.mk (some 14) (.load 57 (.tmp 13)) none, SO.mk (some 7) (.alloc 57) none, SO.mk none (.store 57 (.tmp 7) (.tmp 14)) none]) (.keep [7, 11, 10, 1, 9, 5] c28_7))) (.keep [11, 10, 1, 9, 5] c28_8))
theorem u28_9 : type_of% (@swc _ _ c28_9.eq_1) := @swc _ _ c28_9.eq_1
def c28_10 : SC := (.seq (.cond (.tmp 12) .skip (.exit 0)) (.keep [11, 10, 1, 9, 5] c28_9))
theorem u28_10 : type_of% (@swc _ _ c28_10.eq_1) := @swc _ _ c28_10.eq_1
def c28_11 : SC := (.seq (.reg [SO.mk (some 12) (.bin .lss 3 (.tmp 11) (.tmp 10)) none]) (.keep [12, 9, 1, 10, 11, 5] c28_10))
theorem u28_11 : type_of% (@swc _ _ c28_11.eq_1) := @swc _ _ c28_11.eq_1
def c28_12 : SC := (.block 0 (.loop (.keep [9, 1, 10, 11, 5] c28_11)))
theorem u28_12 : type_of% (@swc _ _ c28_12.eq_1) := @swc _ _ c28_12.eq_1
def c28_13 : SC := (.seq (.reg [SO.mk (some 35) (.move (.tmp 5)) none, SO.mk (some 4) (.move (.tmp 35)) none]) (.keep [4] .ret))
theorem u28_13 : type_of% (@swc _ _ c28_13.eq_1) := @swc _ _ c28_13.eq_1
def c28_14 : SC := (.seq (.seq (.reg [SO.mk (some 8) (.faddr 30 (.tmp 2) 3) none, SO.mk (some 9) (.load 25 (.tmp 8)) none, SO.mk (some 10) (.len 25 (.tmp 9)) none, SO.mk (some 11) (.move (.const (Value.int .i64 0))) none]) (.keep [9, 1, 10, 11, 5] c28_12)) (.keep [5] c28_13))
theorem u28_14 : type_of% (@swc _ _ c28_14.eq_1) := @swc _ _ c28_14.eq_1
def c28_15 : SC := (.seq (.reg [SO.mk (some 5) (.move (.const (Value.int .i64 0))) none]) (.keep [2, 1, 5] c28_14))
theorem u28_15 : type_of% (@swc _ _ c28_15.eq_1) := @swc _ _ c28_15.eq_1
def c28 : SC := (.seq (.reg [SO.mk (some 2) (.box 30 (.tmp 0)) none, SO.mk (some 4) (.move (.const (Value.int .i64 0))) none]) (.keep [2, 1] c28_15))
theorem c28_eq : annC Try.f28 = some c28 := by kernel_rfl
theorem r28 : Try.f28.results.toList = [.tmp 4] := by kernel_rfl
theorem e28 : enters Try.prog 28 = true := by kernel_rfl
def c11_1 : SC := (.seq (.reg [SO.mk (some 11) (.move (.tmp 4)) none, SO.mk (some 2) (.move (.const (Value.slice none 0 0))) none, SO.mk (some 3) (.move (.tmp 11)) none]) (.keep [2, 3] .ret))
theorem u11_1 : type_of% (@swc _ _ c11_1.eq_1) := @swc _ _ c11_1.eq_1
def c11_2 : SC := (.cond (.tmp 10) c11_1 .skip)
theorem u11_2 : type_of% (@swc _ _ c11_2.eq_1) := @swc _ _ c11_2.eq_1
def c11_3 : SC := (.seq (.reg [SO.mk (some 9) (.move (.tmp 4)) none, SO.mk (some 10) (.bin .neq 31 (.tmp 9) (.const (Value.int .i64 0))) none]) (.keep [10, 4, 1] c11_2))
theorem u11_3 : type_of% (@swc _ _ c11_3.eq_1) := @swc _ _ c11_3.eq_1
def o11_4 : List SO := ((SO.mk (some 19) (.bslice 28 1 [(0 , (.tmp 18))]) none) :: (SO.mk (some 20) (.app 28 28 (.tmp 15) (.tmp 19)) none) :: (SO.mk (some 5) (.move (.tmp 20)) none) :: [])
theorem v11_4 : type_of% (@swl _ _ o11_4.eq_1) := @swl _ _ o11_4.eq_1
def c11_5 : SC := (.reg ((SO.mk (some 15) (.move (.tmp 5)) none) :: (SO.mk (some 16) (.load 30 (.tmp 1)) none) :: (SO.mk (some 17) (.move (.tmp 6)) none) :: (SO.mk (some 18) (.call 28 [(.tmp 16), (.tmp 17)]) none) :: o11_4))
theorem u11_5 : type_of% (@swc _ _ c11_5.eq_1) := @swc _ _ c11_5.eq_1
def c11_6 : SC := (.reg [SO.mk (some 21) (.bin .add 3 (.tmp 12) (.const (Value.int .i64 1))) none, SO.mk (some 12) (.move (.tmp 21)) none])
theorem u11_6 : type_of% (@swc _ _ c11_6.eq_1) := @swc _ _ c11_6.eq_1
def c11_7 : SC := (.seq (.block 1 (.seq (.reg [SO.mk (some 14) (.move (.tmp 12)) none, SO.mk (some 6) (.move (.tmp 14)) none]) (.keep [5, 6, 12, 1] c11_5))) (.keep [12, 1, 5] c11_6))
theorem u11_7 : type_of% (@swc _ _ c11_7.eq_1) := @swc _ _ c11_7.eq_1
def c11_8 : SC := (.seq (.cond (.tmp 13) .skip (.exit 0)) (.keep [5, 12, 1] c11_7))
theorem u11_8 : type_of% (@swc _ _ c11_8.eq_1) := @swc _ _ c11_8.eq_1
def c11_9 : SC := (.seq (.reg [SO.mk (some 13) (.bin .lss 3 (.tmp 12) (.const (Value.int .i64 8))) none]) (.keep [13, 1, 12, 5] c11_8))
theorem u11_9 : type_of% (@swc _ _ c11_9.eq_1) := @swc _ _ c11_9.eq_1
def c11_10 : SC := (.block 0 (.loop (.keep [1, 12, 5] c11_9)))
theorem u11_10 : type_of% (@swc _ _ c11_10.eq_1) := @swc _ _ c11_10.eq_1
def c11_11 : SC := (.seq (.reg [SO.mk (some 22) (.move (.tmp 5)) none, SO.mk (some 2) (.move (.tmp 22)) none, SO.mk (some 3) (.move (.const (Value.int .i64 0))) none]) (.keep [2, 3] .ret))
theorem u11_11 : type_of% (@swc _ _ c11_11.eq_1) := @swc _ _ c11_11.eq_1
def c11_12 : SC := (.seq (.seq (.reg [SO.mk (some 12) (.move (.const (Value.int .i64 0))) none]) (.keep [1, 12, 5] c11_10)) (.keep [5] c11_11))
theorem u11_12 : type_of% (@swc _ _ c11_12.eq_1) := @swc _ _ c11_12.eq_1
def c11_13 : SC := (.seq (.reg [SO.mk (some 5) (.move (.const (Value.slice none 0 0))) none]) (.keep [1, 5] c11_12))
theorem u11_13 : type_of% (@swc _ _ c11_13.eq_1) := @swc _ _ c11_13.eq_1
def c11_14 : SC := (.seq (.seq (.reg [SO.mk (some 7) (.load 30 (.tmp 1)) none, SO.mk (some 8) (.call 20 [(.tmp 7)]) none, SO.mk (some 4) (.move (.tmp 8)) none]) (.keep [4, 1] c11_3)) (.keep [1] c11_13))
theorem u11_14 : type_of% (@swc _ _ c11_14.eq_1) := @swc _ _ c11_14.eq_1
def c11 : SC := (.seq (.reg [SO.mk (some 1) (.box 30 (.tmp 0)) none, SO.mk (some 2) (.move (.const (Value.slice none 0 0))) none, SO.mk (some 3) (.move (.const (Value.int .i64 0))) none]) (.keep [1] c11_14))
theorem c11_eq : annC Try.f11 = some c11 := by kernel_rfl
theorem r11 : Try.f11.results.toList = [.tmp 2, .tmp 3] := by kernel_rfl
theorem e11 : enters Try.prog 11 = true := by kernel_rfl
end Go.Proofs.Yteaojhieghakfaa
namespace Go.Proofs.Yteaojhieghakfaa
open Go.RowKit
set_option maxHeartbeats 4000000
set_option maxRecDepth 20000
attribute [local irreducible] SW SWL SWLn SWD SEcall SEcallv SDv SE SO1 SOg ACalls ACallv Wk EndV
set_option linter.unusedSimpArgs false
set_option linter.unusedVariables false
def onTape (v : VerD) : Bool := v.tier == 2 || v.tier == 3
def onV (v : VerD) (x : Int) : Bool := onTape v && v.vol == x
def liveK (l : List VerD) (x : Int) : Nat → Int
  | 0 => 0
  | k + 1 => bif onV l[k]! x then IntKind.i64.wrap (liveK l x k + IntKind.i64.wrap (6 + l[k]!.size)) else liveK l x k
def liveF (l : List VerD) (x : Int) : Int := liveK l x l.length
theorem liveK_yes {l : List VerD} {x : Int} {k : Nat} (h : onV l[k]! x = true) : liveK l x (k + 1) = IntKind.i64.wrap (liveK l x k + IntKind.i64.wrap (6 + l[k]!.size)) := by
  show cond _ _ _ = _; rw [h]; rfl
theorem liveK_no {l : List VerD} {x : Int} {k : Nat} (h : onV l[k]! x = false) : liveK l x (k + 1) = liveK l x k := by
  show cond _ _ _ = _; rw [h]; rfl
theorem liveK_0 (l : List VerD) (x : Int) : liveK l x 0 = 0 := rfl
theorem liveK_end {l : List VerD} {x : Int} {k : Nat} (hk : k ≤ l.length) (h : decide ((k : Int) < (l.length : Int)) = false) : liveK l x k = liveF l x := by
  have : k = l.length := by have := geS h; omega
  rw [this]; rfl
theorem live_p (s : SttD) (x : Int) : Pure Try.prog 28 [s.av, I x] (I (liveF s.vers x)) := by
  refine pure_of follows Try.func28 c28_eq r28 (Nat.le_of_ble_eq_true rfl) fun B σ hcl hsz => ?_
  obtain ⟨z1, z2, z3, z4, z5⟩ := st_sz5 (hsz s.av (by simp))
  clear hsz
  repeat' (first | (simp -implicitDefEqProofs only [*, contN, contC, Nat.reduceBEq, Bool.or_false, Bool.or_true, Bool.false_or, Bool.true_or, Bool.not_true, Bool.not_false, w_skip, w_ret, w_exit, w_reg, w_dreg, w_seq, SK_n, SK_r, SK_x, w_keep, w_block, w_cond, w_nil, w_cons, w_consg, w_nnil, w_ncons, w_dnil, w_dcons, w_dconsg, HK_app, HD_app, HQ_n, HQ_r, HQ_x, HQ_bn, HQ_br, HQ_bx, HQ_en, HQ_er, HQ_ex, CondB_true, CondB_false, SO1, w_sdv, SDe_alloc, SDe_box, SDe_bslice, SDe_app, true_imp_iff, false_imp_iff, and_false, false_and, not_false_eq_true, not_true_eq_false, addN, mkNames, killT, killD, killO, List.foldl_nil, List.foldl_cons, List.append_nil, List.nil_append, List.cons_append, GuardS_true, GuardS_false, GuardD_true, GuardD_false, DK_true, DK_false, lt_self_add, le_self_add, decide_true, decide_false, Bool.false_eq_true, Bool.true_eq_false, Nat.add_left_cancel_iff, SE, SEalloc, SEbox, SEstore, w_bs, SEbl, SEfz, SEbs0, fzName, osOf, AV.fz1, w_app, w_mk, aev, opd, Fr.get, putO, Fr.norm, List.map_cons, List.map_nil, with1, with2, onInt, AV.lit, entry, ↓reduceIte, Nat.reduceEqDiff, Nat.reduceAdd, reduceCtorEq, true_and, and_true, Option.map_some, Option.map_none, Option.bind_some, Option.bind_none, cond_true, cond_false, binV, unV, fieldV, loadV, sto, cellsAV, newF, newL, Fr.map, Loc.kill, Loc.set, AO.kill, AV.kill, AV.mapN, AV.mapNL, List.filter_nil, List.filter_cons, allP, EndV, retV, resV, resL, frz, dropL, AV.pick, nilV, tupV, imp_self, ne_eq, Int.cast_ofNat_Int, Int.reduceLT, Int.reduceToNat, List.getD_cons_zero, List.getD_cons_succ, bsliceV, buildV, afill, repl, chunk, rvs, AV.rv, RV.nrm, List.getElem?_nil, List.append_assoc, Nat.reduceMul, Nat.reducePow, Nat.zero_lt_succ, Nat.zero_add, Nat.add_zero, List.length_cons, List.length_nil, Nat.reduceLeDiff, Nat.le_refl, List.take_succ_cons, List.take_zero, List.drop_succ_cons, List.drop_zero, indexV, lenV, rowOf_mapD, rowOf_mapI, rowOf_mapA, List.length_map, Int.toNat_natCast, List.getElem?_cons_zero, List.getElem?_cons_succ, and_self, implies_true, if_true, if_false, HQ_zn, HQ_zr, HQ_wn, HQ_wr, AV.nz, AV.nzL, RV.nrm, SEbin, SEnil, nilK, srcV, dstV, appName, List.length_append, Nat.mul_one, take_map_len, take_map_app, List.getElem?_cons_zero, List.map_append, SEmkmap, SEmset, mgetV, kvOf, getM, setM, c28, r28, v28_1, v28_2, v28_3, v28_4, u28_5, u28_6, u28_7, u28_8, u28_9, u28_10, u28_11, u28_12, u28_13, u28_14, u28_15, ty30, ty25, ty3, ty57, SttD.av, SttD.cells, ints, VerD.row, liveK_0]) | (with_reducible refine And.intro ?_ ?_) | (refine loop_nat (s.vers.length) (fun _ => True) (fun k => [(9, .d (.ro (s.vers.map VerD.row))), (1, I x), (10, I s.vers.length), (11, I k), (5, I (liveK s.vers x k))]) (fun k => []) ?_ (Wk.keep hcl ?_ ?_ ?_) fun k hk hF => ?_; rotate_left 1; (focus (simp [Fr.get, newF, Fr.map, AV.kill, AV.mapN, SttD.av, SttD.cells, ints, VerD.row, liveK_0] <;> fail)); (focus (simp [sto, newL, Loc.kill, Loc.set, AO.kill, AV.kill, AV.mapN, SttD.av, SttD.cells, ints, VerD.row, liveK_0] <;> fail)); (focus (simp [newL, Loc.kill, Loc.set, SttD.av, SttD.cells, ints, VerD.row, liveK_0] <;> fail)); (try have hw : IntKind.i64.wrap ((k : Int) + 1) = (k : Int) + 1 := IntWalk.i64_in _ (by omega))) | (refine EndX.plain ?_) | (refine nil_split (fun hn => ?_) (fun hn => ?_)) | (refine gcall_no not_false ?_) | (refine gdcall_no not_false ?_) | (refine GuardS_of _ _ _ _ _ _ (fun hg => ?_) (fun hg => ?_)) | (refine GuardD_of _ _ _ _ (fun hg => ?_) (fun hg => ?_)) | (refine CondB_of _ _ _ _ _ _ _ ?_ (fun hg => ?_) (fun hg => ?_)))
  all_goals (try (first | ((first | unfold noN | unfold Fr.below | unfold Loc.below); simp [Fr.allN, AV.allN, AV.allNL, AO.allN]; done) | rfl | trivial | assumption | (intro row hrow; simp only [List.mem_map] at hrow; obtain ⟨x, _, rfl⟩ := hrow; rfl) | (refine Wk.keep hcl ?_ ?_ ?_; (focus (simp [Fr.get, SttD.av, SttD.cells, ints, VerD.row, liveK_0] <;> fail)); (focus (simp [sto, SttD.av, SttD.cells, ints, VerD.row, liveK_0] <;> fail)); (focus (simp <;> fail))) | (simp [allP, opd, Fr.get, Fr.below, Fr.allN, AV.allN, AV.allNL, Loc.below, AO.allN, noN, killO, killT, killD, mkNames, AO.kill, AV.kill, AV.mapN, AV.mapNL]; done) | (with_reducible exact ltD (by assumption)) | omega | (simp only [decide_eq_true_eq, decide_eq_false_iff_not] at *; omega)))
  all_goals first
    | (rw [liveK_end (by assumption) (by assumption)]; done)
    | (first
       | (rw [liveK_yes (k := k)]
          · refine Wk.keep hcl ?_ ?_ ?_
            · simp [Fr.get]
            · simp
            · simp
          · simp only [onV, onTape, *, Bool.false_or, Bool.true_or, Bool.or_true, Bool.or_false, Bool.and_true, Bool.true_and, Bool.false_and, Bool.and_false, Bool.not_true, Bool.not_false, cond_true, cond_false]; done)
       | (rw [liveK_no (k := k)]
          · refine Wk.keep hcl ?_ ?_ ?_
            · simp [Fr.get]
            · simp
            · simp
          · simp only [onV, onTape, *, Bool.false_or, Bool.true_or, Bool.or_true, Bool.or_false, Bool.and_true, Bool.true_and, Bool.false_and, Bool.and_false, Bool.not_true, Bool.not_false, cond_true, cond_false]; done))
def liveL (l : List VerD) (k : Nat) : List Int := (List.range k).map fun (v : Nat) => liveF l (v : Int)
theorem liveL_next (l : List VerD) (k : Nat) : liveL l (k + 1) = liveL l k ++ [liveF l (k : Int)] := by
  unfold liveL; rw [List.range_succ, List.map_append]; rfl
theorem liveL_len (l : List VerD) (k : Nat) : (liveL l k).length = k := by simp [liveL]
theorem liveL_0 (l : List VerD) : liveL l 0 = [] := rfl
def liveV (s : SttD) : AV := bif mayF s then .tup [.d (ints (liveL s.vers 8)), I 0] else .tup [.d (.ro []), I 9]
theorem lives_p (s : SttD) (hw : s.wf) : Pure Try.prog 11 [s.av] (liveV s) := by
  refine pureZ_of follows Try.func11 c11_eq r11 (Nat.le_of_ble_eq_true rfl) fun B σ hcl hsz => ?_
  clear hsz
  have hc := check9_p s hw
  unfold liveV
  generalize mayF s = b at hc ⊢
  cases b
  · simp only [cond_false] at hc ⊢
    repeat' (first | (simp -implicitDefEqProofs only [*, contN, contC, Nat.reduceBEq, Bool.or_false, Bool.or_true, Bool.false_or, Bool.true_or, Bool.not_true, Bool.not_false, w_skip, w_ret, w_exit, w_reg, w_dreg, w_seq, SK_n, SK_r, SK_x, w_keep, w_block, w_cond, w_nil, w_cons, w_consg, w_nnil, w_ncons, w_dnil, w_dcons, w_dconsg, HK_app, HD_app, HQ_n, HQ_r, HQ_x, HQ_bn, HQ_br, HQ_bx, HQ_en, HQ_er, HQ_ex, CondB_true, CondB_false, SO1, w_sdv, SDe_alloc, SDe_box, SDe_bslice, SDe_app, true_imp_iff, false_imp_iff, and_false, false_and, not_false_eq_true, not_true_eq_false, addN, mkNames, killT, killD, killO, List.foldl_nil, List.foldl_cons, List.append_nil, List.nil_append, List.cons_append, GuardS_true, GuardS_false, GuardD_true, GuardD_false, DK_true, DK_false, lt_self_add, le_self_add, decide_true, decide_false, Bool.false_eq_true, Bool.true_eq_false, Nat.add_left_cancel_iff, SE, SEalloc, SEbox, SEstore, w_bs, SEbl, SEfz, SEbs0, fzName, osOf, AV.fz1, w_app, w_mk, aev, opd, Fr.get, putO, Fr.norm, List.map_cons, List.map_nil, with1, with2, onInt, AV.lit, entry, ↓reduceIte, Nat.reduceEqDiff, Nat.reduceAdd, reduceCtorEq, true_and, and_true, Option.map_some, Option.map_none, Option.bind_some, Option.bind_none, cond_true, cond_false, binV, unV, fieldV, loadV, sto, cellsAV, newF, newL, Fr.map, Loc.kill, Loc.set, AO.kill, AV.kill, AV.mapN, AV.mapNL, List.filter_nil, List.filter_cons, allP, EndV, retV, resV, resL, frz, dropL, AV.pick, nilV, tupV, imp_self, ne_eq, Int.cast_ofNat_Int, Int.reduceLT, Int.reduceToNat, List.getD_cons_zero, List.getD_cons_succ, bsliceV, buildV, afill, repl, chunk, rvs, AV.rv, RV.nrm, List.getElem?_nil, List.append_assoc, Nat.reduceMul, Nat.reducePow, Nat.zero_lt_succ, Nat.zero_add, Nat.add_zero, List.length_cons, List.length_nil, Nat.reduceLeDiff, Nat.le_refl, List.take_succ_cons, List.take_zero, List.drop_succ_cons, List.drop_zero, indexV, lenV, rowOf_mapD, rowOf_mapI, rowOf_mapA, List.length_map, Int.toNat_natCast, List.getElem?_cons_zero, List.getElem?_cons_succ, and_self, implies_true, if_true, if_false, HQ_zn, HQ_zr, HQ_wn, HQ_wr, AV.nz, AV.nzL, RV.nrm, SEbin, SEnil, nilK, srcV, dstV, appName, List.length_append, Nat.mul_one, take_map_len, take_map_app, List.getElem?_cons_zero, List.map_append, SEmkmap, SEmset, mgetV, kvOf, getM, setM, c11, r11, u11_1, u11_2, u11_3, v11_4, u11_5, u11_6, u11_7, u11_8, u11_9, u11_10, u11_11, u11_12, u11_13, u11_14, ty30, ty31, ty3, ty28, SttD.av, SttD.cells, ints]) | (with_reducible refine And.intro ?_ ?_) | (refine call_ro e20 ( hc) rfl ?_ ?_ ?_ ?_) | (refine gcall_ro e20 ( hc) rfl ?_ ?_ ?_ ?_) | (refine dcall_ro e20 ( hc) rfl ?_ ?_ ?_ ?_) | (refine gdcall_ro rfl e20 ( hc) rfl ?_ ?_ ?_ ?_) | (refine EndX.plain ?_) | (refine nil_split (fun hn => ?_) (fun hn => ?_)) | (refine gcall_no not_false ?_) | (refine gdcall_no not_false ?_) | (refine GuardS_of _ _ _ _ _ _ (fun hg => ?_) (fun hg => ?_)) | (refine GuardD_of _ _ _ _ (fun hg => ?_) (fun hg => ?_)) | (refine CondB_of _ _ _ _ _ _ _ ?_ (fun hg => ?_) (fun hg => ?_)))
    all_goals (try (first | ((first | unfold noN | unfold Fr.below | unfold Loc.below); simp [Fr.allN, AV.allN, AV.allNL, AO.allN]; done) | rfl | trivial | assumption | (intro row hrow; simp only [List.mem_map] at hrow; obtain ⟨x, _, rfl⟩ := hrow; rfl) | (refine Wk.keep hcl ?_ ?_ ?_; (focus (simp [Fr.get, SttD.av, SttD.cells, ints] <;> fail)); (focus (simp [sto, SttD.av, SttD.cells, ints] <;> fail)); (focus (simp <;> fail))) | (simp [allP, opd, Fr.get, Fr.below, Fr.allN, AV.allN, AV.allNL, Loc.below, AO.allN, noN, killO, killT, killD, mkNames, AO.kill, AV.kill, AV.mapN, AV.mapNL]; done) | (with_reducible exact ltD (by assumption)) | omega | (simp only [decide_eq_true_eq, decide_eq_false_iff_not] at *; omega)))
  · simp only [cond_true] at hc ⊢
    repeat' (first | (simp -implicitDefEqProofs only [*, contN, contC, Nat.reduceBEq, Bool.or_false, Bool.or_true, Bool.false_or, Bool.true_or, Bool.not_true, Bool.not_false, w_skip, w_ret, w_exit, w_reg, w_dreg, w_seq, SK_n, SK_r, SK_x, w_keep, w_block, w_cond, w_nil, w_cons, w_consg, w_nnil, w_ncons, w_dnil, w_dcons, w_dconsg, HK_app, HD_app, HQ_n, HQ_r, HQ_x, HQ_bn, HQ_br, HQ_bx, HQ_en, HQ_er, HQ_ex, CondB_true, CondB_false, SO1, w_sdv, SDe_alloc, SDe_box, SDe_bslice, SDe_app, true_imp_iff, false_imp_iff, and_false, false_and, not_false_eq_true, not_true_eq_false, addN, mkNames, killT, killD, killO, List.foldl_nil, List.foldl_cons, List.append_nil, List.nil_append, List.cons_append, GuardS_true, GuardS_false, GuardD_true, GuardD_false, DK_true, DK_false, lt_self_add, le_self_add, decide_true, decide_false, Bool.false_eq_true, Bool.true_eq_false, Nat.add_left_cancel_iff, SE, SEalloc, SEbox, SEstore, w_bs, SEbl, SEfz, SEbs0, fzName, osOf, AV.fz1, w_app, w_mk, aev, opd, Fr.get, putO, Fr.norm, List.map_cons, List.map_nil, with1, with2, onInt, AV.lit, entry, ↓reduceIte, Nat.reduceEqDiff, Nat.reduceAdd, reduceCtorEq, true_and, and_true, Option.map_some, Option.map_none, Option.bind_some, Option.bind_none, cond_true, cond_false, binV, unV, fieldV, loadV, sto, cellsAV, newF, newL, Fr.map, Loc.kill, Loc.set, AO.kill, AV.kill, AV.mapN, AV.mapNL, List.filter_nil, List.filter_cons, allP, EndV, retV, resV, resL, frz, dropL, AV.pick, nilV, tupV, imp_self, ne_eq, Int.cast_ofNat_Int, Int.reduceLT, Int.reduceToNat, List.getD_cons_zero, List.getD_cons_succ, bsliceV, buildV, afill, repl, chunk, rvs, AV.rv, RV.nrm, List.getElem?_nil, List.append_assoc, Nat.reduceMul, Nat.reducePow, Nat.zero_lt_succ, Nat.zero_add, Nat.add_zero, List.length_cons, List.length_nil, Nat.reduceLeDiff, Nat.le_refl, List.take_succ_cons, List.take_zero, List.drop_succ_cons, List.drop_zero, indexV, lenV, rowOf_mapD, rowOf_mapI, rowOf_mapA, List.length_map, Int.toNat_natCast, List.getElem?_cons_zero, List.getElem?_cons_succ, and_self, implies_true, if_true, if_false, HQ_zn, HQ_zr, HQ_wn, HQ_wr, AV.nz, AV.nzL, RV.nrm, SEbin, SEnil, nilK, srcV, dstV, appName, List.length_append, Nat.mul_one, take_map_len, take_map_app, List.getElem?_cons_zero, List.map_append, SEmkmap, SEmset, mgetV, kvOf, getM, setM, c11, r11, u11_1, u11_2, u11_3, v11_4, u11_5, u11_6, u11_7, u11_8, u11_9, u11_10, u11_11, u11_12, u11_13, u11_14, ty30, ty31, ty3, ty28, SttD.av, SttD.cells, ints, int_, liveL_0]) | (with_reducible refine And.intro ?_ ?_) | (refine call_ro e20 ( hc) rfl ?_ ?_ ?_ ?_) | (refine gcall_ro e20 ( hc) rfl ?_ ?_ ?_ ?_) | (refine dcall_ro e20 ( hc) rfl ?_ ?_ ?_ ?_) | (refine gdcall_ro rfl e20 ( hc) rfl ?_ ?_ ?_ ?_) | (refine call_ro e28 ( live_p s k) rfl ?_ ?_ ?_ ?_) | (refine gcall_ro e28 ( live_p s k) rfl ?_ ?_ ?_ ?_) | (refine dcall_ro e28 ( live_p s k) rfl ?_ ?_ ?_ ?_) | (refine gdcall_ro rfl e28 ( live_p s k) rfl ?_ ?_ ?_ ?_) | (refine loop_nat (8) (fun _ => True) (fun k => [(5, .os (B + 20) (liveL s.vers k).length), (12, I k), (1, .lp (B + 1) 0)]) (fun k => [(B + 1, .box s.cells), (B + 20, .arr 1 3 ((liveL s.vers k).map int_))]) ?_ (Wk.trans (Wk.nameF (s := 5) (n := B + 20) (k := 1) (E := 3) rfl (by omega) (.inl (by omega)) (fun m => AO.kill_below (q := fun m => decide (m < B)) (by simp) _ (hcl m).1)) (Wk.keep hcl ?_ ?_ ?_)) fun k hk hF => ?_; rotate_left 1; (focus (simp [Fr.get, newF, Fr.map, AV.kill, AV.mapN, SttD.av, SttD.cells, ints, int_, liveL_0] <;> fail)); (focus (simp [sto, newL, Loc.kill, Loc.set, AO.kill, AV.kill, AV.mapN, SttD.av, SttD.cells, ints, int_, liveL_0] <;> fail)); (focus (simp [newL, Loc.kill, Loc.set, SttD.av, SttD.cells, ints, int_, liveL_0] <;> fail)); (try have hw : IntKind.i64.wrap ((k : Int) + 1) = (k : Int) + 1 := IntWalk.i64_in _ (by omega))) | (refine EndX.plain ?_) | (refine nil_split (fun hn => ?_) (fun hn => ?_)) | (refine gcall_no not_false ?_) | (refine gdcall_no not_false ?_) | (refine GuardS_of _ _ _ _ _ _ (fun hg => ?_) (fun hg => ?_)) | (refine GuardD_of _ _ _ _ (fun hg => ?_) (fun hg => ?_)) | (refine CondB_of _ _ _ _ _ _ _ ?_ (fun hg => ?_) (fun hg => ?_)))
    all_goals (try (first | ((first | unfold noN | unfold Fr.below | unfold Loc.below); simp [Fr.allN, AV.allN, AV.allNL, AO.allN]; done) | rfl | trivial | assumption | (intro row hrow; simp only [List.mem_map] at hrow; obtain ⟨x, _, rfl⟩ := hrow; rfl) | (refine Wk.keep hcl ?_ ?_ ?_; (focus (simp [Fr.get, SttD.av, SttD.cells, ints, int_, liveL_0] <;> fail)); (focus (simp [sto, SttD.av, SttD.cells, ints, int_, liveL_0] <;> fail)); (focus (simp <;> fail))) | (simp [allP, opd, Fr.get, Fr.below, Fr.allN, AV.allN, AV.allNL, Loc.below, AO.allN, noN, killO, killT, killD, mkNames, AO.kill, AV.kill, AV.mapN, AV.mapNL]; done) | (with_reducible exact ltD (by assumption)) | omega | (simp only [decide_eq_true_eq, decide_eq_false_iff_not] at *; omega)))
    all_goals first
      | (have hl := liveL_len s.vers k
         omega)
      | (rw [liveL_next]
         refine Wk.keep hcl ?_ ?_ ?_
         · simp [Fr.get]
         · simp [sto, SttD.cells, ints, int_]
         · simp)
      | (have e : k = 8 := by
           have := of_decide_eq_false (by assumption : decide ((k : Int) < 8) = false)
           omega
         subst e; rfl)
end Go.Proofs.Yteaojhieghakfaa
