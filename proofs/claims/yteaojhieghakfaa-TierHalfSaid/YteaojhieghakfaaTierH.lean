/- Tiers: tier.Half and the document's. -/
import Derived.Test.YteaojhieghakfaaTierP
import Derived.Test.YteaojhieghakfaaTierW
import Derived.Test.YteaojhieghakfaaSameI
import Derived.Test.YteaojhieghakfaaTypes
namespace Go.Proofs.Yteaojhieghakfaa
open Go.RowKit
set_option maxRecDepth 100000
def o36_1 : List SO := ((SO.mk (some 12) (.pick (.tmp 7) (.tmp 11) (.const (Value.bool false))) none) :: (SO.mk (some 3) (.move (.tmp 12)) none) :: [])
theorem v36_1 : type_of% (@swl _ _ o36_1.eq_1) := @swl _ _ o36_1.eq_1
def o36_2 : List SO := ((SO.mk (some 8) (.faddr 57 (.tmp 2) 9) (some (7 , true))) :: (SO.mk (some 9) (.load 3 (.tmp 8)) (some (7 , true))) :: (SO.mk (some 10) (.load 3 (.tmp 1)) (some (7 , true))) :: (SO.mk (some 11) (.bin .eql 3 (.tmp 9) (.tmp 10)) (some (7 , true))) :: o36_1)
theorem v36_2 : type_of% (@swl _ _ o36_2.eq_1) := @swl _ _ o36_2.eq_1
def c36_3 : SC := (.seq (.reg ((SO.mk (some 4) (.faddr 57 (.tmp 2) 7) none) :: (SO.mk (some 5) (.load 3 (.tmp 4)) none) :: (SO.mk (some 6) (.bin .geq 3 (.tmp 5) (.const (Value.int .i64 2))) none) :: (SO.mk (some 7) (.move (.tmp 6)) none) :: o36_2)) (.keep [3] .ret))
theorem u36_3 : type_of% (@swc _ _ c36_3.eq_1) := @swc _ _ c36_3.eq_1
def c36 : SC := (.seq (.reg [SO.mk (some 2) (.box 57 (.tmp 0)) none, SO.mk (some 3) (.move (.const (Value.bool false))) none]) (.keep [2, 1] c36_3))
theorem c36_eq : annC Try.f36 = some c36 := by kernel_rfl
theorem r36 : Try.f36.results.toList = [.tmp 3] := by kernel_rfl
theorem e36 : enters Try.prog 36 = true := by kernel_rfl
def c18_1 : SC := (.seq (.reg [SO.mk (some 14) (.move (.tmp 7)) none, SO.mk (some 4) (.move (.const (Value.int .i64 0))) none, SO.mk (some 5) (.move (.const (Value.slice none 0 0))) none, SO.mk (some 6) (.move (.tmp 14)) none]) (.keep [4, 5, 6] .ret))
theorem u18_1 : type_of% (@swc _ _ c18_1.eq_1) := @swc _ _ c18_1.eq_1
def c18_2 : SC := (.cond (.tmp 13) c18_1 .skip)
theorem u18_2 : type_of% (@swc _ _ c18_2.eq_1) := @swc _ _ c18_2.eq_1
def c18_3 : SC := (.seq (.reg [SO.mk (some 12) (.move (.tmp 7)) none, SO.mk (some 13) (.bin .neq 31 (.tmp 12) (.const (Value.int .i64 0))) none]) (.keep [13, 7, 1, 2] c18_2))
theorem u18_3 : type_of% (@swc _ _ c18_3.eq_1) := @swc _ _ c18_3.eq_1
def o18_4 : List SO := ((SO.mk (some 19) (.move (.tmp 1)) (some (18 , false))) :: (SO.mk (some 20) (.call 21 [(.tmp 19), (.func 34)]) (some (18 , false))) :: (SO.mk (some 21) (.pick (.tmp 18) (.const (Value.bool true)) (.tmp 20)) none) :: [])
theorem v18_4 : type_of% (@swl _ _ o18_4.eq_1) := @swl _ _ o18_4.eq_1
def c18_5 : SC := (.seq (.reg [SO.mk (some 4) (.move (.const (Value.int .i64 0))) none, SO.mk (some 5) (.move (.const (Value.slice none 0 0))) none, SO.mk (some 6) (.move (.const (Value.int .i64 2))) none]) (.keep [4, 5, 6] .ret))
theorem u18_5 : type_of% (@swc _ _ c18_5.eq_1) := @swc _ _ c18_5.eq_1
def c18_6 : SC := (.cond (.tmp 21) c18_5 .skip)
theorem u18_6 : type_of% (@swc _ _ c18_6.eq_1) := @swc _ _ c18_6.eq_1
def o18_7 : List SO := ((SO.mk none (.store 3 (.tmp 8) (.tmp 26)) none) :: (SO.mk (some 9) (.move (.tmp 28)) none) :: [])
theorem v18_7 : type_of% (@swl _ _ o18_7.eq_1) := @swl _ _ o18_7.eq_1
def o18_8 : List SO := ((SO.mk (some 45) (.pick (.tmp 38) (.tmp 44) (.const (Value.bool false))) none) :: [])
theorem v18_8 : type_of% (@swl _ _ o18_8.eq_1) := @swl _ _ o18_8.eq_1
def o18_9 : List SO := ((SO.mk (some 41) (.call 28 [(.tmp 39), (.tmp 40)]) (some (38 , true))) :: (SO.mk (some 42) (.bin .mul 3 (.const (Value.int .i64 2)) (.tmp 41)) (some (38 , true))) :: (SO.mk (some 43) (.move (.tmp 9)) (some (38 , true))) :: (SO.mk (some 44) (.bin .leq 3 (.tmp 42) (.tmp 43)) (some (38 , true))) :: o18_8)
theorem v18_9 : type_of% (@swl _ _ o18_9.eq_1) := @swl _ _ o18_9.eq_1
def o18_10 : List SO := ((SO.mk (some 37) (.pick (.tmp 31) (.tmp 36) (.const (Value.bool false))) none) :: (SO.mk (some 38) (.move (.tmp 37)) none) :: (SO.mk (some 39) (.load 30 (.tmp 2)) (some (38 , true))) :: (SO.mk (some 40) (.load 3 (.tmp 8)) (some (38 , true))) :: o18_9)
theorem v18_10 : type_of% (@swl _ _ o18_10.eq_1) := @swl _ _ o18_10.eq_1
def o18_11 : List SO := ((SO.mk (some 33) (.load 28 (.tmp 32)) (some (31 , true))) :: (SO.mk (some 34) (.load 3 (.tmp 8)) (some (31 , true))) :: (SO.mk (some 35) (.call 23 [(.tmp 33), (.tmp 34)]) (some (31 , true))) :: (SO.mk (some 36) (.un .not (.tmp 35)) (some (31 , true))) :: o18_10)
theorem v18_11 : type_of% (@swl _ _ o18_11.eq_1) := @swl _ _ o18_11.eq_1
def o18_12 : List SO := ((SO.mk (some 4) (.move (.tmp 46)) none) :: (SO.mk (some 5) (.move (.tmp 49)) none) :: (SO.mk (some 6) (.move (.const (Value.int .i64 0))) none) :: [])
theorem v18_12 : type_of% (@swd _ _ o18_12.eq_1) := @swd _ _ o18_12.eq_1
def o18_13 : List SO := ((SO.mk (some 46) (.load 3 (.tmp 8)) none) :: (SO.mk (some 47) (.load 30 (.tmp 2)) none) :: (SO.mk (some 48) (.mkfn (.func 36) [] [(.tmp 8)]) none) :: (SO.mk (some 49) (.call 35 [(.tmp 47), (.tmp 48)]) none) :: o18_12)
theorem v18_13 : type_of% (@swd _ _ o18_13.eq_1) := @swd _ _ o18_13.eq_1
theorem m18_13 (B : Nat) : mkNames B o18_13 = [] := (rfl)
def c18_14 : SC := (.seq (.dreg false o18_13 []) (.keep [4, 5, 6] .ret))
theorem u18_14 : type_of% (@swc _ _ c18_14.eq_1) := @swc _ _ c18_14.eq_1
def c18_15 : SC := (.cond (.tmp 45) c18_14 .skip)
theorem u18_15 : type_of% (@swc _ _ c18_15.eq_1) := @swc _ _ c18_15.eq_1
def c18_16 : SC := (.seq (.reg ((SO.mk (some 29) (.move (.tmp 9)) none) :: (SO.mk (some 30) (.bin .gtr 3 (.tmp 29) (.const (Value.int .i64 0))) none) :: (SO.mk (some 31) (.move (.tmp 30)) none) :: (SO.mk (some 32) (.faddr 30 (.tmp 2) 6) (some (31 , true))) :: o18_11)) (.keep [45, 8, 24, 23, 2, 22] c18_15))
theorem u18_16 : type_of% (@swc _ _ c18_16.eq_1) := @swc _ _ c18_16.eq_1
def c18_17 : SC := (.reg [SO.mk (some 50) (.bin .add 3 (.tmp 24) (.const (Value.int .i64 1))) none, SO.mk (some 24) (.move (.tmp 50)) none])
theorem u18_17 : type_of% (@swc _ _ c18_17.eq_1) := @swc _ _ c18_17.eq_1
def c18_18 : SC := (.seq (.block 1 (.seq (.reg ((SO.mk (some 26) (.move (.tmp 24)) none) :: (SO.mk (some 27) (.iaddr 28 (.tmp 22) (.tmp 24)) none) :: (SO.mk (some 28) (.load 3 (.tmp 27)) none) :: (SO.mk (some 8) (.alloc 3) none) :: o18_7)) (.keep [9, 8, 24, 23, 2, 22] c18_16))) (.keep [24, 23, 2, 22] c18_17))
theorem u18_18 : type_of% (@swc _ _ c18_18.eq_1) := @swc _ _ c18_18.eq_1
def c18_19 : SC := (.seq (.cond (.tmp 25) .skip (.exit 0)) (.keep [24, 23, 2, 22] c18_18))
theorem u18_19 : type_of% (@swc _ _ c18_19.eq_1) := @swc _ _ c18_19.eq_1
def c18_20 : SC := (.seq (.reg [SO.mk (some 25) (.bin .lss 3 (.tmp 24) (.tmp 23)) none]) (.keep [25, 22, 2, 23, 24] c18_19))
theorem u18_20 : type_of% (@swc _ _ c18_20.eq_1) := @swc _ _ c18_20.eq_1
def c18_21 : SC := (.block 0 (.loop (.keep [22, 2, 23, 24] c18_20)))
theorem u18_21 : type_of% (@swc _ _ c18_21.eq_1) := @swc _ _ c18_21.eq_1
def c18_22 : SC := (.seq (.reg [SO.mk (some 4) (.move (.const (Value.int .i64 0))) none, SO.mk (some 5) (.move (.const (Value.slice none 0 0))) none, SO.mk (some 6) (.move (.const (Value.int .i64 14))) none]) (.keep [4, 5, 6] .ret))
theorem u18_22 : type_of% (@swc _ _ c18_22.eq_1) := @swc _ _ c18_22.eq_1
def c18_23 : SC := (.seq (.seq (.reg [SO.mk (some 22) (.move (.tmp 1)) none, SO.mk (some 23) (.len 28 (.tmp 22)) none, SO.mk (some 24) (.move (.const (Value.int .i64 0))) none]) (.keep [22, 2, 23, 24] c18_21)) (.keep [] c18_22))
theorem u18_23 : type_of% (@swc _ _ c18_23.eq_1) := @swc _ _ c18_23.eq_1
def c18_24 : SC := (.seq (.seq (.reg ((SO.mk (some 15) (.move (.tmp 1)) none) :: (SO.mk (some 16) (.len 28 (.tmp 15)) none) :: (SO.mk (some 17) (.bin .gtr 3 (.tmp 16) (.const (Value.int .i64 8))) none) :: (SO.mk (some 18) (.move (.tmp 17)) none) :: o18_4)) (.keep [21, 1, 2] c18_6)) (.keep [1, 2] c18_23))
theorem u18_24 : type_of% (@swc _ _ c18_24.eq_1) := @swc _ _ c18_24.eq_1
def c18_25 : SC := (.seq (.seq (.reg [SO.mk (some 10) (.load 30 (.tmp 2)) none, SO.mk (some 11) (.call 20 [(.tmp 10)]) none, SO.mk (some 7) (.move (.tmp 11)) none]) (.keep [7, 1, 2] c18_3)) (.keep [1, 2] c18_24))
theorem u18_25 : type_of% (@swc _ _ c18_25.eq_1) := @swc _ _ c18_25.eq_1
def c18 : SC := (.seq (.reg [SO.mk (some 2) (.box 30 (.tmp 0)) none, SO.mk (some 4) (.move (.const (Value.int .i64 0))) none, SO.mk (some 5) (.move (.const (Value.slice none 0 0))) none, SO.mk (some 6) (.move (.const (Value.int .i64 0))) none]) (.keep [1, 2] c18_25))
theorem c18_eq : annC Try.f18 = some c18 := by kernel_rfl
theorem r18 : Try.f18.results.toList = [.tmp 4, .tmp 5, .tmp 6] := by kernel_rfl
theorem e18 : enters Try.prog 18 = true := by kernel_rfl
end Go.Proofs.Yteaojhieghakfaa
namespace Go.Proofs.Yteaojhieghakfaa
open Go.RowKit
theorem dcall_roC {P : Program} {B : Nat} {a : Fr} {C : List Nat} {σ0 : Sto} {l0 : Loc} {d : Option Nat} {kk : AV → Option AO → Prop} {f : FuncId} {args : List Operand} {vs : List AV} {v : AV} {D : Sto → Prop} (he : enters P f = true) (hC : PureC D P f vs v) (hv : (args.map fun x => (opd a x).2) = vs) (hd : D σ0) (hp : allP (args.map fun x => (opd a x).1)) (hn : noN B C v) (hL : Loc.below (B + 100000) l0) (hk : kk v none) : SDe P B a C σ0 l0 d (.call f args) kk := by
  unfold PureC at hC
  unfold SDe
  exact ⟨v, he, by rw [hv]; exact hC _ _ hd, hp, hL, hn, hk⟩
set_option maxHeartbeats 4000000
set_option maxRecDepth 20000
attribute [local irreducible] SW SWL SWLn SWD SEcall SEcallv SDv SE SO1 SOg ACalls ACallv Wk EndV
set_option linter.unusedSimpArgs false
set_option linter.unusedVariables false
def halfOk (s : SttD) (l : List Int) (k : Nat) : Bool := decide (l[k]! > 0) && (!decide (idxD s.gone.length (pG s.gone (k : Int)) ≥ 0) && decide (IntKind.i64.wrap (2 * liveF s.vers (k : Int)) ≤ l[k]!))
def halfI (s : SttD) (l : List Int) : Int := idxD l.length (halfOk s l)
def halfV (s : SttD) (l : List Int) : AV := bif mayF s then (bif decide ((l.length : Int) > 8) || l.any outP then .tup [I 0, .d (.ro []), I 2] else bif decide (halfI s l < 0) then .tup [I 0, .d (.ro []), I 14] else .tup [I (halfI s l), .d (ints (idsF s.vers (fun v => onV v (halfI s l)))), I 0]) else .tup [I 0, .d (.ro []), I 9]
theorem may_tier {s : SttD} (h : mayF s = true) : ∀ i, i < s.vers.length → 0 ≤ s.vers[i]!.tier ∧ s.vers[i]!.tier ≤ 3 := fun i hi => by
  unfold mayF at h
  simp only [Bool.and_eq_true, none_iff, Bool.not_eq_true'] at h
  have hv := h.2.2.2.1 i hi
  unfold mVer at hv
  simp only [Bool.or_eq_false_iff, Bool.not_eq_false'] at hv
  have h1 := hv.1.1
  unfold vmF at h1
  generalize s.vers[i]! = v at h1 ⊢
  cases hb : vmBad s v <;> simp only [hb, cond_true, cond_false] at h1
  · cases hm : v.mark <;> simp only [hm, cond_true, cond_false] at h1
    · cases h2 : (!inR v.size 0 600 || !inR v.tier 1 3) <;> simp only [h2, cond_true, cond_false] at h1
      · have e1 : inR v.tier 1 3 = true := by cases h0 : inR v.tier 1 3 <;> simp [h0] at h2 ⊢
        have := inR_iff.1 e1; omega
      · cases h1
    · unfold markF at h1
      simp only [Bool.and_eq_true, beq_iff_eq] at h1
      omega
  · cases h1
theorem half2_p (v : VerD) (x : Int) (m : Nat) (ht : 0 ≤ v.tier ∧ v.tier ≤ 3) : PureC (fun σ => σ m = .box [I x]) Try.prog 36 [.agg (v.row.map .d), .lp m 0] (Bo (onV v x)) := by
  refine pure_ofC follows Try.func36 c36_eq r36 (Nat.le_of_ble_eq_true rfl) fun B σ hC hcl hsz => ?_
  clear hsz
  have hn : m < B := by
    rcases Nat.lt_or_ge m B with h | h
    · exact h
    · rw [(hcl m).2 h] at hC; cases hC
  have y1 : ∀ s, (m = B + s) = False := fun s => by simp; omega
  have y2 : ∀ s, (B + s = m) = False := fun s => by simp; omega
  have ho : onTape v = decide (v.tier ≥ 2) := by
    unfold onTape
    rw [Bool.eq_iff_iff, Bool.or_eq_true, beq_iff_eq, beq_iff_eq, decide_eq_true_eq]; omega
  repeat' (first | (simp -implicitDefEqProofs only [*, contN, contC, Nat.reduceBEq, Bool.or_false, Bool.or_true, Bool.false_or, Bool.true_or, Bool.not_true, Bool.not_false, w_skip, w_ret, w_exit, w_reg, w_dreg, w_seq, SK_n, SK_r, SK_x, w_keep, w_block, w_cond, w_nil, w_cons, w_consg, w_nnil, w_ncons, w_dnil, w_dcons, w_dconsg, HK_app, HD_app, HQ_n, HQ_r, HQ_x, HQ_bn, HQ_br, HQ_bx, HQ_en, HQ_er, HQ_ex, CondB_true, CondB_false, SO1, w_sdv, SDe_alloc, SDe_box, SDe_bslice, SDe_app, true_imp_iff, false_imp_iff, and_false, false_and, not_false_eq_true, not_true_eq_false, addN, mkNames, killT, killD, killO, List.foldl_nil, List.foldl_cons, List.append_nil, List.nil_append, List.cons_append, GuardS_true, GuardS_false, GuardD_true, GuardD_false, DK_true, DK_false, lt_self_add, le_self_add, decide_true, decide_false, Bool.false_eq_true, Bool.true_eq_false, Nat.add_left_cancel_iff, SE, SEalloc, SEbox, SEstore, w_bs, SEbl, SEfz, SEbs0, fzName, osOf, AV.fz1, w_app, w_mk, aev, opd, Fr.get, putO, Fr.norm, List.map_cons, List.map_nil, with1, with2, onInt, AV.lit, entry, ↓reduceIte, Nat.reduceEqDiff, Nat.reduceAdd, reduceCtorEq, true_and, and_true, Option.map_some, Option.map_none, Option.bind_some, Option.bind_none, cond_true, cond_false, binV, unV, fieldV, loadV, sto, cellsAV, newF, newL, Fr.map, Loc.kill, Loc.set, AO.kill, AV.kill, AV.mapN, AV.mapNL, List.filter_nil, List.filter_cons, allP, EndV, retV, resV, resL, frz, dropL, AV.pick, nilV, tupV, imp_self, ne_eq, Int.cast_ofNat_Int, Int.reduceLT, Int.reduceToNat, List.getD_cons_zero, List.getD_cons_succ, bsliceV, buildV, afill, repl, chunk, rvs, AV.rv, RV.nrm, List.getElem?_nil, List.append_assoc, Nat.reduceMul, Nat.reducePow, Nat.zero_lt_succ, Nat.zero_add, Nat.add_zero, List.length_cons, List.length_nil, Nat.reduceLeDiff, Nat.le_refl, List.take_succ_cons, List.take_zero, List.drop_succ_cons, List.drop_zero, indexV, lenV, rowOf_mapD, rowOf_mapI, rowOf_mapA, List.length_map, Int.toNat_natCast, List.getElem?_cons_zero, List.getElem?_cons_succ, and_self, implies_true, if_true, if_false, HQ_zn, HQ_zr, HQ_wn, HQ_wr, AV.nz, AV.nzL, RV.nrm, SEbin, SEnil, nilK, srcV, dstV, appName, List.length_append, Nat.mul_one, take_map_len, take_map_app, List.getElem?_cons_zero, List.map_append, SEmkmap, SEmset, mgetV, kvOf, getM, setM, c36, r36, v36_1, v36_2, u36_3, ty57, ty3, y1, y2, hC, VerD.row, ints]) | (with_reducible refine And.intro ?_ ?_) | (refine EndX.plain ?_) | (refine nil_split (fun hn => ?_) (fun hn => ?_)) | (refine gcall_no not_false ?_) | (refine gdcall_no not_false ?_) | (refine GuardS_of _ _ _ _ _ _ (fun hg => ?_) (fun hg => ?_)) | (refine GuardD_of _ _ _ _ (fun hg => ?_) (fun hg => ?_)) | (refine CondB_of _ _ _ _ _ _ _ ?_ (fun hg => ?_) (fun hg => ?_)))
  all_goals (try (first | ((first | unfold noN | unfold Fr.below | unfold Loc.below); simp [Fr.allN, AV.allN, AV.allNL, AO.allN]; done) | rfl | trivial | assumption | (intro row hrow; simp only [List.mem_map] at hrow; obtain ⟨x, _, rfl⟩ := hrow; rfl) | (refine Wk.keep hcl ?_ ?_ ?_; (focus (simp [Fr.get, y1, y2, hC, VerD.row, ints] <;> fail)); (focus (simp [sto, y1, y2, hC, VerD.row, ints] <;> fail)); (focus (simp <;> fail))) | (simp [allP, opd, Fr.get, Fr.below, Fr.allN, AV.allN, AV.allNL, Loc.below, AO.allN, noN, killO, killT, killD, mkNames, AO.kill, AV.kill, AV.mapN, AV.mapNL]; done) | (with_reducible exact ltD (by assumption)) | omega | (simp only [decide_eq_true_eq, decide_eq_false_iff_not] at *; omega)))
  all_goals first
    | (simp only [onV, ho, *, Bool.false_or, Bool.true_or, Bool.or_true, Bool.or_false, Bool.and_true, Bool.true_and, Bool.false_and, Bool.and_false, Bool.not_true, Bool.not_false, cond_true, cond_false]; done)
theorem half_p (s : SttD) (hw : s.wf) (l : List Int) : Pure Try.prog 18 [s.av, .d (ints l)] (halfV s l) := by
  refine pureZ_of follows Try.func18 c18_eq r18 (Nat.le_of_ble_eq_true rfl) fun B σ hcl hsz => ?_
  have hlen : l.length ≤ 2 ^ 47 := by simpa using (show Sized (ints l) from hsz (.d (ints l)) (by simp)).len
  clear hsz
  have hc := check9_p s hw
  have hti := may_tier (s := s)
  have hcont : ∀ k : Nat, Pure Try.prog 23 [.d (ints s.gone), I k] (Bo (decide (idxD s.gone.length (pG s.gone (k : Int)) ≥ 0))) := fun k => by
    have := contains_p s.gone (k : Int)
    rw [idx_pI] at this
    exact this
  have hany := containsF_p l 34 outP fun i _ => half1_p l[i]!
  unfold halfV
  generalize mayF s = b at hc hti ⊢
  cases b
  · simp only [cond_false] at hc ⊢
    clear hti
    repeat' (first | (simp -implicitDefEqProofs only [*, contN, contC, Nat.reduceBEq, Bool.or_false, Bool.or_true, Bool.false_or, Bool.true_or, Bool.not_true, Bool.not_false, w_skip, w_ret, w_exit, w_reg, w_dreg, w_seq, SK_n, SK_r, SK_x, w_keep, w_block, w_cond, w_nil, w_cons, w_consg, w_nnil, w_ncons, w_dnil, w_dcons, w_dconsg, HK_app, HD_app, HQ_n, HQ_r, HQ_x, HQ_bn, HQ_br, HQ_bx, HQ_en, HQ_er, HQ_ex, CondB_true, CondB_false, SO1, w_sdv, SDe_alloc, SDe_box, SDe_bslice, SDe_app, true_imp_iff, false_imp_iff, and_false, false_and, not_false_eq_true, not_true_eq_false, addN, mkNames, killT, killD, killO, List.foldl_nil, List.foldl_cons, List.append_nil, List.nil_append, List.cons_append, GuardS_true, GuardS_false, GuardD_true, GuardD_false, DK_true, DK_false, lt_self_add, le_self_add, decide_true, decide_false, Bool.false_eq_true, Bool.true_eq_false, Nat.add_left_cancel_iff, SE, SEalloc, SEbox, SEstore, w_bs, SEbl, SEfz, SEbs0, fzName, osOf, AV.fz1, w_app, w_mk, aev, opd, Fr.get, putO, Fr.norm, List.map_cons, List.map_nil, with1, with2, onInt, AV.lit, entry, ↓reduceIte, Nat.reduceEqDiff, Nat.reduceAdd, reduceCtorEq, true_and, and_true, Option.map_some, Option.map_none, Option.bind_some, Option.bind_none, cond_true, cond_false, binV, unV, fieldV, loadV, sto, cellsAV, newF, newL, Fr.map, Loc.kill, Loc.set, AO.kill, AV.kill, AV.mapN, AV.mapNL, List.filter_nil, List.filter_cons, allP, EndV, retV, resV, resL, frz, dropL, AV.pick, nilV, tupV, imp_self, ne_eq, Int.cast_ofNat_Int, Int.reduceLT, Int.reduceToNat, List.getD_cons_zero, List.getD_cons_succ, bsliceV, buildV, afill, repl, chunk, rvs, AV.rv, RV.nrm, List.getElem?_nil, List.append_assoc, Nat.reduceMul, Nat.reducePow, Nat.zero_lt_succ, Nat.zero_add, Nat.add_zero, List.length_cons, List.length_nil, Nat.reduceLeDiff, Nat.le_refl, List.take_succ_cons, List.take_zero, List.drop_succ_cons, List.drop_zero, indexV, lenV, rowOf_mapD, rowOf_mapI, rowOf_mapA, List.length_map, Int.toNat_natCast, List.getElem?_cons_zero, List.getElem?_cons_succ, and_self, implies_true, if_true, if_false, HQ_zn, HQ_zr, HQ_wn, HQ_wr, AV.nz, AV.nzL, RV.nrm, SEbin, SEnil, nilK, srcV, dstV, appName, List.length_append, Nat.mul_one, take_map_len, take_map_app, List.getElem?_cons_zero, List.map_append, SEmkmap, SEmset, mgetV, kvOf, getM, setM, c18, r18, u18_1, u18_2, u18_3, v18_4, u18_5, u18_6, v18_7, v18_8, v18_9, v18_10, v18_11, v18_12, v18_13, m18_13, u18_14, u18_15, u18_16, u18_17, u18_18, u18_19, u18_20, u18_21, u18_22, u18_23, u18_24, u18_25, ty30, ty31, ty28, ty3, SttD.av, SttD.cells, ints]) | (with_reducible refine And.intro ?_ ?_) | (refine call_ro e20 ( hc) rfl ?_ ?_ ?_ ?_) | (refine gcall_ro e20 ( hc) rfl ?_ ?_ ?_ ?_) | (refine dcall_ro e20 ( hc) rfl ?_ ?_ ?_ ?_) | (refine gdcall_ro rfl e20 ( hc) rfl ?_ ?_ ?_ ?_) | (refine EndX.plain ?_) | (refine nil_split (fun hn => ?_) (fun hn => ?_)) | (refine gcall_no not_false ?_) | (refine gdcall_no not_false ?_) | (refine GuardS_of _ _ _ _ _ _ (fun hg => ?_) (fun hg => ?_)) | (refine GuardD_of _ _ _ _ (fun hg => ?_) (fun hg => ?_)) | (refine CondB_of _ _ _ _ _ _ _ ?_ (fun hg => ?_) (fun hg => ?_)))
    all_goals (try (first | ((first | unfold noN | unfold Fr.below | unfold Loc.below); simp [Fr.allN, AV.allN, AV.allNL, AO.allN]; done) | rfl | trivial | assumption | (intro row hrow; simp only [List.mem_map] at hrow; obtain ⟨x, _, rfl⟩ := hrow; rfl) | (refine Wk.keep hcl ?_ ?_ ?_; (focus (simp [Fr.get, SttD.av, SttD.cells, ints] <;> fail)); (focus (simp [sto, SttD.av, SttD.cells, ints] <;> fail)); (focus (simp <;> fail))) | (simp [allP, opd, Fr.get, Fr.below, Fr.allN, AV.allN, AV.allNL, Loc.below, AO.allN, noN, killO, killT, killD, mkNames, AO.kill, AV.kill, AV.mapN, AV.mapNL]; done) | (with_reducible exact ltD (by assumption)) | omega | (simp only [decide_eq_true_eq, decide_eq_false_iff_not] at *; omega)))
  · simp only [cond_true] at hc ⊢
    have hids := fun (k : Nat) (m : Nat) => ids_p s (st_fit hw) 36 m [I k] (fun v => onV v (k : Int)) fun i hi => PureC.clo e36 (half2_p s.vers[i]! k m (hti rfl i hi))
    clear hti
    repeat' (first | (simp -implicitDefEqProofs only [*, contN, contC, Nat.reduceBEq, Bool.or_false, Bool.or_true, Bool.false_or, Bool.true_or, Bool.not_true, Bool.not_false, w_skip, w_ret, w_exit, w_reg, w_dreg, w_seq, SK_n, SK_r, SK_x, w_keep, w_block, w_cond, w_nil, w_cons, w_consg, w_nnil, w_ncons, w_dnil, w_dcons, w_dconsg, HK_app, HD_app, HQ_n, HQ_r, HQ_x, HQ_bn, HQ_br, HQ_bx, HQ_en, HQ_er, HQ_ex, CondB_true, CondB_false, SO1, w_sdv, SDe_alloc, SDe_box, SDe_bslice, SDe_app, true_imp_iff, false_imp_iff, and_false, false_and, not_false_eq_true, not_true_eq_false, addN, mkNames, killT, killD, killO, List.foldl_nil, List.foldl_cons, List.append_nil, List.nil_append, List.cons_append, GuardS_true, GuardS_false, GuardD_true, GuardD_false, DK_true, DK_false, lt_self_add, le_self_add, decide_true, decide_false, Bool.false_eq_true, Bool.true_eq_false, Nat.add_left_cancel_iff, SE, SEalloc, SEbox, SEstore, w_bs, SEbl, SEfz, SEbs0, fzName, osOf, AV.fz1, w_app, w_mk, aev, opd, Fr.get, putO, Fr.norm, List.map_cons, List.map_nil, with1, with2, onInt, AV.lit, entry, ↓reduceIte, Nat.reduceEqDiff, Nat.reduceAdd, reduceCtorEq, true_and, and_true, Option.map_some, Option.map_none, Option.bind_some, Option.bind_none, cond_true, cond_false, binV, unV, fieldV, loadV, sto, cellsAV, newF, newL, Fr.map, Loc.kill, Loc.set, AO.kill, AV.kill, AV.mapN, AV.mapNL, List.filter_nil, List.filter_cons, allP, EndV, retV, resV, resL, frz, dropL, AV.pick, nilV, tupV, imp_self, ne_eq, Int.cast_ofNat_Int, Int.reduceLT, Int.reduceToNat, List.getD_cons_zero, List.getD_cons_succ, bsliceV, buildV, afill, repl, chunk, rvs, AV.rv, RV.nrm, List.getElem?_nil, List.append_assoc, Nat.reduceMul, Nat.reducePow, Nat.zero_lt_succ, Nat.zero_add, Nat.add_zero, List.length_cons, List.length_nil, Nat.reduceLeDiff, Nat.le_refl, List.take_succ_cons, List.take_zero, List.drop_succ_cons, List.drop_zero, indexV, lenV, rowOf_mapD, rowOf_mapI, rowOf_mapA, List.length_map, Int.toNat_natCast, List.getElem?_cons_zero, List.getElem?_cons_succ, and_self, implies_true, if_true, if_false, HQ_zn, HQ_zr, HQ_wn, HQ_wr, AV.nz, AV.nzL, RV.nrm, SEbin, SEnil, nilK, srcV, dstV, appName, List.length_append, Nat.mul_one, take_map_len, take_map_app, List.getElem?_cons_zero, List.map_append, SEmkmap, SEmset, mgetV, kvOf, getM, setM, c18, r18, u18_1, u18_2, u18_3, v18_4, u18_5, u18_6, v18_7, v18_8, v18_9, v18_10, v18_11, v18_12, v18_13, m18_13, u18_14, u18_15, u18_16, u18_17, u18_18, u18_19, u18_20, u18_21, u18_22, u18_23, u18_24, u18_25, ty30, ty31, ty28, ty3, SttD.av, SttD.cells, ints, int_]) | (with_reducible refine And.intro ?_ ?_) | (refine call_ro e20 ( hc) rfl ?_ ?_ ?_ ?_) | (refine gcall_ro e20 ( hc) rfl ?_ ?_ ?_ ?_) | (refine dcall_ro e20 ( hc) rfl ?_ ?_ ?_ ?_) | (refine gdcall_ro rfl e20 ( hc) rfl ?_ ?_ ?_ ?_) | (refine call_ro e23 ( hcont k) rfl ?_ ?_ ?_ ?_) | (refine gcall_ro e23 ( hcont k) rfl ?_ ?_ ?_ ?_) | (refine dcall_ro e23 ( hcont k) rfl ?_ ?_ ?_ ?_) | (refine gdcall_ro rfl e23 ( hcont k) rfl ?_ ?_ ?_ ?_) | (refine call_ro e21 ( hany) rfl ?_ ?_ ?_ ?_) | (refine gcall_ro e21 ( hany) rfl ?_ ?_ ?_ ?_) | (refine dcall_ro e21 ( hany) rfl ?_ ?_ ?_ ?_) | (refine gdcall_ro rfl e21 ( hany) rfl ?_ ?_ ?_ ?_) | (refine call_ro e28 ( live_p s k) rfl ?_ ?_ ?_ ?_) | (refine gcall_ro e28 ( live_p s k) rfl ?_ ?_ ?_ ?_) | (refine dcall_ro e28 ( live_p s k) rfl ?_ ?_ ?_ ?_) | (refine gdcall_ro rfl e28 ( live_p s k) rfl ?_ ?_ ?_ ?_) | (refine dcall_roC e35 (hids k (B + 8)) rfl ?_ ?_ ?_ ?_ ?_) | (refine loop_nat (l.length) (fun k => ∀ i, i < k → halfOk s l i = false) (fun k => [(22, .d (.ro (l.map int_))), (2, .lp (B + 2) 0), (23, I l.length), (24, I k)]) (fun k => [(B + 2, .box s.cells)]) ?_ (Wk.keep hcl ?_ ?_ ?_) fun k hk hF => ?_; rotate_left 1; (focus (simp [Fr.get, newF, Fr.map, AV.kill, AV.mapN, SttD.av, SttD.cells, ints, int_] <;> fail)); (focus (simp [sto, newL, Loc.kill, Loc.set, AO.kill, AV.kill, AV.mapN, SttD.av, SttD.cells, ints, int_] <;> fail)); (focus (simp [newL, Loc.kill, Loc.set, SttD.av, SttD.cells, ints, int_] <;> fail)); (try have hw : IntKind.i64.wrap ((k : Int) + 1) = (k : Int) + 1 := IntWalk.i64_in _ (by omega))) | (refine EndX.plain ?_) | (refine nil_split (fun hn => ?_) (fun hn => ?_)) | (refine gcall_no not_false ?_) | (refine gdcall_no not_false ?_) | (refine GuardS_of _ _ _ _ _ _ (fun hg => ?_) (fun hg => ?_)) | (refine GuardD_of _ _ _ _ (fun hg => ?_) (fun hg => ?_)) | (refine CondB_of _ _ _ _ _ _ _ ?_ (fun hg => ?_) (fun hg => ?_)))
    all_goals (try (first | ((first | unfold noN | unfold Fr.below | unfold Loc.below); simp [Fr.allN, AV.allN, AV.allNL, AO.allN]; done) | rfl | trivial | assumption | (intro row hrow; simp only [List.mem_map] at hrow; obtain ⟨x, _, rfl⟩ := hrow; rfl) | (refine Wk.keep hcl ?_ ?_ ?_; (focus (simp [Fr.get, SttD.av, SttD.cells, ints, int_] <;> fail)); (focus (simp [sto, SttD.av, SttD.cells, ints, int_] <;> fail)); (focus (simp <;> fail))) | (simp [allP, opd, Fr.get, Fr.below, Fr.allN, AV.allN, AV.allNL, Loc.below, AO.allN, noN, killO, killT, killD, mkNames, AO.kill, AV.kill, AV.mapN, AV.mapNL]; done) | (with_reducible exact ltD (by assumption)) | omega | (simp only [decide_eq_true_eq, decide_eq_false_iff_not] at *; omega)))
    all_goals first
      | (refine allN' hF ?_; simp only [halfOk, *, Bool.false_or, Bool.true_or, Bool.or_true, Bool.or_false, Bool.and_true, Bool.true_and, Bool.false_and, Bool.and_false, Bool.not_true, Bool.not_false, cond_true, cond_false]; done)
      | (have e : halfI s l = -1 := idxD_none (by assumption : decide ((k : Int) < (l.length : Int)) = false) hF
         rw [e]; rfl)
      | (have hk2 : halfOk s l k = true := by simp only [halfOk, *, Bool.false_or, Bool.true_or, Bool.or_true, Bool.or_false, Bool.and_true, Bool.true_and, Bool.false_and, Bool.and_false, Bool.not_true, Bool.not_false, cond_true, cond_false]
         have e : halfI s l = k := idxD_some (by assumption : decide ((k : Int) < (l.length : Int)) = true) hk2 hF
         have e2 : decide ((k : Int) < 0) = false := by simp
         simp only [e, e2, cond_false]; done)
end Go.Proofs.Yteaojhieghakfaa
