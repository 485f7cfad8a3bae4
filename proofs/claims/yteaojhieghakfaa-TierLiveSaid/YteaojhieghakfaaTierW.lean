/- Tiers: the document's answer on what lives on each volume. -/
import Derived.Test.YteaojhieghakfaaTierV
import Derived.Test.YteaojhieghakfaaTypes
namespace Go.Proofs.Yteaojhieghakfaa
open Go.RowKit
set_option maxRecDepth 100000
def c12_1 : SC := (.seq (.reg [SO.mk (some 2) (.move (.const (Value.slice none 0 0))) none, SO.mk (some 3) (.move (.const (Value.int .i64 9))) none]) (.keep [2, 3] .ret))
theorem u12_1 : type_of% (@swc _ _ c12_1.eq_1) := @swc _ _ c12_1.eq_1
def c12_2 : SC := (.cond (.tmp 9) c12_1 .skip)
theorem u12_2 : type_of% (@swc _ _ c12_2.eq_1) := @swc _ _ c12_2.eq_1
def c12_3 : SC := (.cond (.tmp 15) .skip (.exit 0))
theorem u12_3 : type_of% (@swc _ _ c12_3.eq_1) := @swc _ _ c12_3.eq_1
def o12_4 : List SO := ((SO.mk (some 22) (.load 57 (.tmp 21)) none) :: (SO.mk (some 6) (.alloc 57) none) :: (SO.mk none (.store 57 (.tmp 6) (.tmp 22)) none) :: [])
theorem v12_4 : type_of% (@swl _ _ o12_4.eq_1) := @swl _ _ o12_4.eq_1
def o12_5 : List SO := ((SO.mk (some 27) (.faddr 57 (.tmp 6) 7) (some (26 , false))) :: (SO.mk (some 28) (.load 3 (.tmp 27)) (some (26 , false))) :: (SO.mk (some 29) (.bin .eql 3 (.tmp 28) (.const (Value.int .i64 3))) (some (26 , false))) :: (SO.mk (some 30) (.pick (.tmp 26) (.const (Value.bool true)) (.tmp 29)) none) :: [])
theorem v12_5 : type_of% (@swl _ _ o12_5.eq_1) := @swl _ _ o12_5.eq_1
def o12_6 : List SO := ((SO.mk (some 43) (.iaddr 28 (.tmp 31) (.tmp 33)) none) :: [])
theorem v12_6 : type_of% (@swd _ _ o12_6.eq_1) := @swd _ _ o12_6.eq_1
def o12_7 : List SO := ((SO.mk (some 39) (.bin .add 3 (.tmp 38) (.const (Value.int .i64 6))) none) :: (SO.mk (some 40) (.faddr 57 (.tmp 6) 5) none) :: (SO.mk (some 41) (.load 3 (.tmp 40)) none) :: (SO.mk (some 42) (.bin .add 3 (.tmp 39) (.tmp 41)) none) :: o12_6)
theorem v12_7 : type_of% (@swd _ _ o12_7.eq_1) := @swd _ _ o12_7.eq_1
def o12_8 : List SO := ((SO.mk (some 35) (.faddr 57 (.tmp 6) 9) none) :: (SO.mk (some 36) (.load 3 (.tmp 35)) none) :: (SO.mk (some 37) (.iaddr 28 (.tmp 34) (.tmp 36)) none) :: (SO.mk (some 38) (.load 3 (.tmp 37)) none) :: o12_7)
theorem v12_8 : type_of% (@swd _ _ o12_8.eq_1) := @swd _ _ o12_8.eq_1
def o12_9 : List SO := ((SO.mk (some 31) (.move (.tmp 4)) none) :: (SO.mk (some 32) (.faddr 57 (.tmp 6) 9) none) :: (SO.mk (some 33) (.load 3 (.tmp 32)) none) :: (SO.mk (some 34) (.move (.tmp 4)) none) :: o12_8)
theorem v12_9 : type_of% (@swd _ _ o12_9.eq_1) := @swd _ _ o12_9.eq_1
theorem m12_9 (B : Nat) : mkNames B o12_9 = [] := (rfl)
def c12_10 : SC := (.dreg false o12_9 [SO.mk none (.store 3 (.tmp 43) (.tmp 42)) none])
theorem u12_10 : type_of% (@swc _ _ c12_10.eq_1) := @swc _ _ c12_10.eq_1
def c12_11 : SC := (.cond (.tmp 30) c12_10 .skip)
theorem u12_11 : type_of% (@swc _ _ c12_11.eq_1) := @swc _ _ c12_11.eq_1
def c12_12 : SC := (.seq (.reg ((SO.mk (some 23) (.faddr 57 (.tmp 6) 7) none) :: (SO.mk (some 24) (.load 3 (.tmp 23)) none) :: (SO.mk (some 25) (.bin .eql 3 (.tmp 24) (.const (Value.int .i64 2))) none) :: (SO.mk (some 26) (.move (.tmp 25)) none) :: o12_5)) (.keep [30, 6, 5, 1, 4] c12_11))
theorem u12_12 : type_of% (@swc _ _ c12_12.eq_1) := @swc _ _ c12_12.eq_1
def c12_13 : SC := (.reg [SO.mk (some 16) (.move (.tmp 5)) none, SO.mk (some 17) (.bin .add 3 (.tmp 16) (.const (Value.int .i64 1))) none, SO.mk (some 5) (.move (.tmp 17)) none])
theorem u12_13 : type_of% (@swc _ _ c12_13.eq_1) := @swc _ _ c12_13.eq_1
def c12_14 : SC := (.seq (.block 1 (.seq (.reg ((SO.mk (some 18) (.faddr 30 (.tmp 1) 3) none) :: (SO.mk (some 19) (.load 25 (.tmp 18)) none) :: (SO.mk (some 20) (.move (.tmp 5)) none) :: (SO.mk (some 21) (.iaddr 25 (.tmp 19) (.tmp 20)) none) :: o12_4)) (.keep [6, 5, 1, 4] c12_12))) (.keep [5, 1, 4] c12_13))
theorem u12_14 : type_of% (@swc _ _ c12_14.eq_1) := @swc _ _ c12_14.eq_1
def c12_15 : SC := (.seq (.seq (.reg [SO.mk (some 11) (.move (.tmp 5)) none, SO.mk (some 12) (.faddr 30 (.tmp 1) 3) none, SO.mk (some 13) (.load 25 (.tmp 12)) none, SO.mk (some 14) (.len 25 (.tmp 13)) none, SO.mk (some 15) (.bin .lss 3 (.tmp 11) (.tmp 14)) none]) (.keep [15, 1, 5, 4] c12_3)) (.keep [5, 1, 4] c12_14))
theorem u12_15 : type_of% (@swc _ _ c12_15.eq_1) := @swc _ _ c12_15.eq_1
def c12_16 : SC := (.block 0 (.loop (.keep [1, 5, 4] c12_15)))
theorem u12_16 : type_of% (@swc _ _ c12_16.eq_1) := @swc _ _ c12_16.eq_1
def c12_17 : SC := (.seq (.reg [SO.mk (some 44) (.move (.tmp 4)) none, SO.mk (some 2) (.move (.tmp 44)) none, SO.mk (some 3) (.move (.const (Value.int .i64 0))) none]) (.keep [2, 3] .ret))
theorem u12_17 : type_of% (@swc _ _ c12_17.eq_1) := @swc _ _ c12_17.eq_1
def c12_18 : SC := (.seq (.seq (.reg [SO.mk (some 5) (.move (.const (Value.int .i64 0))) none]) (.keep [1, 5, 4] c12_16)) (.keep [4] c12_17))
theorem u12_18 : type_of% (@swc _ _ c12_18.eq_1) := @swc _ _ c12_18.eq_1
def c12_19 : SC := (.seq (.reg [SO.mk (some 10) (.mkslice 28 (.const (Value.int .i64 8)) (.const (Value.int .i64 8))) none, SO.mk (some 4) (.move (.tmp 10)) none]) (.keep [1, 4] c12_18))
theorem u12_19 : type_of% (@swc _ _ c12_19.eq_1) := @swc _ _ c12_19.eq_1
def c12_20 : SC := (.seq (.seq (.reg [SO.mk (some 7) (.load 30 (.tmp 1)) none, SO.mk (some 8) (.call 24 [(.tmp 7)]) none, SO.mk (some 9) (.un .not (.tmp 8)) none]) (.keep [9, 1] c12_2)) (.keep [1] c12_19))
theorem u12_20 : type_of% (@swc _ _ c12_20.eq_1) := @swc _ _ c12_20.eq_1
def c12 : SC := (.seq (.reg [SO.mk (some 1) (.box 30 (.tmp 0)) none, SO.mk (some 2) (.move (.const (Value.slice none 0 0))) none, SO.mk (some 3) (.move (.const (Value.int .i64 0))) none]) (.keep [1] c12_20))
theorem c12_eq : annC Try.f12 = some c12 := by kernel_rfl
theorem r12 : Try.f12.results.toList = [.tmp 2, .tmp 3] := by kernel_rfl
theorem e12 : enters Try.prog 12 = true := by kernel_rfl
end Go.Proofs.Yteaojhieghakfaa
namespace Go.Proofs.Yteaojhieghakfaa
open Go.RowKit
set_option maxHeartbeats 4000000
set_option maxRecDepth 20000
attribute [local irreducible] SW SWL SWLn SWD SEcall SEcallv SDv SE SO1 SOg ACalls ACallv Wk EndV
set_option linter.unusedSimpArgs false
set_option linter.unusedVariables false
def refL (l : List VerD) : Nat → List Int
  | 0 => List.replicate 8 0
  | k + 1 => bif onTape l[k]! then (refL l k).set (l[k]!.vol).toNat (IntKind.i64.wrap (IntKind.i64.wrap ((refL l k)[(l[k]!.vol).toNat]! + 6) + l[k]!.size)) else refL l k
theorem refL_len (l : List VerD) : ∀ k, (refL l k).length = 8
  | 0 => by simp [refL]
  | k + 1 => by
    have := refL_len l k
    simp only [refL]
    cases onTape l[k]! <;> simp [this]
theorem refL_yes {l : List VerD} {k : Nat} (h : onTape l[k]! = true) : refL l (k + 1) = (refL l k).set (l[k]!.vol).toNat (IntKind.i64.wrap (IntKind.i64.wrap ((refL l k)[(l[k]!.vol).toNat]! + 6) + l[k]!.size)) := by
  show cond _ _ _ = _; rw [h]; rfl
theorem refL_no {l : List VerD} {k : Nat} (h : onTape l[k]! = false) : refL l (k + 1) = refL l k := by
  show cond _ _ _ = _; rw [h]; rfl
structure VolOk (l : List VerD) : Prop where
  vol : ∀ k, k < l.length → onTape l[k]! = true → 0 ≤ l[k]!.vol ∧ l[k]!.vol < 8
  size : ∀ k, k < l.length → onTape l[k]! = true → 0 ≤ l[k]!.size ∧ l[k]!.size ≤ 600
  len : l.length ≤ 40
theorem volOk_of {s : SttD} (h : mayF s = true) : VolOk s.vers := by
  unfold mayF at h
  simp only [Bool.and_eq_true, none_iff, Bool.not_eq_true'] at h
  have key : ∀ k, k < s.vers.length → onTape s.vers[k]! = true → (0 ≤ s.vers[k]!.vol ∧ s.vers[k]!.vol < 8) ∧ 0 ≤ s.vers[k]!.size ∧ s.vers[k]!.size ≤ 600 := fun k hk ht => by
    have hv := h.2.2.2.1 k hk
    unfold mVer at hv
    simp only [Bool.or_eq_false_iff, Bool.not_eq_false'] at hv
    have h1 := hv.1.1
    unfold vmF at h1
    generalize s.vers[k]! = v at h1 ht ⊢
    unfold onTape at ht
    rw [Bool.or_eq_true, beq_iff_eq, beq_iff_eq] at ht
    cases hb : vmBad s v <;> simp only [hb, cond_true, cond_false] at h1
    · cases hm : v.mark <;> simp only [hm, cond_true, cond_false] at h1
      · cases h2 : (!inR v.size 0 600 || !inR v.tier 1 3) <;> simp only [h2, cond_true, cond_false] at h1
        · have e1 : inR v.size 0 600 = true := by cases h0 : inR v.size 0 600 <;> simp [h0] at h2 ⊢
          refine ⟨?_, inR_iff.1 e1⟩
          cases h3 : ((v.secs.length : Int) != (bif v.tier == 2 then 0 else secN v.size)) <;> simp only [h3, cond_true, cond_false] at h1
          · have h4 : (v.tier == 1) = false := by rw [beq_eq_false_iff_ne]; omega
            simp only [h4, cond_false] at h1
            cases h5 : (!inR v.vol 0 7 || (!inR v.pos 0 4000 || decide (idxD s.gone.length (pG s.gone v.vol) ≥ 0))) <;> simp only [h5, cond_true, cond_false] at h1
            · have e2 : inR v.vol 0 7 = true := by cases h0 : inR v.vol 0 7 <;> simp [h0] at h5 ⊢
              have := inR_iff.1 e2; omega
            · cases h1
          · cases h1
        · cases h1
      · unfold markF at h1
        simp only [Bool.and_eq_true, beq_iff_eq] at h1
        omega
    · cases h1
  refine ⟨fun k hk ht => (key k hk ht).1, fun k hk ht => (key k hk ht).2, ?_⟩
  have hn := h.1
  unfold mNum at hn
  simp only [Bool.or_eq_false_iff, decide_eq_false_iff_not] at hn
  omega
theorem liveK_bd {l : List VerD} (hv : VolOk l) (x : Int) : ∀ k, k ≤ l.length → 0 ≤ liveK l x k ∧ liveK l x k ≤ 606 * (k : Int) ∧ (∀ j, j < k → onV l[j]! x = true → liveK l x (j + 1) = liveK l x j + 6 + l[j]!.size)
  | 0, _ => ⟨by simp [liveK], by simp [liveK], fun j hj => absurd hj (Nat.not_lt_zero _)⟩
  | k + 1, hk => by
    obtain ⟨h1, h2, h3⟩ := liveK_bd hv x k (by omega)
    have h40 := hv.len
    cases ho : onV l[k]! x
    · rw [liveK_no ho]
      refine ⟨h1, by omega, fun j hj hoj => ?_⟩
      rcases Nat.lt_or_eq_of_le (Nat.le_of_lt_succ hj) with h | h
      · exact h3 j h hoj
      · subst h; rw [ho] at hoj; cases hoj
    · have hs := hv.size k (by omega) (by unfold onV at ho; exact (Bool.and_eq_true_iff.1 ho).1)
      have e : liveK l x (k + 1) = liveK l x k + 6 + l[k]!.size := by
        rw [liveK_yes ho, IntWalk.i64_in (6 + l[k]!.size) (by omega), IntWalk.i64_in _ (by omega)]; omega
      refine ⟨by omega, by omega, fun j hj hoj => ?_⟩
      rcases Nat.lt_or_eq_of_le (Nat.le_of_lt_succ hj) with h | h
      · exact h3 j h hoj
      · subst h; exact e
theorem refL_eq {l : List VerD} (hv : VolOk l) : ∀ k, k ≤ l.length → refL l k = (List.range 8).map fun (v : Nat) => liveK l (v : Int) k
  | 0, _ => by simp [refL, liveK]; rfl
  | k + 1, hk => by
    have ih := refL_eq hv k (by omega)
    have h40 := hv.len
    cases ht : onTape l[k]!
    · rw [refL_no ht, ih]
      apply List.map_congr_left
      intro v _
      rw [liveK_no (by unfold onV; rw [ht]; rfl)]
    · obtain ⟨v0, v1⟩ := hv.vol k (by omega) ht
      obtain ⟨s0, s1⟩ := hv.size k (by omega) ht
      obtain ⟨j, hj⟩ := Int.eq_ofNat_of_zero_le v0
      have hj8 : j < 8 := by omega
      rw [refL_yes ht, ih, hj, Int.toNat_natCast]
      apply List.ext_getElem
      · simp
      · intro i h1 h2
        simp only [List.length_map, List.length_range] at h2
        simp only [List.getElem_set, List.getElem_map, List.getElem_range]
        split
        · rename_i e; subst e
          have hon : onV l[k]! (j : Int) = true := by unfold onV; rw [ht, hj]; simp
          obtain ⟨b1, b2, b3⟩ := liveK_bd hv (j : Int) (k + 1) hk
          obtain ⟨c1, c2, _⟩ := liveK_bd hv (j : Int) k (by omega)
          rw [b3 k (by omega) hon, getElem!_pos _ j (by simpa using hj8)]
          simp only [List.getElem_map, List.getElem_range]
          rw [IntWalk.i64_in (liveK l (j : Int) k + 6) (by omega), IntWalk.i64_in _ (by omega)]
        · rename_i e
          rw [liveK_no]
          unfold onV
          rw [ht, hj, Bool.true_and, beq_eq_false_iff_ne]
          omega
theorem refL_live {l : List VerD} (hv : VolOk l) : refL l l.length = liveL l 8 := by
  rw [refL_eq hv l.length (Nat.le_refl _)]; rfl
theorem refL_end {l : List VerD} {k : Nat} (hk : k ≤ l.length) (h : decide ((k : Int) < (l.length : Int)) = false) : refL l k = refL l l.length := by
  have : k = l.length := by have := geS h; omega
  rw [this]
theorem refL_0 (l : List VerD) : (refL l 0).map int_ = List.replicate 8 [RV.v (.int .i64 0)] := by simp [refL, int_]
theorem liveOf_p (s : SttD) (hm : Pure Try.prog 24 [s.av] (Bo (mayF s))) : Pure Try.prog 12 [s.av] (liveV s) := by
  refine pureZ_of follows Try.func12 c12_eq r12 (Nat.le_of_ble_eq_true rfl) fun B σ hcl hsz => ?_
  obtain ⟨z1, z2, z3, z4, z5⟩ := st_sz5 (hsz s.av (by simp))
  clear hsz
  have hvo := volOk_of (s := s)
  unfold liveV
  generalize mayF s = b at hm hvo ⊢
  cases b
  · simp only [cond_false] at hm ⊢
    repeat' (first | (simp -implicitDefEqProofs only [*, contN, contC, Nat.reduceBEq, Bool.or_false, Bool.or_true, Bool.false_or, Bool.true_or, Bool.not_true, Bool.not_false, w_skip, w_ret, w_exit, w_reg, w_dreg, w_seq, SK_n, SK_r, SK_x, w_keep, w_block, w_cond, w_nil, w_cons, w_consg, w_nnil, w_ncons, w_dnil, w_dcons, w_dconsg, HK_app, HD_app, HQ_n, HQ_r, HQ_x, HQ_bn, HQ_br, HQ_bx, HQ_en, HQ_er, HQ_ex, CondB_true, CondB_false, SO1, w_sdv, SDe_alloc, SDe_box, SDe_bslice, SDe_app, true_imp_iff, false_imp_iff, and_false, false_and, not_false_eq_true, not_true_eq_false, addN, mkNames, killT, killD, killO, List.foldl_nil, List.foldl_cons, List.append_nil, List.nil_append, List.cons_append, GuardS_true, GuardS_false, GuardD_true, GuardD_false, DK_true, DK_false, lt_self_add, le_self_add, decide_true, decide_false, Bool.false_eq_true, Bool.true_eq_false, Nat.add_left_cancel_iff, SE, SEalloc, SEbox, SEstore, w_bs, SEbl, SEfz, SEbs0, fzName, osOf, AV.fz1, w_app, w_mk, aev, opd, Fr.get, putO, Fr.norm, List.map_cons, List.map_nil, with1, with2, onInt, AV.lit, entry, ↓reduceIte, Nat.reduceEqDiff, Nat.reduceAdd, reduceCtorEq, true_and, and_true, Option.map_some, Option.map_none, Option.bind_some, Option.bind_none, cond_true, cond_false, binV, unV, fieldV, loadV, sto, cellsAV, newF, newL, Fr.map, Loc.kill, Loc.set, AO.kill, AV.kill, AV.mapN, AV.mapNL, List.filter_nil, List.filter_cons, allP, EndV, retV, resV, resL, frz, dropL, AV.pick, nilV, tupV, imp_self, ne_eq, Int.cast_ofNat_Int, Int.reduceLT, Int.reduceToNat, List.getD_cons_zero, List.getD_cons_succ, bsliceV, buildV, afill, repl, chunk, rvs, AV.rv, RV.nrm, List.getElem?_nil, List.append_assoc, Nat.reduceMul, Nat.reducePow, Nat.zero_lt_succ, Nat.zero_add, Nat.add_zero, List.length_cons, List.length_nil, Nat.reduceLeDiff, Nat.le_refl, List.take_succ_cons, List.take_zero, List.drop_succ_cons, List.drop_zero, indexV, lenV, rowOf_mapD, rowOf_mapI, rowOf_mapA, List.length_map, Int.toNat_natCast, List.getElem?_cons_zero, List.getElem?_cons_succ, and_self, implies_true, if_true, if_false, HQ_zn, HQ_zr, HQ_wn, HQ_wr, AV.nz, AV.nzL, RV.nrm, SEbin, SEnil, nilK, srcV, dstV, appName, List.length_append, Nat.mul_one, take_map_len, take_map_app, List.getElem?_cons_zero, List.map_append, SEmkmap, SEmset, mgetV, kvOf, getM, setM, c12, r12, u12_1, u12_2, u12_3, v12_4, v12_5, v12_6, v12_7, v12_8, v12_9, m12_9, u12_10, u12_11, u12_12, u12_13, u12_14, u12_15, u12_16, u12_17, u12_18, u12_19, u12_20, ty30, ty28, ty25, ty3, ty57, SttD.av, SttD.cells, ints]) | (with_reducible refine And.intro ?_ ?_) | (refine call_ro e24 ( hm) rfl ?_ ?_ ?_ ?_) | (refine gcall_ro e24 ( hm) rfl ?_ ?_ ?_ ?_) | (refine dcall_ro e24 ( hm) rfl ?_ ?_ ?_ ?_) | (refine gdcall_ro rfl e24 ( hm) rfl ?_ ?_ ?_ ?_) | (refine EndX.plain ?_) | (refine nil_split (fun hn => ?_) (fun hn => ?_)) | (refine gcall_no not_false ?_) | (refine gdcall_no not_false ?_) | (refine GuardS_of _ _ _ _ _ _ (fun hg => ?_) (fun hg => ?_)) | (refine GuardD_of _ _ _ _ (fun hg => ?_) (fun hg => ?_)) | (refine CondB_of _ _ _ _ _ _ _ ?_ (fun hg => ?_) (fun hg => ?_)))
    all_goals (try (first | ((first | unfold noN | unfold Fr.below | unfold Loc.below); simp [Fr.allN, AV.allN, AV.allNL, AO.allN]; done) | rfl | trivial | assumption | (intro row hrow; simp only [List.mem_map] at hrow; obtain ⟨x, _, rfl⟩ := hrow; rfl) | (refine Wk.keep hcl ?_ ?_ ?_; (focus (simp [Fr.get, SttD.av, SttD.cells, ints] <;> fail)); (focus (simp [sto, SttD.av, SttD.cells, ints] <;> fail)); (focus (simp <;> fail))) | (simp [allP, opd, Fr.get, Fr.below, Fr.allN, AV.allN, AV.allNL, Loc.below, AO.allN, noN, killO, killT, killD, mkNames, AO.kill, AV.kill, AV.mapN, AV.mapNL]; done) | (with_reducible exact ltD (by assumption)) | omega | (simp only [decide_eq_true_eq, decide_eq_false_iff_not] at *; omega)))
  · simp only [cond_true] at hm ⊢
    have hv := hvo rfl
    clear hvo
    rw [← refL_live hv]
    have hrl := refL_len s.vers
    have f1 : ∀ k : Nat, decide ((k : Int) < (s.vers.length : Int)) = true → onTape s.vers[k]! = true → ((0 ≤ s.vers[k]!.vol) = True ∧ (s.vers[k]!.vol < 8) = True) ∧ ((s.vers[k]!.vol).toNat < 8) = True ∧ rowOf ((refL s.vers k).map int_) (s.vers[k]!.vol).toNat = [RV.v (.int .i64 (refL s.vers k)[(s.vers[k]!.vol).toNat]!)] := fun k hk ht => by
      obtain ⟨v0, v1⟩ := hv.vol k (ltS hk) ht
      have := hrl k
      exact ⟨⟨eq_true v0, eq_true v1⟩, eq_true (by omega), rowOf_mapD int_ _ _ (decide_eq_true (by omega))⟩
    have o2 : ∀ k : Nat, (s.vers[k]!.tier == 2) = true → onTape s.vers[k]! = true := fun k h => by unfold onTape; rw [h]; rfl
    have o3 : ∀ k : Nat, (s.vers[k]!.tier == 3) = true → onTape s.vers[k]! = true := fun k h => by unfold onTape; rw [h]; exact Bool.or_true _
    have a1 : ∀ k : Nat, decide ((k : Int) < (s.vers.length : Int)) = true → (s.vers[k]!.tier == 2) = true → (0 ≤ s.vers[k]!.vol) = True := fun k hk h => (f1 k hk (o2 k h)).1.1
    have a2 : ∀ k : Nat, decide ((k : Int) < (s.vers.length : Int)) = true → (s.vers[k]!.tier == 2) = true → (s.vers[k]!.vol < 8) = True := fun k hk h => (f1 k hk (o2 k h)).1.2
    have a3 : ∀ k : Nat, decide ((k : Int) < (s.vers.length : Int)) = true → (s.vers[k]!.tier == 2) = true → ((s.vers[k]!.vol).toNat < 8) = True := fun k hk h => (f1 k hk (o2 k h)).2.1
    have a4 : ∀ k : Nat, decide ((k : Int) < (s.vers.length : Int)) = true → (s.vers[k]!.tier == 2) = true → rowOf ((refL s.vers k).map int_) (s.vers[k]!.vol).toNat = [RV.v (.int .i64 (refL s.vers k)[(s.vers[k]!.vol).toNat]!)] := fun k hk h => (f1 k hk (o2 k h)).2.2
    have b1 : ∀ k : Nat, decide ((k : Int) < (s.vers.length : Int)) = true → (s.vers[k]!.tier == 3) = true → (0 ≤ s.vers[k]!.vol) = True := fun k hk h => (f1 k hk (o3 k h)).1.1
    have b2 : ∀ k : Nat, decide ((k : Int) < (s.vers.length : Int)) = true → (s.vers[k]!.tier == 3) = true → (s.vers[k]!.vol < 8) = True := fun k hk h => (f1 k hk (o3 k h)).1.2
    have b3 : ∀ k : Nat, decide ((k : Int) < (s.vers.length : Int)) = true → (s.vers[k]!.tier == 3) = true → ((s.vers[k]!.vol).toNat < 8) = True := fun k hk h => (f1 k hk (o3 k h)).2.1
    have b4 : ∀ k : Nat, decide ((k : Int) < (s.vers.length : Int)) = true → (s.vers[k]!.tier == 3) = true → rowOf ((refL s.vers k).map int_) (s.vers[k]!.vol).toNat = [RV.v (.int .i64 (refL s.vers k)[(s.vers[k]!.vol).toNat]!)] := fun k hk h => (f1 k hk (o3 k h)).2.2
    clear f1 o2 o3
    clear hv
    repeat' (first | (simp -implicitDefEqProofs only [*, contN, contC, Nat.reduceBEq, Bool.or_false, Bool.or_true, Bool.false_or, Bool.true_or, Bool.not_true, Bool.not_false, w_skip, w_ret, w_exit, w_reg, w_dreg, w_seq, SK_n, SK_r, SK_x, w_keep, w_block, w_cond, w_nil, w_cons, w_consg, w_nnil, w_ncons, w_dnil, w_dcons, w_dconsg, HK_app, HD_app, HQ_n, HQ_r, HQ_x, HQ_bn, HQ_br, HQ_bx, HQ_en, HQ_er, HQ_ex, CondB_true, CondB_false, SO1, w_sdv, SDe_alloc, SDe_box, SDe_bslice, SDe_app, true_imp_iff, false_imp_iff, and_false, false_and, not_false_eq_true, not_true_eq_false, addN, mkNames, killT, killD, killO, List.foldl_nil, List.foldl_cons, List.append_nil, List.nil_append, List.cons_append, GuardS_true, GuardS_false, GuardD_true, GuardD_false, DK_true, DK_false, lt_self_add, le_self_add, decide_true, decide_false, Bool.false_eq_true, Bool.true_eq_false, Nat.add_left_cancel_iff, SE, SEalloc, SEbox, SEstore, w_bs, SEbl, SEfz, SEbs0, fzName, osOf, AV.fz1, w_app, w_mk, aev, opd, Fr.get, putO, Fr.norm, List.map_cons, List.map_nil, with1, with2, onInt, AV.lit, entry, ↓reduceIte, Nat.reduceEqDiff, Nat.reduceAdd, reduceCtorEq, true_and, and_true, Option.map_some, Option.map_none, Option.bind_some, Option.bind_none, cond_true, cond_false, binV, unV, fieldV, loadV, sto, cellsAV, newF, newL, Fr.map, Loc.kill, Loc.set, AO.kill, AV.kill, AV.mapN, AV.mapNL, List.filter_nil, List.filter_cons, allP, EndV, retV, resV, resL, frz, dropL, AV.pick, nilV, tupV, imp_self, ne_eq, Int.cast_ofNat_Int, Int.reduceLT, Int.reduceToNat, List.getD_cons_zero, List.getD_cons_succ, bsliceV, buildV, afill, repl, chunk, rvs, AV.rv, RV.nrm, List.getElem?_nil, List.append_assoc, Nat.reduceMul, Nat.reducePow, Nat.zero_lt_succ, Nat.zero_add, Nat.add_zero, List.length_cons, List.length_nil, Nat.reduceLeDiff, Nat.le_refl, List.take_succ_cons, List.take_zero, List.drop_succ_cons, List.drop_zero, indexV, lenV, rowOf_mapD, rowOf_mapI, rowOf_mapA, List.length_map, Int.toNat_natCast, List.getElem?_cons_zero, List.getElem?_cons_succ, and_self, implies_true, if_true, if_false, HQ_zn, HQ_zr, HQ_wn, HQ_wr, AV.nz, AV.nzL, RV.nrm, SEbin, SEnil, nilK, srcV, dstV, appName, List.length_append, Nat.mul_one, take_map_len, take_map_app, List.getElem?_cons_zero, List.map_append, SEmkmap, SEmset, mgetV, kvOf, getM, setM, c12, r12, u12_1, u12_2, u12_3, v12_4, v12_5, v12_6, v12_7, v12_8, v12_9, m12_9, u12_10, u12_11, u12_12, u12_13, u12_14, u12_15, u12_16, u12_17, u12_18, u12_19, u12_20, ty30, ty28, ty25, ty3, ty57, SttD.av, SttD.cells, ints, VerD.row, refL_0, hrl]) | (with_reducible refine And.intro ?_ ?_) | (refine call_ro e24 ( hm) rfl ?_ ?_ ?_ ?_) | (refine gcall_ro e24 ( hm) rfl ?_ ?_ ?_ ?_) | (refine dcall_ro e24 ( hm) rfl ?_ ?_ ?_ ?_) | (refine gdcall_ro rfl e24 ( hm) rfl ?_ ?_ ?_ ?_) | (refine loop_nat (s.vers.length) (fun _ => True) (fun k => [(1, .lp (B + 1) 0), (5, I k), (4, .os (B + 10) 8)]) (fun k => [(B + 1, .box s.cells), (B + 10, .arr 1 3 ((refL s.vers k).map int_))]) ?_ (Wk.keep hcl ?_ ?_ ?_) fun k hk hF => ?_; rotate_left 1; (focus (simp [Fr.get, newF, Fr.map, AV.kill, AV.mapN, SttD.av, SttD.cells, ints, VerD.row, refL_0, hrl] <;> fail)); (focus (simp [sto, newL, Loc.kill, Loc.set, AO.kill, AV.kill, AV.mapN, SttD.av, SttD.cells, ints, VerD.row, refL_0, hrl] <;> fail)); (focus (simp [newL, Loc.kill, Loc.set, SttD.av, SttD.cells, ints, VerD.row, refL_0, hrl] <;> fail)); (try have hw : IntKind.i64.wrap ((k : Int) + 1) = (k : Int) + 1 := IntWalk.i64_in _ (by omega))) | (refine EndX.plain ?_) | (refine nil_split (fun hn => ?_) (fun hn => ?_)) | (refine gcall_no not_false ?_) | (refine gdcall_no not_false ?_) | (refine GuardS_of _ _ _ _ _ _ (fun hg => ?_) (fun hg => ?_)) | (refine GuardD_of _ _ _ _ (fun hg => ?_) (fun hg => ?_)) | (refine CondB_of _ _ _ _ _ _ _ ?_ (fun hg => ?_) (fun hg => ?_)))
    all_goals (try (first | ((first | unfold noN | unfold Fr.below | unfold Loc.below); simp [Fr.allN, AV.allN, AV.allNL, AO.allN]; done) | rfl | trivial | assumption | (intro row hrow; simp only [List.mem_map] at hrow; obtain ⟨x, _, rfl⟩ := hrow; rfl) | (refine Wk.keep hcl ?_ ?_ ?_; (focus (simp [Fr.get, SttD.av, SttD.cells, ints, VerD.row, refL_0, hrl] <;> fail)); (focus (simp [sto, SttD.av, SttD.cells, ints, VerD.row, refL_0, hrl] <;> fail)); (focus (simp <;> fail))) | (simp [allP, opd, Fr.get, Fr.below, Fr.allN, AV.allN, AV.allNL, Loc.below, AO.allN, noN, killO, killT, killD, mkNames, AO.kill, AV.kill, AV.mapN, AV.mapNL]; done) | (with_reducible exact ltD (by assumption)) | omega | (simp only [decide_eq_true_eq, decide_eq_false_iff_not] at *; omega)))
    all_goals first
      | (rw [refL_yes (k := k)]
         · refine Wk.keep hcl ?_ ?_ ?_
           · simp [Fr.get]
           · simp [sto, SttD.cells, ints, int_, List.map_set]
           · simp
         · simp only [onTape, *, Bool.false_or, Bool.true_or, Bool.or_true, Bool.or_false, Bool.and_true, Bool.true_and, Bool.false_and, Bool.and_false, Bool.not_true, Bool.not_false, cond_true, cond_false]; done)
      | (rw [refL_no (k := k)]
         · refine Wk.keep hcl ?_ ?_ ?_
           · simp [Fr.get]
           · simp [sto, SttD.cells, ints, int_]
           · simp
         · simp only [onTape, *, Bool.false_or, Bool.true_or, Bool.or_true, Bool.or_false, Bool.and_true, Bool.true_and, Bool.false_and, Bool.and_false, Bool.not_true, Bool.not_false, cond_true, cond_false]; done)
      | (rw [refL_end (by assumption) (by assumption), List.take_of_length_le (by simp [hrl])]; done)
end Go.Proofs.Yteaojhieghakfaa
