/- One who writes bytes: what it puts. -/
import Derived.Test.YtijpmidnclbhpaaStD
import Derived.Test.YtijpmidnclbhpaaNz
import Derived.Test.YtijpmidnclbhpaaNum0
import Derived.Test.YtijpmidnclbhpaaTypes
namespace Go.Proofs.Ytijpmidnclbhpaa
open Go.RowKit
set_option maxRecDepth 100000
def c12_1 : SC := (.cond (.tmp 10) .skip (.exit 0))
theorem u12_1 : type_of% (@swc _ _ c12_1.eq_1) := @swc _ _ c12_1.eq_1
def o12_2 : List SO := ((SO.mk (some 21) (.bin .shr 3 (.tmp 18) (.tmp 20)) none) :: (SO.mk (some 22) (.conv 3 5 (.tmp 21)) none) :: (SO.mk (some 23) (.bslice 29 1 [(0 , (.tmp 22))]) none) :: [])
theorem v12_2 : type_of% (@swd _ _ o12_2.eq_1) := @swd _ _ o12_2.eq_1
def o12_3 : List SO := ((SO.mk (some 17) (.load 29 (.tmp 16)) none) :: (SO.mk (some 18) (.move (.tmp 1)) none) :: (SO.mk (some 19) (.move (.tmp 6)) none) :: (SO.mk (some 20) (.bin .mul 3 (.const (Value.int .i64 8)) (.tmp 19)) none) :: o12_2)
theorem v12_3 : type_of% (@swd _ _ o12_3.eq_1) := @swd _ _ o12_3.eq_1
def o12_4 : List SO := ((SO.mk (some 13) (.move (.tmp 0)) none) :: (SO.mk (some 14) (.move (.tmp 0)) none) :: (SO.mk (some 15) (.nilCheck (.tmp 14)) none) :: (SO.mk (some 16) (.faddr 42 (.tmp 15) 0) none) :: o12_3)
theorem v12_4 : type_of% (@swd _ _ o12_4.eq_1) := @swd _ _ o12_4.eq_1
theorem m12_4 (B : Nat) : mkNames B o12_4 = [] := (rfl)
def c12_5 : SC := (.reg [SO.mk (some 11) (.move (.tmp 6)) none, SO.mk (some 12) (.bin .sub 3 (.tmp 11) (.const (Value.int .i64 1))) none, SO.mk (some 6) (.move (.tmp 12)) none])
theorem u12_5 : type_of% (@swc _ _ c12_5.eq_1) := @swc _ _ c12_5.eq_1
def c12_6 : SC := (.seq (.block 1 (.dreg false o12_4 [SO.mk (some 24) (.app 29 29 (.tmp 17) (.tmp 23)) none, SO.mk (some 25) (.nilCheck (.tmp 13)) none, SO.mk (some 26) (.faddr 42 (.tmp 25) 0) none, SO.mk none (.store 29 (.tmp 26) (.tmp 24)) none])) (.keep [6, 1, 0] c12_5))
theorem u12_6 : type_of% (@swc _ _ c12_6.eq_1) := @swc _ _ c12_6.eq_1
def c12_7 : SC := (.seq (.seq (.reg [SO.mk (some 9) (.move (.tmp 6)) none, SO.mk (some 10) (.bin .geq 3 (.tmp 9) (.const (Value.int .i64 0))) none]) (.keep [10, 0, 1, 6] c12_1)) (.keep [6, 1, 0] c12_6))
theorem u12_7 : type_of% (@swc _ _ c12_7.eq_1) := @swc _ _ c12_7.eq_1
def c12_8 : SC := (.block 0 (.loop (.keep [0, 1, 6] c12_7)))
theorem u12_8 : type_of% (@swc _ _ c12_8.eq_1) := @swc _ _ c12_8.eq_1
def c12 : SC := (.seq (.reg [SO.mk (some 7) (.move (.tmp 2)) none, SO.mk (some 8) (.bin .sub 3 (.tmp 7) (.const (Value.int .i64 1))) none, SO.mk (some 6) (.move (.tmp 8)) none]) (.keep [0, 1, 6] c12_8))
theorem c12_eq : annC Try.f12 = some c12 := by kernel_rfl
theorem r12 : Try.f12.results.toList = [] := by kernel_rfl
theorem e12 : enters Try.prog 12 = true := by kernel_rfl
end Go.Proofs.Ytijpmidnclbhpaa
namespace Go.Proofs.Ytijpmidnclbhpaa
open Go.RowKit
set_option maxHeartbeats 4000000
set_option maxRecDepth 20000
attribute [local irreducible] SW SWL SWLn SWD SEcall SEcallv SDv SE SO1 SOg ACalls ACallv Wk EndV
set_option linter.unusedSimpArgs false
set_option linter.unusedVariables false
def hid (m n : Nat) (σ : Sto) : Sto := fun x => if x = m ∨ x = n then .dead else σ x
theorem hid_m (m n : Nat) (σ : Sto) : hid m n σ m = .dead := by simp [hid]
theorem hid_n (m n : Nat) (σ : Sto) : hid m n σ n = .dead := by simp [hid]
theorem hid_sto {m n : Nat} {σ : Sto} {om on : AO} (h1 : σ m = om) (h2 : σ n = on) : sto [(m, om), (n, on)] (hid m n σ) = σ := by
  funext x
  simp only [sto, hid]
  split
  · rename_i e; subst e; exact h1.symm
  · split
    · rename_i e; subst e; exact h2.symm
    · rename_i e1 e2
      rw [if_neg]
      rintro (e | e)
      · exact e1 e
      · exact e2 e
theorem hid_closed {m n B : Nat} {σ : Sto} (h : ClosedS B σ) : ClosedS B (hid m n σ) := fun x => by
  unfold hid
  split
  · exact ⟨rfl, fun _ => rfl⟩
  · exact h x
theorem hid_kill {m n : Nat} {σ : Sto} (h : ∀ x, x ≠ m → x ≠ n → (σ x).kill m = σ x) (x : Nat) : (hid m n σ x).kill m = hid m n σ x := by
  unfold hid
  split
  · rfl
  · rename_i e
    exact h x (fun e1 => e (.inl e1)) (fun e2 => e (.inr e2))
def arO (bs : List UInt8) : AO := .arr 1 5 (bs.map by_)
def wrO (m : Nat) (bs : List UInt8) : AO := .box [.os m bs.length]
def wrL (m n : Nat) (bs : List UInt8) : Loc := [(m, arO bs), (n, wrO m bs)]
structure WrS (B : Nat) (σ : Sto) (m n : Nat) (bs : List UInt8) : Prop where
  hm : m < B
  hn : n < B
  ne : m ≠ n
  am : σ m = arO bs
  an : σ n = wrO m bs
  free : ∀ x, x ≠ m → x ≠ n → (σ x).kill m = σ x
theorem wr_end2 {σ : Sto} {m n : Nat} {bs : List UInt8} {A C : AO} (hA : A = arO bs) (hC : C = wrO m bs) : (fun x => if x = m then A else if x = n then C else hid m n σ x) = sto (wrL m n bs) σ := by
  funext x
  subst hA; subst hC
  simp only [wrL, sto, hid]
  split
  · rfl
  · split
    · rfl
    · rename_i e1 e2
      rw [if_neg]
      rintro (e | e)
      · exact e1 e
      · exact e2 e
def Writes (P : Program) (f : FuncId) (args : List AV) (X : List UInt8) : Prop := ∀ (B : Nat) (σ : Sto) (m n : Nat) (bs : List UInt8), WrS B σ m n bs → bs.length + X.length ≤ 2 ^ 40 → ACalls P f (.lp n 0 :: args) σ B [m] (fun v σ' => v = .tup [] ∧ σ' = sto (wrL m n (bs ++ X)) σ)
theorem put_w (x : Int) (k : Nat) (hk1 : 1 ≤ k) (hk2 : k ≤ 4) : Writes Try.prog 12 [I x, I k] (bigB x k) := by
  intro B σ m n bs hW hb
  refine own_ofL [(m, arO bs), (n, wrO m bs)] (hid_sto hW.am hW.an) hid_closed follows Try.func12 c12_eq r12 (Nat.le_of_ble_eq_true rfl) fun hcl hsz => ?_
  clear hsz
  obtain ⟨hm, hn, ne, am, an, free⟩ := hW
  have y1 : ∀ s, (n = B + s) = False := fun s => by simp; omega
  have y2 : ∀ s, (B + s = n) = False := fun s => by simp; omega
  have y3 : ∀ s, (m = B + s) = False := fun s => by simp; omega
  have y4 : ∀ s, (B + s = m) = False := fun s => by simp; omega
  have y5 : (m < B) = True := eq_true hm
  have y6 : (n < B) = True := eq_true hn
  have y7 : (m = n) = False := eq_false ne
  have y8 : (n = m) = False := eq_false (fun e => ne e.symm)
  have y9 : decide (m < B + 100000) = true := by simp; omega
  have y10 : decide (n < B + 100000) = true := by simp; omega
  have y11 : (B ≤ m) = False := eq_false (by omega)
  have hr1 := hid_m m n σ
  have hr2 := hid_n m n σ
  have hr3 := hid_kill free
  have q1 : ∀ j : Nat, decide ((k : Int) - 1 - j ≥ 0) = true → IntKind.i64.wrap (8 * ((k : Int) - 1 - j)) = 8 * ((k : Int) - 1 - j) := fun j hj => IntWalk.i64_in _ (by simp at hj; omega)
  have q2 : ∀ j : Nat, decide ((k : Int) - 1 - j ≥ 0) = true → (0 ≤ 8 * ((k : Int) - 1 - j)) = True := fun j hj => eq_true (by simp at hj; omega)
  have q0 : IntKind.i64.wrap ((k : Int) - 1) = (k : Int) - 1 := IntWalk.i64_in _ (by omega)
  repeat' (first | (simp -implicitDefEqProofs only [*, contN, contC, Nat.reduceBEq, Bool.or_false, Bool.or_true, Bool.false_or, Bool.true_or, Bool.not_true, Bool.not_false, SEconv, w_skip, w_ret, w_exit, w_reg, w_dreg, w_seq, SK_n, SK_r, SK_x, w_keep, w_block, w_cond, w_nil, w_cons, w_consg, w_nnil, w_ncons, w_dnil, w_dcons, w_dconsg, HK_app, HD_app, HQ_n, HQ_r, HQ_x, HQ_bn, HQ_br, HQ_bx, HQ_en, HQ_er, HQ_ex, CondB_true, CondB_false, SO1, w_sdv, SDe_alloc, SDe_box, SDe_bslice, SDe_app, true_imp_iff, false_imp_iff, and_false, false_and, not_false_eq_true, not_true_eq_false, addN, mkNames, killT, killD, killO, List.foldl_nil, List.foldl_cons, List.append_nil, List.nil_append, List.cons_append, GuardS_true, GuardS_false, GuardD_true, GuardD_false, DK_true, DK_false, lt_self_add, le_self_add, decide_true, decide_false, Bool.false_eq_true, Bool.true_eq_false, Nat.add_left_cancel_iff, SE, SEalloc, SEbox, SEstore, w_bs, SEbl, SEfz, SEbs0, fzName, osOf, AV.fz1, w_app, w_mk, aev, opd, Fr.get, putO, Fr.norm, List.map_cons, List.map_nil, with1, with2, onInt, AV.lit, entry, ↓reduceIte, Nat.reduceEqDiff, Nat.reduceAdd, reduceCtorEq, true_and, and_true, Option.map_some, Option.map_none, Option.bind_some, Option.bind_none, cond_true, cond_false, binV, unV, fieldV, loadV, sto, cellsAV, newF, newL, Fr.map, Loc.kill, Loc.set, AO.kill, AV.kill, AV.mapN, AV.mapNL, List.filter_nil, List.filter_cons, allP, EndV, retV, resV, resL, frz, dropL, AV.pick, nilV, tupV, imp_self, ne_eq, Int.cast_ofNat_Int, Int.reduceLT, Int.reduceToNat, List.getD_cons_zero, List.getD_cons_succ, bsliceV, buildV, afill, repl, chunk, rvs, AV.rv, RV.nrm, List.getElem?_nil, List.append_assoc, Nat.reduceMul, Nat.reducePow, Nat.zero_lt_succ, Nat.zero_add, Nat.add_zero, List.length_cons, List.length_nil, Nat.reduceLeDiff, Nat.le_refl, List.take_succ_cons, List.take_zero, List.drop_succ_cons, List.drop_zero, indexV, lenV, rowOf_mapD, rowOf_mapI, rowOf_mapA, List.length_map, Int.toNat_natCast, List.getElem?_cons_zero, List.getElem?_cons_succ, and_self, implies_true, if_true, if_false, HQ_zn, HQ_zr, HQ_wn, HQ_wr, AV.nz, AV.nzL, RV.nrm, SEbin, SEnil, nilK, srcV, dstV, appName, List.length_append, Nat.mul_one, take_map_len, take_map_app, List.getElem?_cons_zero, List.map_append, SEmkmap, SEmset, mgetV, kvOf, getM, setM, c12, r12, u12_1, v12_2, v12_3, v12_4, m12_4, u12_5, u12_6, u12_7, u12_8, ty3, ty42, ty29, ty5, convV, bytes, arO, wrO, y1, y2, y3, y4, y5, y6, y7, y8, y11]) | (with_reducible refine And.intro ?_ ?_) | (refine loop_nat (k) (fun _ => True) (fun j => [(0, .lp n 0), (1, I x), (6, I ((k : Int) - 1 - j))]) (fun j => [(m, .arr 1 5 ((bs ++ (bigB x k).take j).map by_)), (n, .box [.os m (bs ++ (bigB x k).take j).length])]) ?_ (Wk.keep hcl ?_ ?_ ?_) fun j hj hFj => ?_; rotate_left 1; (focus (simp [Fr.get, newF, Fr.map, AV.kill, AV.mapN, convV, bytes, arO, wrO, y1, y2, y3, y4, y5, y6, y7, y8, y11] <;> fail)); (focus (simp [sto, newL, Loc.kill, Loc.set, AO.kill, AV.kill, AV.mapN, convV, bytes, arO, wrO, y1, y2, y3, y4, y5, y6, y7, y8, y11] <;> fail)); (focus (simp [newL, Loc.kill, Loc.set, convV, bytes, arO, wrO, y1, y2, y3, y4, y5, y6, y7, y8, y11] <;> fail)); (try have hwj : IntKind.i64.wrap ((j : Int) + 1) = (j : Int) + 1 := IntWalk.i64_in _ (by omega))) | (refine EndX.plain ?_) | (refine nil_split (fun hn => ?_) (fun hn => ?_)) | (refine gcall_no not_false ?_) | (refine gdcall_no not_false ?_) | (refine GuardS_of _ _ _ _ _ _ (fun hg => ?_) (fun hg => ?_)) | (refine GuardD_of _ _ _ _ (fun hg => ?_) (fun hg => ?_)) | (refine CondB_of _ _ _ _ _ _ _ ?_ (fun hg => ?_) (fun hg => ?_)))
  all_goals (try (first | ((first | unfold noN | unfold Fr.below | unfold Loc.below); simp [Fr.allN, AV.allN, AV.allNL, AO.allN]; done) | rfl | trivial | assumption | (intro row hrow; simp only [List.mem_map] at hrow; obtain ⟨x, _, rfl⟩ := hrow; rfl) | (refine Wk.keep hcl ?_ ?_ ?_; (focus (simp [Fr.get, convV, bytes, arO, wrO, y1, y2, y3, y4, y5, y6, y7, y8, y11] <;> fail)); (focus (simp [sto, convV, bytes, arO, wrO, y1, y2, y3, y4, y5, y6, y7, y8, y11] <;> fail)); (focus (simp <;> fail))) | (simp [allP, opd, Fr.get, Fr.below, Fr.allN, AV.allN, AV.allNL, Loc.below, AO.allN, noN, killO, killT, killD, mkNames, AO.kill, AV.kill, AV.mapN, AV.mapNL]; done) | (with_reducible exact ltD (by assumption)) | omega | (simp only [decide_eq_true_eq, decide_eq_false_iff_not] at *; omega)))
  all_goals first
    | (unfold Fr.below; simp [Fr.allN, AV.allN, AV.allNL, y9, y10]; done)
    | (unfold Loc.below; simp [AO.allN, AV.allN, AV.allNL, y9, y10]; done)
    | exact .inr ⟨by simp, hr3⟩
    | (rw [bigB_len] at hb; simp only [List.length_take, bigB_len]; omega)
    | (have hk1 : j < k := by simp at hg; omega
       have hk2 : j < (bigB x k).length := by rw [bigB_len]; exact hk1
       rw [shr_f2 x (by omega) (by omega) hk1, b8_wrap, IntWalk.i64_in _ (by omega), take_next hk2, bigB_at hk1, show (k : Int) - 1 - (j : Int) - 1 = (k : Int) - 1 - ((j + 1 : Nat) : Int) by omega]
       refine Wk.keep hcl (by simp [Fr.get]) (by simp [sto, by_, y7, y8, Nat.add_assoc]) (by simp))
    | (have hk1 : k ≤ j := by simp at hg; omega
       have e : List.take j (bigB x k) = bigB x k := List.take_of_length_le (by rw [bigB_len]; exact hk1)
       rw [e]
       refine wr_end2 ?_ ?_
       · simp [arO]
       · simp [wrO])
end Go.Proofs.Ytijpmidnclbhpaa
