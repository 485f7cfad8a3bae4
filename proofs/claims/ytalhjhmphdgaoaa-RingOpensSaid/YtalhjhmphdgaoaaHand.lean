/- The hand of one who writes: what it puts, flushes and tells at the end. -/
import Derived.Test.YtalhjhmphdgaoaaDone
import Derived.Test.YtalhjhmphdgaoaaTypes
namespace Go.Proofs.Ytalhjhmphdgaoaa
open Go.RowKit
set_option maxRecDepth 100000
def c36_1 : SC := (.cond (.tmp 12) .ret .skip)
theorem u36_1 : type_of% (@swc _ _ c36_1.eq_1) := @swc _ _ c36_1.eq_1
def o36_2 : List SO := ((SO.mk (some 25) (.extract (.tmp 13) 0) none) :: (SO.mk (some 26) (.extract (.tmp 13) 1) none) :: (SO.mk (some 6) (.alloc 28) none) :: [])
theorem v36_2 : type_of% (@swd _ _ o36_2.eq_1) := @swd _ _ o36_2.eq_1
def o36_3 : List SO := ((SO.mk (some 22) (.move (.tmp 1)) none) :: (SO.mk (some 23) (.move (.tmp 2)) none) :: (SO.mk (some 24) (.call 61 [(.tmp 17), (.tmp 21), (.tmp 22), (.tmp 23)]) none) :: (SO.mk (some 13) (.move (.tmp 24)) none) :: o36_2)
theorem v36_3 : type_of% (@swd _ _ o36_3.eq_1) := @swd _ _ o36_3.eq_1
def o36_4 : List SO := ((SO.mk (some 18) (.move (.tmp 0)) none) :: (SO.mk (some 19) (.nilCheck (.tmp 18)) none) :: (SO.mk (some 20) (.faddr 72 (.tmp 19) 1) none) :: (SO.mk (some 21) (.load 28 (.tmp 20)) none) :: o36_3)
theorem v36_4 : type_of% (@swd _ _ o36_4.eq_1) := @swd _ _ o36_4.eq_1
def o36_5 : List SO := ((SO.mk (some 14) (.move (.tmp 0)) none) :: (SO.mk (some 15) (.nilCheck (.tmp 14)) none) :: (SO.mk (some 16) (.faddr 72 (.tmp 15) 0) none) :: (SO.mk (some 17) (.load 23 (.tmp 16)) none) :: o36_4)
theorem v36_5 : type_of% (@swd _ _ o36_5.eq_1) := @swd _ _ o36_5.eq_1
theorem m36_5 (B : Nat) : mkNames B o36_5 = [B + 6] := (rfl)
def c36_6 : SC := (.reg [SO.mk (some 33) (.move (.tmp 0)) none, SO.mk (some 34) (.load 28 (.tmp 6)) none, SO.mk (some 35) (.nilCheck (.tmp 33)) none, SO.mk (some 36) (.faddr 72 (.tmp 35) 1) none, SO.mk none (.store 28 (.tmp 36) (.tmp 34)) none])
theorem u36_6 : type_of% (@swc _ _ c36_6.eq_1) := @swc _ _ c36_6.eq_1
def c36_7 : SC := (.cond (.tmp 32) c36_6 .skip)
theorem u36_7 : type_of% (@swc _ _ c36_7.eq_1) := @swc _ _ c36_7.eq_1
def c36_8 : SC := (.seq (.reg [SO.mk (some 31) (.move (.tmp 7)) none, SO.mk (some 32) (.bin .eql 30 (.tmp 31) (.const (Value.int .i64 0))) none]) (.keep [32, 6, 0] c36_7))
theorem u36_8 : type_of% (@swc _ _ c36_8.eq_1) := @swc _ _ c36_8.eq_1
def c36_9 : SC := (.seq (.reg [SO.mk (some 27) (.move (.tmp 0)) none, SO.mk (some 28) (.move (.tmp 7)) none, SO.mk (some 29) (.nilCheck (.tmp 27)) none, SO.mk (some 30) (.faddr 72 (.tmp 29) 2) none, SO.mk none (.store 30 (.tmp 30) (.tmp 28)) none]) (.keep [7, 6, 0] c36_8))
theorem u36_9 : type_of% (@swc _ _ c36_9.eq_1) := @swc _ _ c36_9.eq_1
def c36_10 : SC := (.seq (.dreg false o36_5 [SO.mk none (.store 28 (.tmp 6) (.tmp 25)) none, SO.mk (some 7) (.move (.tmp 26)) none]) (.keep [7, 6, 0] c36_9))
theorem u36_10 : type_of% (@swc _ _ c36_10.eq_1) := @swc _ _ c36_10.eq_1
def c36 : SC := (.seq (.seq (.reg [SO.mk (some 8) (.move (.tmp 0)) none, SO.mk (some 9) (.nilCheck (.tmp 8)) none, SO.mk (some 10) (.faddr 72 (.tmp 9) 2) none, SO.mk (some 11) (.load 30 (.tmp 10)) none, SO.mk (some 12) (.bin .neq 30 (.tmp 11) (.const (Value.int .i64 0))) none]) (.keep [12, 1, 2, 0] c36_1)) (.keep [1, 2, 0] c36_10))
theorem c36_eq : annC Try.f36 = some c36 := by kernel_rfl
theorem r36 : Try.f36.results.toList = [] := by kernel_rfl
theorem e36 : enters Try.prog 36 = true := by kernel_rfl
def c38_1 : SC := (.cond (.tmp 8) .ret .skip)
theorem u38_1 : type_of% (@swc _ _ c38_1.eq_1) := @swc _ _ c38_1.eq_1
def o38_2 : List SO := ((SO.mk (some 2) (.alloc 28) none) :: [])
theorem v38_2 : type_of% (@swd _ _ o38_2.eq_1) := @swd _ _ o38_2.eq_1
def o38_3 : List SO := ((SO.mk (some 18) (.call 64 [(.tmp 13), (.tmp 17)]) none) :: (SO.mk (some 9) (.move (.tmp 18)) none) :: (SO.mk (some 19) (.extract (.tmp 9) 0) none) :: (SO.mk (some 20) (.extract (.tmp 9) 1) none) :: o38_2)
theorem v38_3 : type_of% (@swd _ _ o38_3.eq_1) := @swd _ _ o38_3.eq_1
def o38_4 : List SO := ((SO.mk (some 14) (.move (.tmp 0)) none) :: (SO.mk (some 15) (.nilCheck (.tmp 14)) none) :: (SO.mk (some 16) (.faddr 72 (.tmp 15) 1) none) :: (SO.mk (some 17) (.load 28 (.tmp 16)) none) :: o38_3)
theorem v38_4 : type_of% (@swd _ _ o38_4.eq_1) := @swd _ _ o38_4.eq_1
def o38_5 : List SO := ((SO.mk (some 10) (.move (.tmp 0)) none) :: (SO.mk (some 11) (.nilCheck (.tmp 10)) none) :: (SO.mk (some 12) (.faddr 72 (.tmp 11) 0) none) :: (SO.mk (some 13) (.load 23 (.tmp 12)) none) :: o38_4)
theorem v38_5 : type_of% (@swd _ _ o38_5.eq_1) := @swd _ _ o38_5.eq_1
theorem m38_5 (B : Nat) : mkNames B o38_5 = [B + 2] := (rfl)
def c38_6 : SC := (.reg [SO.mk (some 27) (.move (.tmp 0)) none, SO.mk (some 28) (.load 28 (.tmp 2)) none, SO.mk (some 29) (.nilCheck (.tmp 27)) none, SO.mk (some 30) (.faddr 72 (.tmp 29) 1) none, SO.mk none (.store 28 (.tmp 30) (.tmp 28)) none])
theorem u38_6 : type_of% (@swc _ _ c38_6.eq_1) := @swc _ _ c38_6.eq_1
def c38_7 : SC := (.cond (.tmp 26) c38_6 .skip)
theorem u38_7 : type_of% (@swc _ _ c38_7.eq_1) := @swc _ _ c38_7.eq_1
def c38_8 : SC := (.seq (.reg [SO.mk (some 25) (.move (.tmp 3)) none, SO.mk (some 26) (.bin .eql 30 (.tmp 25) (.const (Value.int .i64 0))) none]) (.keep [26, 2, 0] c38_7))
theorem u38_8 : type_of% (@swc _ _ c38_8.eq_1) := @swc _ _ c38_8.eq_1
def c38_9 : SC := (.seq (.reg [SO.mk (some 21) (.move (.tmp 0)) none, SO.mk (some 22) (.move (.tmp 3)) none, SO.mk (some 23) (.nilCheck (.tmp 21)) none, SO.mk (some 24) (.faddr 72 (.tmp 23) 2) none, SO.mk none (.store 30 (.tmp 24) (.tmp 22)) none]) (.keep [3, 2, 0] c38_8))
theorem u38_9 : type_of% (@swc _ _ c38_9.eq_1) := @swc _ _ c38_9.eq_1
def c38_10 : SC := (.seq (.dreg false o38_5 [SO.mk none (.store 28 (.tmp 2) (.tmp 19)) none, SO.mk (some 3) (.move (.tmp 20)) none]) (.keep [3, 2, 0] c38_9))
theorem u38_10 : type_of% (@swc _ _ c38_10.eq_1) := @swc _ _ c38_10.eq_1
def c38 : SC := (.seq (.seq (.reg [SO.mk (some 4) (.move (.tmp 0)) none, SO.mk (some 5) (.nilCheck (.tmp 4)) none, SO.mk (some 6) (.faddr 72 (.tmp 5) 2) none, SO.mk (some 7) (.load 30 (.tmp 6)) none, SO.mk (some 8) (.bin .neq 30 (.tmp 7) (.const (Value.int .i64 0))) none]) (.keep [8, 0] c38_1)) (.keep [0] c38_10))
theorem c38_eq : annC Try.f38 = some c38 := by kernel_rfl
theorem r38 : Try.f38.results.toList = [] := by kernel_rfl
theorem e38 : enters Try.prog 38 = true := by kernel_rfl
def c39_1 : SC := (.seq (.dreg true [SO.mk (some 13) (.move (.tmp 0)) none, SO.mk (some 14) (.nilCheck (.tmp 13)) none, SO.mk (some 15) (.faddr 72 (.tmp 14) 1) none, SO.mk (some 16) (.load 28 (.tmp 15)) none, SO.mk (some 17) (.load 45 (.tmp 3)) none] [SO.mk none (.store 28 (.tmp 4) (.tmp 16)) none, SO.mk none (.store 45 (.tmp 5) (.tmp 17)) none, SO.mk (some 6) (.move (.const (Value.int .i64 0))) none]) (.keep [4, 5, 6] .ret))
theorem u39_1 : type_of% (@swc _ _ c39_1.eq_1) := @swc _ _ c39_1.eq_1
def o39_2 : List SO := ((SO.mk (some 24) (.build 45 []) none) :: (SO.mk none (.store 28 (.tmp 4) (.tmp 23)) none) :: (SO.mk none (.store 45 (.tmp 5) (.tmp 24)) none) :: (SO.mk (some 6) (.move (.const (Value.int .i64 10))) none) :: [])
theorem v39_2 : type_of% (@swl _ _ o39_2.eq_1) := @swl _ _ o39_2.eq_1
def c39_3 : SC := (.seq (.reg ((SO.mk (some 20) (.move (.tmp 0)) none) :: (SO.mk (some 21) (.nilCheck (.tmp 20)) none) :: (SO.mk (some 22) (.faddr 72 (.tmp 21) 1) none) :: (SO.mk (some 23) (.load 28 (.tmp 22)) none) :: o39_2)) (.keep [4, 5, 6] .ret))
theorem u39_3 : type_of% (@swc _ _ c39_3.eq_1) := @swc _ _ c39_3.eq_1
def c39_4 : SC := (.cond (.tmp 18) c39_3 .skip)
theorem u39_4 : type_of% (@swc _ _ c39_4.eq_1) := @swc _ _ c39_4.eq_1
def c39_5 : SC := (.seq (.reg [SO.mk (some 19) (.bin .eql 30 (.tmp 10) (.const (Value.int .i64 10))) none, SO.mk (some 18) (.move (.tmp 19)) none]) (.keep [18, 0, 4, 5] c39_4))
theorem u39_5 : type_of% (@swc _ _ c39_5.eq_1) := @swc _ _ c39_5.eq_1
def c39_6 : SC := (.cond (.tmp 11) c39_1 c39_5)
theorem u39_6 : type_of% (@swc _ _ c39_6.eq_1) := @swc _ _ c39_6.eq_1
def c39_7 : SC := (.block 0 (.seq (.reg [SO.mk (some 12) (.bin .eql 30 (.tmp 10) (.const (Value.int .i64 0))) none, SO.mk (some 11) (.move (.tmp 12)) none]) (.keep [11, 3, 10, 0, 4, 5] c39_6)))
theorem u39_7 : type_of% (@swc _ _ c39_7.eq_1) := @swc _ _ c39_7.eq_1
def c39_8 : SC := (.seq (.dreg true [SO.mk (some 25) (.build 28 []) none, SO.mk (some 26) (.build 45 []) none, SO.mk (some 27) (.move (.tmp 0)) none, SO.mk (some 28) (.nilCheck (.tmp 27)) none, SO.mk (some 29) (.faddr 72 (.tmp 28) 2) none, SO.mk (some 30) (.load 30 (.tmp 29)) none] [SO.mk none (.store 28 (.tmp 4) (.tmp 25)) none, SO.mk none (.store 45 (.tmp 5) (.tmp 26)) none, SO.mk (some 6) (.move (.tmp 30)) none]) (.keep [4, 5, 6] .ret))
theorem u39_8 : type_of% (@swc _ _ c39_8.eq_1) := @swc _ _ c39_8.eq_1
def c39_9 : SC := (.seq (.seq (.reg [SO.mk (some 7) (.move (.tmp 0)) none, SO.mk (some 8) (.nilCheck (.tmp 7)) none, SO.mk (some 9) (.faddr 72 (.tmp 8) 2) none, SO.mk (some 10) (.load 30 (.tmp 9)) none]) (.keep [3, 10, 0, 4, 5] c39_7)) (.keep [0, 4, 5] c39_8))
theorem u39_9 : type_of% (@swc _ _ c39_9.eq_1) := @swc _ _ c39_9.eq_1
def c39 : SC := (.seq (.reg [SO.mk (some 3) (.box 45 (.tmp 1)) none, SO.mk (some 4) (.alloc 28) none, SO.mk (some 5) (.alloc 45) none, SO.mk (some 6) (.move (.const (Value.int .i64 0))) none]) (.keep [3, 0, 4, 5] c39_9))
theorem c39_eq : annC Try.f39 = some c39 := by kernel_rfl
theorem r39 : Try.f39.results.toList = [.cell 4 28, .cell 5 45, .tmp 6] := by kernel_rfl
theorem e39 : enters Try.prog 39 = true := by kernel_rfl
end Go.Proofs.Ytalhjhmphdgaoaa
namespace Go.Proofs.Ytalhjhmphdgaoaa
open Go.RowKit
set_option maxHeartbeats 4000000
set_option maxRecDepth 20000
attribute [local irreducible] SW SWL SWLn SWD SEcall SEcallv SDv SE SO1 SOg ACalls ACallv Wk EndV
set_option linter.unusedSimpArgs false
set_option linter.unusedVariables false
theorem ACalls.nz {P : Program} {f : FuncId} {args : List AV} {σ : Sto} {B : Nat} {T : List Nat} {R : AV → Sto → Prop} (h : ACalls P f (args.map AV.nz) σ B T R) : ACalls P f args σ B T R := by
  unfold ACalls at h ⊢
  have up : ∀ xs w K, Pre args σ B xs w K → Pre (args.map AV.nz) σ B xs w K := fun xs w K ⟨h1, h2, h3, h4⟩ => ⟨h1, h2, by simpa using h3, fun i c x hc hx => by
    rw [List.getElem?_map] at hc
    cases hci : args[i]? with
    | none => simp [hci] at hc
    | some c0 => simp only [hci, Option.map_some, Option.some.injEq] at hc; subst hc; exact (h4 i c0 x hci hx).nz⟩
  intro xs w ⟨K, hK⟩
  refine (h xs w ⟨K, up _ _ _ hK⟩).mono ?_
  rintro e w' ⟨x, v, σ', h1, h2, h3⟩
  exact ⟨x, v, σ', h1, h2, fun K hK => h3 K (up _ _ _ hK)⟩
theorem Pure.nz {P : Program} {f : FuncId} {args : List AV} {v : AV} (h : Pure P f (args.map AV.nz) v) : Pure P f args v := by
  unfold Pure at h ⊢
  intro B σ; exact (h B σ).nz
theorem pureY_ofC {C : Sto → Prop} {P : Program} {f : FuncId} {fn : Func} {args : List AV} {v : AV} {sc : SC} {rs : List ResultVar} (hm : P.follows .mixedOrders = true) (hf : P.funcs[f]? = some fn) (hc : annC fn = some sc) (hr : fn.results.toList = rs) (hn : args.length ≤ fn.ntmps)
    (h : ∀ B σ, C σ → ClosedS B σ → (∀ c ∈ args, c.sz) → SW P B [] σ sc (HQ (EndY P B σ rs fun v' σ' => v' = v ∧ σ' = σ)) (entry 0 args) []) : PureC C P f args v := by
  unfold PureC
  intro B σ hC
  refine own_of hm hf hc hr hn fun hcl hsz => ?_
  unfold HQ
  refine SW_mono sc (fun e a l h => ?_) (h B σ hC hcl hsz)
  unfold HQ at h
  unfold EndW
  cases e
  · exact ⟨_, _, Wk.nzL _ _ _ _ _, h⟩
  · exact ⟨_, _, Wk.nzL _ _ _ _ _, h⟩
  · exact h
def handO (g : GeoD) (s : DevD × Int) : AO := .box [I g.ring, I g.area, I g.hot, I g.volume, I g.volumes, .d (.ro (s.1.safe.map secRow)), .d (.ro (s.1.cache.map WrD.row)), .d (.ro (s.1.vols.map VolD.row)), I s.1.fuel, I s.2]
theorem sto_same {n : Nat} {o o' : AO} {σ : Sto} (h : σ n = o) (h2 : o = o') : σ = sto [(n, o')] σ := by
  funext m
  simp only [sto]
  split
  · rename_i e; subst e; rw [h, h2]
  · rfl
theorem step_stop {g : GeoD} {s : DevD × Int} {t : TodD} (h : (s.2 != 0) = true) : stepF g s t = s := by unfold stepF; rw [h]; rfl
theorem step_go {g : GeoD} {d : DevD} {t : TodD} {e e0 : Int} (h : (e0 != 0) = false) (he : stepE g d t = e) (h0 : (e == 0) = true) : stepF g (d, e0) t = (stepD g d t, e) := by
  have : e = 0 := by simpa using h0
  subst this
  have : e0 = 0 := by simpa using h
  subst this
  unfold stepF; simp only [he]; rfl
theorem step_no {g : GeoD} {d : DevD} {t : TodD} {e e0 : Int} (h : (e0 != 0) = false) (he : stepE g d t = e) (h0 : (e == 0) = false) : stepF g (d, e0) t = (d, e) := by
  have : e0 = 0 := by simpa using h
  subst this
  unfold stepF; simp only [he, h0]; rfl
theorem hput_p (g : GeoD) (s : DevD × Int) (at_ : Int) (b : List UInt8) (hw : s.1.fit) (B : Nat) (σ : Sto) (n : Nat) (hn : n < B) (hσ : σ n = handO g s) : ACalls Try.prog 36 [.lp n 0, I at_, .d (bytes b)] σ B [] (fun v σ' => v = .tup [] ∧ σ' = sto [(n, handO g (stepF g s ⟨false, at_, b⟩))] σ) := by
  refine own_of follows Try.func36 c36_eq r36 (Nat.le_of_ble_eq_true rfl) fun hcl hsz => ?_
  clear hsz
  obtain ⟨d, e0⟩ := s
  have y1 : ∀ s, (n = B + s) = False := fun s => by simp; omega
  have y2 : ∀ s, (B + s = n) = False := fun s => by simp; omega
  have y3 : (n < B) = True := eq_true hn
  have y4 : decide (n < B) = true := by simpa using hn
  have hσ' := hσ
  unfold handO at hσ'
  simp only at hσ' hw
  clear hσ
  have y5 : decide (n < B + 100000) = true := by simp; omega
  repeat' (first | (simp -implicitDefEqProofs only [*, contN, contC, Nat.reduceBEq, Bool.or_false, Bool.or_true, Bool.false_or, Bool.true_or, Bool.not_true, Bool.not_false, w_skip, w_ret, w_exit, w_reg, w_dreg, w_seq, SK_n, SK_r, SK_x, w_keep, w_block, w_cond, w_nil, w_cons, w_consg, w_nnil, w_ncons, w_dnil, w_dcons, w_dconsg, HK_app, HD_app, HQ_n, HQ_r, HQ_x, HQ_bn, HQ_br, HQ_bx, HQ_en, HQ_er, HQ_ex, CondB_true, CondB_false, SO1, w_sdv, SDe_alloc, SDe_box, SDe_bslice, SDe_app, true_imp_iff, false_imp_iff, and_false, false_and, not_false_eq_true, not_true_eq_false, addN, mkNames, killT, killD, killO, List.foldl_nil, List.foldl_cons, List.append_nil, List.nil_append, List.cons_append, GuardS_true, GuardS_false, GuardD_true, GuardD_false, DK_true, DK_false, lt_self_add, le_self_add, decide_true, decide_false, Bool.false_eq_true, Bool.true_eq_false, Nat.add_left_cancel_iff, SE, SEalloc, SEbox, SEstore, w_bs, SEbl, SEfz, SEbs0, fzName, osOf, AV.fz1, w_app, w_mk, aev, opd, Fr.get, putO, Fr.norm, List.map_cons, List.map_nil, with1, with2, onInt, AV.lit, entry, ↓reduceIte, Nat.reduceEqDiff, Nat.reduceAdd, reduceCtorEq, true_and, and_true, Option.map_some, Option.map_none, Option.bind_some, Option.bind_none, cond_true, cond_false, binV, unV, fieldV, loadV, sto, cellsAV, newF, newL, Fr.map, Loc.kill, Loc.set, AO.kill, AV.kill, AV.mapN, AV.mapNL, List.filter_nil, List.filter_cons, allP, EndV, retV, resV, resL, frz, dropL, AV.pick, nilV, tupV, imp_self, ne_eq, Int.cast_ofNat_Int, Int.reduceLT, Int.reduceToNat, List.getD_cons_zero, List.getD_cons_succ, bsliceV, buildV, afill, repl, chunk, rvs, AV.rv, RV.nrm, List.getElem?_nil, List.append_assoc, Nat.reduceMul, Nat.reducePow, Nat.zero_lt_succ, Nat.zero_add, Nat.add_zero, List.length_cons, List.length_nil, Nat.reduceLeDiff, Nat.le_refl, List.take_succ_cons, List.take_zero, List.drop_succ_cons, List.drop_zero, indexV, lenV, rowOf_mapD, rowOf_mapI, rowOf_mapA, List.length_map, Int.toNat_natCast, List.getElem?_cons_zero, List.getElem?_cons_succ, and_self, implies_true, if_true, if_false, HQ_zn, HQ_zr, HQ_wn, HQ_wr, AV.nz, AV.nzL, RV.nrm, SEbin, SEnil, nilK, srcV, dstV, appName, List.length_append, Nat.mul_one, take_map_len, take_map_app, List.getElem?_cons_zero, List.map_append, SEmkmap, SEmset, mgetV, kvOf, getM, setM, c36, r36, u36_1, v36_2, v36_3, v36_4, v36_5, m36_5, u36_6, u36_7, u36_8, u36_9, u36_10, ty72, ty30, ty23, ty28, y1, y2, y3, y4, GeoD.av, DevD.av, bytes, bne_self_eq_false]) | (with_reducible refine And.intro ?_ ?_) | (refine call_ro e61 ( put_p g d at_ b hw) rfl ?_ ?_ ?_ ?_) | (refine gcall_ro e61 ( put_p g d at_ b hw) rfl ?_ ?_ ?_ ?_) | (refine dcall_ro e61 ( put_p g d at_ b hw) rfl ?_ ?_ ?_ ?_) | (refine gdcall_ro rfl e61 ( put_p g d at_ b hw) rfl ?_ ?_ ?_ ?_) | (refine EndX.plain ?_) | (refine nil_split (fun hn => ?_) (fun hn => ?_)) | (refine gcall_no not_false ?_) | (refine gdcall_no not_false ?_) | (refine GuardS_of _ _ _ _ _ _ (fun hg => ?_) (fun hg => ?_)) | (refine GuardD_of _ _ _ _ (fun hg => ?_) (fun hg => ?_)) | (refine CondB_of _ _ _ _ _ _ _ ?_ (fun hg => ?_) (fun hg => ?_)))
  all_goals (try (first | ((first | unfold noN | unfold Fr.below | unfold Loc.below); simp [Fr.allN, AV.allN, AV.allNL, AO.allN]; done) | rfl | trivial | assumption | (intro row hrow; simp only [List.mem_map] at hrow; obtain ⟨x, _, rfl⟩ := hrow; rfl) | (refine Wk.keep hcl ?_ ?_ ?_; (focus (simp [Fr.get, y1, y2, y3, y4, GeoD.av, DevD.av, bytes, bne_self_eq_false] <;> fail)); (focus (simp [sto, y1, y2, y3, y4, GeoD.av, DevD.av, bytes, bne_self_eq_false] <;> fail)); (focus (simp <;> fail))) | (simp [allP, opd, Fr.get, Fr.below, Fr.allN, AV.allN, AV.allNL, Loc.below, AO.allN, noN, killO, killT, killD, mkNames, AO.kill, AV.kill, AV.mapN, AV.mapNL]; done) | (with_reducible exact ltD (by assumption)) | omega | (simp only [decide_eq_true_eq, decide_eq_false_iff_not] at *; omega)))
  all_goals (try (first
    | (simp [avName, loadNames, opd, Fr.get, y1, y2]; done)
    | (simp [noN, Fr.below, Loc.below, Fr.allN, AV.allN, AV.allNL, AO.allN, y5, y1]; done)))
  all_goals first
    | (rw [step_stop (by assumption)]; exact sto_same hσ' rfl)
    | (rw [step_go (by assumption) rfl (by assumption)]; rfl)
    | (rw [step_no (by assumption) rfl (by assumption)]; rfl)
theorem hflush_p (g : GeoD) (s : DevD × Int) (hw : s.1.fit) (B : Nat) (σ : Sto) (n : Nat) (hn : n < B) (hσ : σ n = handO g s) : ACalls Try.prog 38 [.lp n 0] σ B [] (fun v σ' => v = .tup [] ∧ σ' = sto [(n, handO g (stepF g s ⟨true, 0, []⟩))] σ) := by
  refine own_of follows Try.func38 c38_eq r38 (Nat.le_of_ble_eq_true rfl) fun hcl hsz => ?_
  clear hsz
  obtain ⟨d, e0⟩ := s
  have y1 : ∀ s, (n = B + s) = False := fun s => by simp; omega
  have y2 : ∀ s, (B + s = n) = False := fun s => by simp; omega
  have y3 : (n < B) = True := eq_true hn
  have y4 : decide (n < B) = true := by simpa using hn
  have hσ' := hσ
  unfold handO at hσ'
  simp only at hσ' hw
  clear hσ
  have y5 : decide (n < B + 100000) = true := by simp; omega
  repeat' (first | (simp -implicitDefEqProofs only [*, contN, contC, Nat.reduceBEq, Bool.or_false, Bool.or_true, Bool.false_or, Bool.true_or, Bool.not_true, Bool.not_false, w_skip, w_ret, w_exit, w_reg, w_dreg, w_seq, SK_n, SK_r, SK_x, w_keep, w_block, w_cond, w_nil, w_cons, w_consg, w_nnil, w_ncons, w_dnil, w_dcons, w_dconsg, HK_app, HD_app, HQ_n, HQ_r, HQ_x, HQ_bn, HQ_br, HQ_bx, HQ_en, HQ_er, HQ_ex, CondB_true, CondB_false, SO1, w_sdv, SDe_alloc, SDe_box, SDe_bslice, SDe_app, true_imp_iff, false_imp_iff, and_false, false_and, not_false_eq_true, not_true_eq_false, addN, mkNames, killT, killD, killO, List.foldl_nil, List.foldl_cons, List.append_nil, List.nil_append, List.cons_append, GuardS_true, GuardS_false, GuardD_true, GuardD_false, DK_true, DK_false, lt_self_add, le_self_add, decide_true, decide_false, Bool.false_eq_true, Bool.true_eq_false, Nat.add_left_cancel_iff, SE, SEalloc, SEbox, SEstore, w_bs, SEbl, SEfz, SEbs0, fzName, osOf, AV.fz1, w_app, w_mk, aev, opd, Fr.get, putO, Fr.norm, List.map_cons, List.map_nil, with1, with2, onInt, AV.lit, entry, ↓reduceIte, Nat.reduceEqDiff, Nat.reduceAdd, reduceCtorEq, true_and, and_true, Option.map_some, Option.map_none, Option.bind_some, Option.bind_none, cond_true, cond_false, binV, unV, fieldV, loadV, sto, cellsAV, newF, newL, Fr.map, Loc.kill, Loc.set, AO.kill, AV.kill, AV.mapN, AV.mapNL, List.filter_nil, List.filter_cons, allP, EndV, retV, resV, resL, frz, dropL, AV.pick, nilV, tupV, imp_self, ne_eq, Int.cast_ofNat_Int, Int.reduceLT, Int.reduceToNat, List.getD_cons_zero, List.getD_cons_succ, bsliceV, buildV, afill, repl, chunk, rvs, AV.rv, RV.nrm, List.getElem?_nil, List.append_assoc, Nat.reduceMul, Nat.reducePow, Nat.zero_lt_succ, Nat.zero_add, Nat.add_zero, List.length_cons, List.length_nil, Nat.reduceLeDiff, Nat.le_refl, List.take_succ_cons, List.take_zero, List.drop_succ_cons, List.drop_zero, indexV, lenV, rowOf_mapD, rowOf_mapI, rowOf_mapA, List.length_map, Int.toNat_natCast, List.getElem?_cons_zero, List.getElem?_cons_succ, and_self, implies_true, if_true, if_false, HQ_zn, HQ_zr, HQ_wn, HQ_wr, AV.nz, AV.nzL, RV.nrm, SEbin, SEnil, nilK, srcV, dstV, appName, List.length_append, Nat.mul_one, take_map_len, take_map_app, List.getElem?_cons_zero, List.map_append, SEmkmap, SEmset, mgetV, kvOf, getM, setM, c38, r38, u38_1, v38_2, v38_3, v38_4, v38_5, m38_5, u38_6, u38_7, u38_8, u38_9, u38_10, ty72, ty30, ty23, ty28, y1, y2, y3, y4, GeoD.av, DevD.av, bytes, bne_self_eq_false]) | (with_reducible refine And.intro ?_ ?_) | (refine call_ro e64 ( flush_p g d hw) rfl ?_ ?_ ?_ ?_) | (refine gcall_ro e64 ( flush_p g d hw) rfl ?_ ?_ ?_ ?_) | (refine dcall_ro e64 ( flush_p g d hw) rfl ?_ ?_ ?_ ?_) | (refine gdcall_ro rfl e64 ( flush_p g d hw) rfl ?_ ?_ ?_ ?_) | (refine EndX.plain ?_) | (refine nil_split (fun hn => ?_) (fun hn => ?_)) | (refine gcall_no not_false ?_) | (refine gdcall_no not_false ?_) | (refine GuardS_of _ _ _ _ _ _ (fun hg => ?_) (fun hg => ?_)) | (refine GuardD_of _ _ _ _ (fun hg => ?_) (fun hg => ?_)) | (refine CondB_of _ _ _ _ _ _ _ ?_ (fun hg => ?_) (fun hg => ?_)))
  all_goals (try (first | ((first | unfold noN | unfold Fr.below | unfold Loc.below); simp [Fr.allN, AV.allN, AV.allNL, AO.allN]; done) | rfl | trivial | assumption | (intro row hrow; simp only [List.mem_map] at hrow; obtain ⟨x, _, rfl⟩ := hrow; rfl) | (refine Wk.keep hcl ?_ ?_ ?_; (focus (simp [Fr.get, y1, y2, y3, y4, GeoD.av, DevD.av, bytes, bne_self_eq_false] <;> fail)); (focus (simp [sto, y1, y2, y3, y4, GeoD.av, DevD.av, bytes, bne_self_eq_false] <;> fail)); (focus (simp <;> fail))) | (simp [allP, opd, Fr.get, Fr.below, Fr.allN, AV.allN, AV.allNL, Loc.below, AO.allN, noN, killO, killT, killD, mkNames, AO.kill, AV.kill, AV.mapN, AV.mapNL]; done) | (with_reducible exact ltD (by assumption)) | omega | (simp only [decide_eq_true_eq, decide_eq_false_iff_not] at *; omega)))
  all_goals (try (first
    | (simp [avName, loadNames, opd, Fr.get, y1, y2]; done)
    | (simp [noN, Fr.below, Loc.below, Fr.allN, AV.allN, AV.allNL, AO.allN, y5, y1]; done)))
  all_goals first
    | (rw [step_stop (by assumption)]; exact sto_same hσ' rfl)
    | (rw [step_go (by assumption) rfl (by assumption)]; rfl)
    | (rw [step_no (by assumption) rfl (by assumption)]; rfl)
theorem hend_p (g : GeoD) (s : DevD × Int) (j : JrnD) (n : Nat) : PureC (fun σ => σ n = handO g s) Try.prog 39 [.lp n 0, .agg [I j.gen, I j.epoch, I j.area, I j.length, I j.start, I j.first, I j.place, I j.next, I j.used]] (doneV s j) := by
  refine pureY_ofC follows Try.func39 c39_eq r39 (Nat.le_of_ble_eq_true rfl) fun B σ hC hcl _ => ?_
  have hn : n < B := by
    rcases Nat.lt_or_ge n B with h | h
    · exact h
    · rw [(hcl n).2 h] at hC; cases hC
  have y1 : ∀ s, (n = B + s) = False := fun s => by simp; omega
  have y2 : ∀ s, (B + s = n) = False := fun s => by simp; omega
  have y3 : (n < B) = True := eq_true hn
  obtain ⟨d, e0⟩ := s
  unfold handO at hC
  simp only at hC
  have y5 : decide (n < B + 100000) = true := by simp; omega
  repeat' (first | (simp -implicitDefEqProofs only [*, contN, contC, Nat.reduceBEq, Bool.or_false, Bool.or_true, Bool.false_or, Bool.true_or, Bool.not_true, Bool.not_false, w_skip, w_ret, w_exit, w_reg, w_dreg, w_seq, SK_n, SK_r, SK_x, w_keep, w_block, w_cond, w_nil, w_cons, w_consg, w_nnil, w_ncons, w_dnil, w_dcons, w_dconsg, HK_app, HD_app, HQ_n, HQ_r, HQ_x, HQ_bn, HQ_br, HQ_bx, HQ_en, HQ_er, HQ_ex, CondB_true, CondB_false, SO1, w_sdv, SDe_alloc, SDe_box, SDe_bslice, SDe_app, true_imp_iff, false_imp_iff, and_false, false_and, not_false_eq_true, not_true_eq_false, addN, mkNames, killT, killD, killO, List.foldl_nil, List.foldl_cons, List.append_nil, List.nil_append, List.cons_append, GuardS_true, GuardS_false, GuardD_true, GuardD_false, DK_true, DK_false, lt_self_add, le_self_add, decide_true, decide_false, Bool.false_eq_true, Bool.true_eq_false, Nat.add_left_cancel_iff, SE, SEalloc, SEbox, SEstore, w_bs, SEbl, SEfz, SEbs0, fzName, osOf, AV.fz1, w_app, w_mk, aev, opd, Fr.get, putO, Fr.norm, List.map_cons, List.map_nil, with1, with2, onInt, AV.lit, entry, ↓reduceIte, Nat.reduceEqDiff, Nat.reduceAdd, reduceCtorEq, true_and, and_true, Option.map_some, Option.map_none, Option.bind_some, Option.bind_none, cond_true, cond_false, binV, unV, fieldV, loadV, sto, cellsAV, newF, newL, Fr.map, Loc.kill, Loc.set, AO.kill, AV.kill, AV.mapN, AV.mapNL, List.filter_nil, List.filter_cons, allP, EndV, retV, resV, resL, frz, dropL, AV.pick, nilV, tupV, imp_self, ne_eq, Int.cast_ofNat_Int, Int.reduceLT, Int.reduceToNat, List.getD_cons_zero, List.getD_cons_succ, bsliceV, buildV, afill, repl, chunk, rvs, AV.rv, RV.nrm, List.getElem?_nil, List.append_assoc, Nat.reduceMul, Nat.reducePow, Nat.zero_lt_succ, Nat.zero_add, Nat.add_zero, List.length_cons, List.length_nil, Nat.reduceLeDiff, Nat.le_refl, List.take_succ_cons, List.take_zero, List.drop_succ_cons, List.drop_zero, indexV, lenV, rowOf_mapD, rowOf_mapI, rowOf_mapA, List.length_map, Int.toNat_natCast, List.getElem?_cons_zero, List.getElem?_cons_succ, and_self, implies_true, if_true, if_false, HQ_zn, HQ_zr, HQ_wn, HQ_wr, AV.nz, AV.nzL, RV.nrm, SEbin, SEnil, nilK, srcV, dstV, appName, List.length_append, Nat.mul_one, take_map_len, take_map_app, List.getElem?_cons_zero, List.map_append, SEmkmap, SEmset, mgetV, kvOf, getM, setM, c39, r39, u39_1, v39_2, u39_3, u39_4, u39_5, u39_6, u39_7, u39_8, u39_9, ty45, ty28, ty72, ty30, y1, y2, y3, GeoD.av, DevD.av, bytes, bne_self_eq_false, HQ_yn, HQ_yr, Loc.nz, AO.nz]) | (with_reducible refine And.intro ?_ ?_) | (refine EndX.plain ?_) | (refine nil_split (fun hn => ?_) (fun hn => ?_)) | (refine gcall_no not_false ?_) | (refine gdcall_no not_false ?_) | (refine GuardS_of _ _ _ _ _ _ (fun hg => ?_) (fun hg => ?_)) | (refine GuardD_of _ _ _ _ (fun hg => ?_) (fun hg => ?_)) | (refine CondB_of _ _ _ _ _ _ _ ?_ (fun hg => ?_) (fun hg => ?_)))
  all_goals (try (first | ((first | unfold noN | unfold Fr.below | unfold Loc.below); simp [Fr.allN, AV.allN, AV.allNL, AO.allN]; done) | rfl | trivial | assumption | (intro row hrow; simp only [List.mem_map] at hrow; obtain ⟨x, _, rfl⟩ := hrow; rfl) | (refine Wk.keep hcl ?_ ?_ ?_; (focus (simp [Fr.get, y1, y2, y3, GeoD.av, DevD.av, bytes, bne_self_eq_false, HQ_yn, HQ_yr, Loc.nz, AO.nz] <;> fail)); (focus (simp [sto, y1, y2, y3, GeoD.av, DevD.av, bytes, bne_self_eq_false, HQ_yn, HQ_yr, Loc.nz, AO.nz] <;> fail)); (focus (simp <;> fail))) | (simp [allP, opd, Fr.get, Fr.below, Fr.allN, AV.allN, AV.allNL, Loc.below, AO.allN, noN, killO, killT, killD, mkNames, AO.kill, AV.kill, AV.mapN, AV.mapNL]; done) | (with_reducible exact ltD (by assumption)) | omega | (simp only [decide_eq_true_eq, decide_eq_false_iff_not] at *; omega)))
  all_goals (try (first
    | (simp [avName, loadNames, opd, Fr.get, y1, y2]; done)
    | (simp [noN, Fr.below, Loc.below, Fr.allN, AV.allN, AV.allNL, AO.allN, y5, y1]; done)))
  all_goals first
    | (have h0 : e0 = 0 := by simpa using (by assumption : (e0 == 0) = true)
       subst h0; rfl)
    | (have h0 : e0 = 10 := by simpa using (by assumption : (e0 == 10) = true)
       subst h0; rfl)
    | exact done_e rfl (by assumption) (by simpa using (by assumption : (e0 == 0) = false))
theorem handO_allN (g : GeoD) (s : DevD × Int) (q : Nat → Bool) : (handO g s).allN q = true := rfl
theorem handO_kill (g : GeoD) (s : DevD × Int) (n : Nat) : (handO g s).kill n = handO g s := rfl
theorem handO_nz (g : GeoD) (s : DevD × Int) : (handO g s).nz = handO g s := rfl
end Go.Proofs.Ytalhjhmphdgaoaa
