/- Bytes put one behind the other by slices.Concat. -/
import Derived.Test.YtalhjhmphdgaoaaBytes
import Derived.Test.YtalhjhmphdgaoaaTypes
namespace Go.Proofs.Ytalhjhmphdgaoaa
open Go.RowKit
set_option maxRecDepth 100000
def c76_1 : SC := (.reg [SO.mk (some 7) .bad none, SO.mk none .bad none])
theorem u76_1 : type_of% (@swc _ _ c76_1.eq_1) := @swc _ _ c76_1.eq_1
def c76_2 : SC := (.cond (.tmp 6) c76_1 .skip)
theorem u76_2 : type_of% (@swc _ _ c76_2.eq_1) := @swc _ _ c76_2.eq_1
def o76_3 : List SO := ((SO.mk (some 12) (.len 29 (.tmp 11)) none) :: (SO.mk (some 13) (.bin .sub 3 (.tmp 10) (.tmp 12)) none) :: (SO.mk (some 14) (.bin .sub 3 (.tmp 8) (.tmp 13)) none) :: (SO.mk (some 1) (.move (.tmp 14)) none) :: [])
theorem v76_3 : type_of% (@swl _ _ o76_3.eq_1) := @swl _ _ o76_3.eq_1
def o76_4 : List SO := ((SO.mk (some 25) (.slice 29 (.tmp 22) none (some (.tmp 24))) none) :: (SO.mk (some 0) (.move (.tmp 25)) none) :: [])
theorem v76_4 : type_of% (@swl _ _ o76_4.eq_1) := @swl _ _ o76_4.eq_1
def o76_5 : List SO := ((SO.mk (some 21) (.move (.tmp 1)) none) :: (SO.mk (some 22) (.app 29 3 (.tmp 20) (.tmp 21)) none) :: (SO.mk (some 23) (.move (.tmp 0)) none) :: (SO.mk (some 24) (.len 29 (.tmp 23)) none) :: o76_4)
theorem v76_5 : type_of% (@swl _ _ o76_5.eq_1) := @swl _ _ o76_5.eq_1
def c76_6 : SC := (.reg ((SO.mk (some 17) (.move (.tmp 0)) none) :: (SO.mk (some 18) (.move (.tmp 0)) none) :: (SO.mk (some 19) (.cap 29 (.tmp 18)) none) :: (SO.mk (some 20) (.slice 29 (.tmp 17) none (some (.tmp 19))) none) :: o76_5))
theorem u76_6 : type_of% (@swc _ _ c76_6.eq_1) := @swc _ _ c76_6.eq_1
def c76_7 : SC := (.cond (.tmp 16) c76_6 .skip)
theorem u76_7 : type_of% (@swc _ _ c76_7.eq_1) := @swc _ _ c76_7.eq_1
def c76_8 : SC := (.seq (.reg [SO.mk (some 15) (.move (.tmp 1)) none, SO.mk (some 16) (.bin .gtr 3 (.tmp 15) (.const (Value.int .i64 0))) none]) (.keep [16, 1, 0] c76_7))
theorem u76_8 : type_of% (@swc _ _ c76_8.eq_1) := @swc _ _ c76_8.eq_1
def c76_9 : SC := (.seq (.reg [SO.mk (some 26) (.move (.tmp 0)) none, SO.mk (some 4) (.move (.tmp 26)) none]) (.keep [4] .ret))
theorem u76_9 : type_of% (@swc _ _ c76_9.eq_1) := @swc _ _ c76_9.eq_1
def c76_10 : SC := (.seq (.seq (.reg ((SO.mk (some 8) (.move (.tmp 1)) none) :: (SO.mk (some 9) (.move (.tmp 0)) none) :: (SO.mk (some 10) (.cap 29 (.tmp 9)) none) :: (SO.mk (some 11) (.move (.tmp 0)) none) :: o76_3)) (.keep [1, 0] c76_8)) (.keep [0] c76_9))
theorem u76_10 : type_of% (@swc _ _ c76_10.eq_1) := @swc _ _ c76_10.eq_1
def c76_11 : SC := (.seq (.seq (.reg [SO.mk (some 5) (.move (.tmp 1)) none, SO.mk (some 6) (.bin .lss 3 (.tmp 5) (.const (Value.int .i64 0))) none]) (.keep [6, 1, 0] c76_2)) (.keep [1, 0] c76_10))
theorem u76_11 : type_of% (@swc _ _ c76_11.eq_1) := @swc _ _ c76_11.eq_1
def c76 : SC := (.seq (.reg [SO.mk (some 4) (.move (.const (Value.slice none 0 0))) none]) (.keep [1, 0] c76_11))
theorem c76_eq : annC Try.f76 = some c76 := by kernel_rfl
theorem r76 : Try.f76.results.toList = [.tmp 4] := by kernel_rfl
theorem e76 : enters Try.prog 76 = true := by kernel_rfl
def c62_1 : SC := (.reg [SO.mk (some 21) .bad none, SO.mk none .bad none])
theorem u62_1 : type_of% (@swc _ _ c62_1.eq_1) := @swc _ _ c62_1.eq_1
def c62_2 : SC := (.cond (.tmp 20) c62_1 .skip)
theorem u62_2 : type_of% (@swc _ _ c62_2.eq_1) := @swc _ _ c62_2.eq_1
def c62_3 : SC := (.seq (.reg [SO.mk (some 19) (.move (.tmp 3)) none, SO.mk (some 20) (.bin .lss 3 (.tmp 19) (.const (Value.int .i64 0))) none]) (.keep [20, 11, 10, 9, 3, 0] c62_2))
theorem u62_3 : type_of% (@swc _ _ c62_3.eq_1) := @swc _ _ c62_3.eq_1
def c62_4 : SC := (.seq (.reg [SO.mk (some 15) (.move (.tmp 3)) none, SO.mk (some 16) (.move (.tmp 5)) none, SO.mk (some 17) (.len 29 (.tmp 16)) none, SO.mk (some 18) (.bin .add 3 (.tmp 15) (.tmp 17)) none, SO.mk (some 3) (.move (.tmp 18)) none]) (.keep [11, 10, 9, 3, 0] c62_3))
theorem u62_4 : type_of% (@swc _ _ c62_4.eq_1) := @swc _ _ c62_4.eq_1
def c62_5 : SC := (.reg [SO.mk (some 22) (.bin .add 3 (.tmp 11) (.const (Value.int .i64 1))) none, SO.mk (some 11) (.move (.tmp 22)) none])
theorem u62_5 : type_of% (@swc _ _ c62_5.eq_1) := @swc _ _ c62_5.eq_1
def c62_6 : SC := (.seq (.block 1 (.seq (.reg [SO.mk (some 13) (.iaddr 24 (.tmp 9) (.tmp 11)) none, SO.mk (some 14) (.load 29 (.tmp 13)) none, SO.mk (some 5) (.move (.tmp 14)) none]) (.keep [3, 5, 11, 10, 9, 0] c62_4))) (.keep [11, 10, 9, 3, 0] c62_5))
theorem u62_6 : type_of% (@swc _ _ c62_6.eq_1) := @swc _ _ c62_6.eq_1
def c62_7 : SC := (.seq (.cond (.tmp 12) .skip (.exit 0)) (.keep [3, 11, 10, 9, 0] c62_6))
theorem u62_7 : type_of% (@swc _ _ c62_7.eq_1) := @swc _ _ c62_7.eq_1
def c62_8 : SC := (.seq (.reg [SO.mk (some 12) (.bin .lss 3 (.tmp 11) (.tmp 10)) none]) (.keep [12, 9, 10, 11, 3, 0] c62_7))
theorem u62_8 : type_of% (@swc _ _ c62_8.eq_1) := @swc _ _ c62_8.eq_1
def c62_9 : SC := (.block 0 (.loop (.keep [9, 10, 11, 3, 0] c62_8)))
theorem u62_9 : type_of% (@swc _ _ c62_9.eq_1) := @swc _ _ c62_9.eq_1
def c62_10 : SC := (.reg [SO.mk (some 31) (.move (.tmp 6)) none, SO.mk (some 32) (.move (.tmp 8)) none, SO.mk (some 33) (.app 29 29 (.tmp 31) (.tmp 32)) none, SO.mk (some 6) (.move (.tmp 33)) none])
theorem u62_10 : type_of% (@swc _ _ c62_10.eq_1) := @swc _ _ c62_10.eq_1
def c62_11 : SC := (.reg [SO.mk (some 34) (.bin .add 3 (.tmp 27) (.const (Value.int .i64 1))) none, SO.mk (some 27) (.move (.tmp 34)) none])
theorem u62_11 : type_of% (@swc _ _ c62_11.eq_1) := @swc _ _ c62_11.eq_1
def c62_12 : SC := (.seq (.block 3 (.seq (.reg [SO.mk (some 29) (.iaddr 24 (.tmp 25) (.tmp 27)) none, SO.mk (some 30) (.load 29 (.tmp 29)) none, SO.mk (some 8) (.move (.tmp 30)) none]) (.keep [6, 8, 27, 26, 25] c62_10))) (.keep [27, 26, 25, 6] c62_11))
theorem u62_12 : type_of% (@swc _ _ c62_12.eq_1) := @swc _ _ c62_12.eq_1
def c62_13 : SC := (.seq (.cond (.tmp 28) .skip (.exit 2)) (.keep [6, 27, 26, 25] c62_12))
theorem u62_13 : type_of% (@swc _ _ c62_13.eq_1) := @swc _ _ c62_13.eq_1
def c62_14 : SC := (.seq (.reg [SO.mk (some 28) (.bin .lss 3 (.tmp 27) (.tmp 26)) none]) (.keep [28, 25, 26, 27, 6] c62_13))
theorem u62_14 : type_of% (@swc _ _ c62_14.eq_1) := @swc _ _ c62_14.eq_1
def c62_15 : SC := (.block 2 (.loop (.keep [25, 26, 27, 6] c62_14)))
theorem u62_15 : type_of% (@swc _ _ c62_15.eq_1) := @swc _ _ c62_15.eq_1
def c62_16 : SC := (.seq (.reg [SO.mk (some 35) (.move (.tmp 6)) none, SO.mk (some 2) (.move (.tmp 35)) none]) (.keep [2] .ret))
theorem u62_16 : type_of% (@swc _ _ c62_16.eq_1) := @swc _ _ c62_16.eq_1
def c62_17 : SC := (.seq (.seq (.reg [SO.mk (some 25) (.move (.tmp 0)) none, SO.mk (some 26) (.len 24 (.tmp 25)) none, SO.mk (some 27) (.move (.const (Value.int .i64 0))) none]) (.keep [25, 26, 27, 6] c62_15)) (.keep [6] c62_16))
theorem u62_17 : type_of% (@swc _ _ c62_17.eq_1) := @swc _ _ c62_17.eq_1
def c62_18 : SC := (.seq (.reg [SO.mk (some 23) (.move (.tmp 3)) none, SO.mk (some 24) (.call 76 [(.const (Value.slice none 0 0)), (.tmp 23)]) none, SO.mk (some 6) (.move (.tmp 24)) none]) (.keep [0, 6] c62_17))
theorem u62_18 : type_of% (@swc _ _ c62_18.eq_1) := @swc _ _ c62_18.eq_1
def c62_19 : SC := (.seq (.seq (.reg [SO.mk (some 9) (.move (.tmp 0)) none, SO.mk (some 10) (.len 24 (.tmp 9)) none, SO.mk (some 11) (.move (.const (Value.int .i64 0))) none]) (.keep [9, 10, 11, 3, 0] c62_9)) (.keep [3, 0] c62_18))
theorem u62_19 : type_of% (@swc _ _ c62_19.eq_1) := @swc _ _ c62_19.eq_1
def c62_20 : SC := (.seq (.reg [SO.mk (some 3) (.move (.const (Value.int .i64 0))) none]) (.keep [3, 0] c62_19))
theorem u62_20 : type_of% (@swc _ _ c62_20.eq_1) := @swc _ _ c62_20.eq_1
def c62 : SC := (.seq (.reg [SO.mk (some 2) (.move (.const (Value.slice none 0 0))) none]) (.keep [0] c62_20))
theorem c62_eq : annC Try.f62 = some c62 := by kernel_rfl
theorem r62 : Try.f62.results.toList = [.tmp 2] := by kernel_rfl
theorem e62 : enters Try.prog 62 = true := by kernel_rfl
end Go.Proofs.Ytalhjhmphdgaoaa
namespace Go.Proofs.Ytalhjhmphdgaoaa
open Go.RowKit
set_option maxHeartbeats 4000000
set_option maxRecDepth 20000
attribute [local irreducible] SW SWL SWLn SWD SEcall SEcallv SDv SE SO1 SOg ACalls ACallv Wk EndV
set_option linter.unusedSimpArgs false
set_option linter.unusedVariables false
theorem EndX.of2 {P : Program} {B : Nat} {T : List Nat} {r : Sto} {rs : List ResultVar} {R : AV → Sto → Prop} {a a' : Fr} {l l' : Loc} (h : Wk B T r a l a' l') (h2 : EndV P B r rs R a' l') : EndX P B T r rs R a l := by
  unfold EndX; exact ⟨a', l', h, h2⟩
theorem nbC {m B : Nat} (h : m < B) (s : Nat) : (m = B + s) = False := by simp; omega
theorem nbC' {m B : Nat} (h : m < B) (s : Nat) : (B + s = m) = False := by simp; omega
def zr (n : Nat) : List (List RV) := List.replicate n [.v (.int .u8 0)]
theorem zr_eq (n : Nat) : List.replicate n [RV.v (.int .u8 0)] = zr n := rfl
theorem zr_len (n : Nat) : (zr n).length = n := by simp [zr]
theorem w0 : IntKind.i64.wrap 0 = 0 := rfl
theorem grow_own (n : Nat) (hn : n ≤ 2 ^ 47) (B : Nat) (σ : Sto) (m : Nat) (hm : m < B) (hk : ∀ x, (σ x).kill m = σ x) : ACalls Try.prog 76 [.d (.v (.slice none 0 0)), I n] σ B [m] (fun v σ' => v = .os m 0 ∧ σ' = sto [(m, .arr 1 5 (zr n))] σ) := by
  refine own_of follows Try.func76 c76_eq r76 (Nat.le_of_ble_eq_true rfl) fun hcl hsz => ?_
  clear hsz
  have y1 := nbC hm
  have y4 := nbC' hm
  have y7 : (B ≤ m) = False := by simp; omega
  have n7 : B + 22 ≠ m := by omega
  have hwn : IntKind.i64.wrap ((n : Int) - 0) = (n : Int) := by rw [Int.sub_zero]; exact IntWalk.i64_in _ (by omega)
  have hwn' : IntKind.i64.wrap (n : Int) = (n : Int) := IntWalk.i64_in _ (by omega)
  have hn0 : decide ((n : Int) < 0) = false := by simp
  repeat' (first | (simp -implicitDefEqProofs only [*, contN, contC, Nat.reduceBEq, Bool.or_false, Bool.or_true, Bool.false_or, Bool.true_or, Bool.not_true, Bool.not_false, w_skip, w_ret, w_exit, w_reg, w_dreg, w_seq, SK_n, SK_r, SK_x, w_keep, w_block, w_cond, w_nil, w_cons, w_consg, w_nnil, w_ncons, w_dnil, w_dcons, w_dconsg, HK_app, HD_app, HQ_n, HQ_r, HQ_x, HQ_bn, HQ_br, HQ_bx, HQ_en, HQ_er, HQ_ex, CondB_true, CondB_false, SO1, w_sdv, SDe_alloc, SDe_box, SDe_bslice, SDe_app, true_imp_iff, false_imp_iff, and_false, false_and, not_false_eq_true, not_true_eq_false, addN, mkNames, killT, killD, killO, List.foldl_nil, List.foldl_cons, List.append_nil, List.nil_append, List.cons_append, GuardS_true, GuardS_false, GuardD_true, GuardD_false, DK_true, DK_false, lt_self_add, le_self_add, decide_true, decide_false, Bool.false_eq_true, Bool.true_eq_false, Nat.add_left_cancel_iff, SE, SEalloc, SEbox, SEstore, w_bs, SEbl, SEfz, SEbs0, fzName, osOf, AV.fz1, w_app, w_mk, aev, opd, Fr.get, putO, Fr.norm, List.map_cons, List.map_nil, with1, with2, onInt, AV.lit, entry, ↓reduceIte, Nat.reduceEqDiff, Nat.reduceAdd, reduceCtorEq, true_and, and_true, Option.map_some, Option.map_none, Option.bind_some, Option.bind_none, cond_true, cond_false, binV, unV, fieldV, loadV, sto, cellsAV, newF, newL, Fr.map, Loc.kill, Loc.set, AO.kill, AV.kill, AV.mapN, AV.mapNL, List.filter_nil, List.filter_cons, allP, EndV, retV, resV, resL, frz, dropL, AV.pick, nilV, tupV, imp_self, ne_eq, Int.cast_ofNat_Int, Int.reduceLT, Int.reduceToNat, List.getD_cons_zero, List.getD_cons_succ, bsliceV, buildV, afill, repl, chunk, rvs, AV.rv, RV.nrm, List.getElem?_nil, List.append_assoc, Nat.reduceMul, Nat.reducePow, Nat.zero_lt_succ, Nat.zero_add, Nat.add_zero, List.length_cons, List.length_nil, Nat.reduceLeDiff, Nat.le_refl, List.take_succ_cons, List.take_zero, List.drop_succ_cons, List.drop_zero, indexV, lenV, rowOf_mapD, rowOf_mapI, rowOf_mapA, List.length_map, Int.toNat_natCast, List.getElem?_cons_zero, List.getElem?_cons_succ, and_self, implies_true, if_true, if_false, HQ_zn, HQ_zr, HQ_wn, HQ_wr, AV.nz, AV.nzL, RV.nrm, SEbin, SEnil, nilK, srcV, dstV, appName, List.length_append, Nat.mul_one, take_map_len, take_map_app, List.getElem?_cons_zero, List.map_append, SEmkmap, SEmset, mgetV, kvOf, getM, setM, c76, r76, u76_1, u76_2, v76_3, v76_4, v76_5, u76_6, u76_7, u76_8, u76_9, u76_10, u76_11, ty3, ty29, ty5, SEcap, bnd, sliceV, Option.getD_some, Option.getD_none, w0, Int.sub_self, Int.sub_zero, zr_eq, zr_len, AV.ren, y1, y4, y7, n7]) | (with_reducible refine And.intro ?_ ?_) | (refine EndX.of2 (Wk.nameF (s := 4) (n := m) (k := 1) (E := 5) rfl (by omega) (.inr (by simp)) hk) ?_) | (refine EndX.of2 (Wk.ren (n := B + 22) (m := m) (l1 := []) (k := 1) (E := 5) (rows := zr n) hcl (by omega) n7 (.inr (by simp)) hk (by simp [sto]) (by simp) (by simp)) ?_) | (refine EndX.plain ?_) | (refine nil_split (fun hn => ?_) (fun hn => ?_)) | (refine gcall_no not_false ?_) | (refine gdcall_no not_false ?_) | (refine GuardS_of _ _ _ _ _ _ (fun hg => ?_) (fun hg => ?_)) | (refine GuardD_of _ _ _ _ (fun hg => ?_) (fun hg => ?_)) | (refine CondB_of _ _ _ _ _ _ _ ?_ (fun hg => ?_) (fun hg => ?_)))
  all_goals (try (first | ((first | unfold noN | unfold Fr.below | unfold Loc.below); simp [Fr.allN, AV.allN, AV.allNL, AO.allN]; done) | rfl | trivial | assumption | (intro row hrow; simp only [List.mem_map] at hrow; obtain ⟨x, _, rfl⟩ := hrow; rfl) | (refine Wk.keep hcl ?_ ?_ ?_; (focus (simp [Fr.get, SEcap, bnd, sliceV, Option.getD_some, Option.getD_none, w0, Int.sub_self, Int.sub_zero, zr_eq, zr_len, AV.ren, y1, y4, y7, n7] <;> fail)); (focus (simp [sto, SEcap, bnd, sliceV, Option.getD_some, Option.getD_none, w0, Int.sub_self, Int.sub_zero, zr_eq, zr_len, AV.ren, y1, y4, y7, n7] <;> fail)); (focus (simp <;> fail))) | (simp [allP, opd, Fr.get, Fr.below, Fr.allN, AV.allN, AV.allNL, Loc.below, AO.allN, noN, killO, killT, killD, mkNames, AO.kill, AV.kill, AV.mapN, AV.mapNL]; done) | (with_reducible exact ltD (by assumption)) | omega | (simp only [decide_eq_true_eq, decide_eq_false_iff_not] at *; omega)))
  all_goals first
    | (intro row hrow; have := List.eq_of_mem_replicate hrow; subst this; rfl)
    | (have h0 : n = 0 := by simp at hg; omega
       subst h0; rfl)
def exZ (k n : Nat) : List (List RV) := match k with
  | 0 => zr n
  | _ => []
theorem exZ_zero (n : Nat) : exZ 0 n = zr n := rfl
theorem exZ_succ (k n : Nat) : exZ (k + 1) n = [] := rfl
theorem cat_take (ls : List (List UInt8)) (k n : Nat) : List.take (catN ls k).length ((catN ls k).map by_ ++ exZ k n) = (catN ls k).map by_ := by
  rw [List.take_append_of_le_length (by simp), List.take_of_length_le (by simp)]
theorem cat_zero (ls : List (List UInt8)) : catN ls 0 = [] := rfl
theorem cat_all (ls : List (List UInt8)) {k : Nat} (h : decide ((k : Int) < ls.length) = false) : catN ls k = ls.flatten := by
  have : ls.length ≤ k := by simp at h; omega
  simp only [catN, List.take_of_length_le this]
theorem cat_w {ls : List (List UInt8)} (hs : ls.flatten.length ≤ 2 ^ 47) {k : Nat} (h : decide ((k : Int) < ls.length) = true) : IntKind.i64.wrap (((catN ls k).length : Int) + (ls[k]!.length : Int)) = ((catN ls (k + 1)).length : Int) := by
  have hk : k < ls.length := by simp at h; omega
  have h1 := catN_le hk
  have h2 := catN_next hk
  rw [h2, List.length_append, IntWalk.i64_in _ (by omega)]; omega
theorem nn0 (n : Nat) : decide ((n : Int) < 0) = false := by simp
theorem cat_rest {ls : List (List UInt8)} (n : Nat) (k : Nat) : (catN ls k).length ≤ ((catN ls k).map by_ ++ exZ k n).length := by simp
theorem concat_p (ls : List (List UInt8)) (hs : ls.flatten.length ≤ 2 ^ 47) : Pure Try.prog 62 [.d (.ro (ls.map secRow))] (.d (bytes ls.flatten)) := by
  refine pureZ_of follows Try.func62 c62_eq r62 (Nat.le_of_ble_eq_true rfl) fun B σ hcl hsz => ?_
  have hlen : ls.length ≤ 2 ^ 47 := by simpa using (show Sized (.ro (ls.map secRow)) from hsz (.d (.ro (ls.map secRow))) (by simp)).len
  clear hsz
  have q1 : ∀ k : Nat, decide ((k : Int) < ls.length) = true → IntKind.i64.wrap (((catN ls k).length : Int) + (ls[k]!.length : Int)) = ((catN ls (k + 1)).length : Int) := fun k hk => cat_w hs hk
  repeat' (first | (simp -implicitDefEqProofs only [*, contN, contC, Nat.reduceBEq, Bool.or_false, Bool.or_true, Bool.false_or, Bool.true_or, Bool.not_true, Bool.not_false, w_skip, w_ret, w_exit, w_reg, w_dreg, w_seq, SK_n, SK_r, SK_x, w_keep, w_block, w_cond, w_nil, w_cons, w_consg, w_nnil, w_ncons, w_dnil, w_dcons, w_dconsg, HK_app, HD_app, HQ_n, HQ_r, HQ_x, HQ_bn, HQ_br, HQ_bx, HQ_en, HQ_er, HQ_ex, CondB_true, CondB_false, SO1, w_sdv, SDe_alloc, SDe_box, SDe_bslice, SDe_app, true_imp_iff, false_imp_iff, and_false, false_and, not_false_eq_true, not_true_eq_false, addN, mkNames, killT, killD, killO, List.foldl_nil, List.foldl_cons, List.append_nil, List.nil_append, List.cons_append, GuardS_true, GuardS_false, GuardD_true, GuardD_false, DK_true, DK_false, lt_self_add, le_self_add, decide_true, decide_false, Bool.false_eq_true, Bool.true_eq_false, Nat.add_left_cancel_iff, SE, SEalloc, SEbox, SEstore, w_bs, SEbl, SEfz, SEbs0, fzName, osOf, AV.fz1, w_app, w_mk, aev, opd, Fr.get, putO, Fr.norm, List.map_cons, List.map_nil, with1, with2, onInt, AV.lit, entry, ↓reduceIte, Nat.reduceEqDiff, Nat.reduceAdd, reduceCtorEq, true_and, and_true, Option.map_some, Option.map_none, Option.bind_some, Option.bind_none, cond_true, cond_false, binV, unV, fieldV, loadV, sto, cellsAV, newF, newL, Fr.map, Loc.kill, Loc.set, AO.kill, AV.kill, AV.mapN, AV.mapNL, List.filter_nil, List.filter_cons, allP, EndV, retV, resV, resL, frz, dropL, AV.pick, nilV, tupV, imp_self, ne_eq, Int.cast_ofNat_Int, Int.reduceLT, Int.reduceToNat, List.getD_cons_zero, List.getD_cons_succ, bsliceV, buildV, afill, repl, chunk, rvs, AV.rv, RV.nrm, List.getElem?_nil, List.append_assoc, Nat.reduceMul, Nat.reducePow, Nat.zero_lt_succ, Nat.zero_add, Nat.add_zero, List.length_cons, List.length_nil, Nat.reduceLeDiff, Nat.le_refl, List.take_succ_cons, List.take_zero, List.drop_succ_cons, List.drop_zero, indexV, lenV, rowOf_mapD, rowOf_mapI, rowOf_mapA, List.length_map, Int.toNat_natCast, List.getElem?_cons_zero, List.getElem?_cons_succ, and_self, implies_true, if_true, if_false, HQ_zn, HQ_zr, HQ_wn, HQ_wr, AV.nz, AV.nzL, RV.nrm, SEbin, SEnil, nilK, srcV, dstV, appName, List.length_append, Nat.mul_one, take_map_len, take_map_app, List.getElem?_cons_zero, List.map_append, SEmkmap, SEmset, mgetV, kvOf, getM, setM, c62, r62, u62_1, u62_2, u62_3, u62_4, u62_5, u62_6, u62_7, u62_8, u62_9, u62_10, u62_11, u62_12, u62_13, u62_14, u62_15, u62_16, u62_17, u62_18, u62_19, u62_20, ty24, ty3, ty29, ty5, secRow, bytes, nn0, cat_all, cat_take, cat_zero, exZ_zero, exZ_succ]) | (with_reducible refine And.intro ?_ ?_) | (refine call_own [B + 90001] [(B + 90001, .arr 1 5 (zr ls.flatten.length))] e76 (grow_own ls.flatten.length hs _ _ (B + 90001) (by omega) (sto_all (q := fun o => o.kill (B + 90001) = o) (by simp) fun n => AO.kill_below (q := fun m => decide (m < B)) (by simp) _ (hcl n).1)) rfl ?_ ?_ ?_ ?_ ?_) | (refine loop_nat (ls.length) (fun _ => True) (fun k => [(9, .d (.ro (ls.map secRow))), (10, I ls.length), (11, I k), (3, I (catN ls k).length), (0, .d (.ro (ls.map secRow)))]) (fun k => []) ?_ (Wk.keep hcl ?_ ?_ ?_) fun k hk hF => ?_; rotate_left 1; (focus (simp [Fr.get, newF, Fr.map, AV.kill, AV.mapN, secRow, bytes, nn0, cat_all, cat_take, cat_zero, exZ_zero, exZ_succ] <;> fail)); (focus (simp [sto, newL, Loc.kill, Loc.set, AO.kill, AV.kill, AV.mapN, secRow, bytes, nn0, cat_all, cat_take, cat_zero, exZ_zero, exZ_succ] <;> fail)); (focus (simp [newL, Loc.kill, Loc.set, secRow, bytes, nn0, cat_all, cat_take, cat_zero, exZ_zero, exZ_succ] <;> fail)); (try have hw : IntKind.i64.wrap ((k : Int) + 1) = (k : Int) + 1 := IntWalk.i64_in _ (by omega))) | (refine loop_nat (ls.length) (fun _ => True) (fun k => [(25, .d (.ro (ls.map secRow))), (26, I ls.length), (27, I k), (6, .os (B + 90001) (catN ls k).length)]) (fun k => [(B + 90001, .arr 1 5 ((catN ls k).map by_ ++ exZ k ls.flatten.length))]) ?_ (Wk.keep hcl ?_ ?_ ?_) fun k hk hF => ?_; rotate_left 1; (focus (simp [Fr.get, newF, Fr.map, AV.kill, AV.mapN, secRow, bytes, nn0, cat_all, cat_take, cat_zero, exZ_zero, exZ_succ] <;> fail)); (focus (simp [sto, newL, Loc.kill, Loc.set, AO.kill, AV.kill, AV.mapN, secRow, bytes, nn0, cat_all, cat_take, cat_zero, exZ_zero, exZ_succ] <;> fail)); (focus (simp [newL, Loc.kill, Loc.set, secRow, bytes, nn0, cat_all, cat_take, cat_zero, exZ_zero, exZ_succ] <;> fail)); (try have hw : IntKind.i64.wrap ((k : Int) + 1) = (k : Int) + 1 := IntWalk.i64_in _ (by omega))) | (refine EndX.plain ?_) | (refine nil_split (fun hn => ?_) (fun hn => ?_)) | (refine gcall_no not_false ?_) | (refine gdcall_no not_false ?_) | (refine GuardS_of _ _ _ _ _ _ (fun hg => ?_) (fun hg => ?_)) | (refine GuardD_of _ _ _ _ (fun hg => ?_) (fun hg => ?_)) | (refine CondB_of _ _ _ _ _ _ _ ?_ (fun hg => ?_) (fun hg => ?_)))
  all_goals (try (first | ((first | unfold noN | unfold Fr.below | unfold Loc.below); simp [Fr.allN, AV.allN, AV.allNL, AO.allN]; done) | rfl | trivial | assumption | (intro row hrow; simp only [List.mem_map] at hrow; obtain ⟨x, _, rfl⟩ := hrow; rfl) | (refine Wk.keep hcl ?_ ?_ ?_; (focus (simp [Fr.get, secRow, bytes, nn0, cat_all, cat_take, cat_zero, exZ_zero, exZ_succ] <;> fail)); (focus (simp [sto, secRow, bytes, nn0, cat_all, cat_take, cat_zero, exZ_zero, exZ_succ] <;> fail)); (focus (simp <;> fail))) | (simp [allP, opd, Fr.get, Fr.below, Fr.allN, AV.allN, AV.allNL, Loc.below, AO.allN, noN, killO, killT, killD, mkNames, AO.kill, AV.kill, AV.mapN, AV.mapNL]; done) | (with_reducible exact ltD (by assumption)) | omega | (simp only [decide_eq_true_eq, decide_eq_false_iff_not] at *; omega)))
  all_goals first
    | exact cat_rest _ _
    | (have hk : k < ls.length := by simp at hg; omega
       have h1 := catN_le hk
       omega)
    | (have hk : k < ls.length := by simp at hg; omega
       rw [catN_next hk]
       refine Wk.keep hcl (by simp [Fr.get]) (by simp [sto]) (by simp))
    | (rw [List.take_append_of_le_length (by rw [List.length_map]; exact Nat.le_refl _), List.take_of_length_le (by rw [List.length_map]; exact Nat.le_refl _)])
end Go.Proofs.Ytalhjhmphdgaoaa
