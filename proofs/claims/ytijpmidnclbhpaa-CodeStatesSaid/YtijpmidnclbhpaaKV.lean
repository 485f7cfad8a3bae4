/- The writer's version. -/
import Derived.Test.YtijpmidnclbhpaaKX
import Derived.Test.YtijpmidnclbhpaaTypes
namespace Go.Proofs.Ytijpmidnclbhpaa
open Go.RowKit
set_option maxRecDepth 100000
def c15_1 : SC := (.reg [SO.mk (some 48) (.move (.tmp 0)) none, SO.mk (some 49) (.faddr 51 (.tmp 3) 11) none, SO.mk (some 50) (.load 3 (.tmp 49)) none, SO.mk (some 51) (.call 12 [(.tmp 48), (.tmp 50), (.const (Value.int .i64 4))]) none])
theorem u15_1 : type_of% (@swc _ _ c15_1.eq_1) := @swc _ _ c15_1.eq_1
def c15_2 : SC := (.seq (.reg [SO.mk (some 44) (.move (.tmp 0)) none, SO.mk (some 45) (.faddr 51 (.tmp 3) 10) none, SO.mk (some 46) (.load 3 (.tmp 45)) none, SO.mk (some 47) (.call 12 [(.tmp 44), (.tmp 46), (.const (Value.int .i64 2))]) none]) (.keep [0, 3] c15_1))
theorem u15_2 : type_of% (@swc _ _ c15_2.eq_1) := @swc _ _ c15_2.eq_1
def c15_3 : SC := (.seq (.reg [SO.mk (some 40) (.move (.tmp 0)) none, SO.mk (some 41) (.faddr 51 (.tmp 3) 9) none, SO.mk (some 42) (.load 3 (.tmp 41)) none, SO.mk (some 43) (.call 12 [(.tmp 40), (.tmp 42), (.const (Value.int .i64 1))]) none]) (.keep [0, 3] c15_2))
theorem u15_3 : type_of% (@swc _ _ c15_3.eq_1) := @swc _ _ c15_3.eq_1
def c15_4 : SC := (.seq (.reg [SO.mk (some 36) (.move (.tmp 0)) none, SO.mk (some 37) (.faddr 51 (.tmp 3) 8) none, SO.mk (some 38) (.load 26 (.tmp 37)) none, SO.mk (some 39) (.call 18 [(.tmp 36), (.tmp 38)]) none]) (.keep [0, 3] c15_3))
theorem u15_4 : type_of% (@swc _ _ c15_4.eq_1) := @swc _ _ c15_4.eq_1
def c15_5 : SC := (.seq (.reg [SO.mk (some 32) (.move (.tmp 0)) none, SO.mk (some 33) (.faddr 51 (.tmp 3) 7) none, SO.mk (some 34) (.load 3 (.tmp 33)) none, SO.mk (some 35) (.call 12 [(.tmp 32), (.tmp 34), (.const (Value.int .i64 1))]) none]) (.keep [0, 3] c15_4))
theorem u15_5 : type_of% (@swc _ _ c15_5.eq_1) := @swc _ _ c15_5.eq_1
def c15_6 : SC := (.seq (.reg [SO.mk (some 28) (.move (.tmp 0)) none, SO.mk (some 29) (.faddr 51 (.tmp 3) 6) none, SO.mk (some 30) (.load 3 (.tmp 29)) none, SO.mk (some 31) (.call 12 [(.tmp 28), (.tmp 30), (.const (Value.int .i64 4))]) none]) (.keep [0, 3] c15_5))
theorem u15_6 : type_of% (@swc _ _ c15_6.eq_1) := @swc _ _ c15_6.eq_1
def c15_7 : SC := (.seq (.reg [SO.mk (some 24) (.move (.tmp 0)) none, SO.mk (some 25) (.faddr 51 (.tmp 3) 5) none, SO.mk (some 26) (.load 3 (.tmp 25)) none, SO.mk (some 27) (.call 12 [(.tmp 24), (.tmp 26), (.const (Value.int .i64 2))]) none]) (.keep [0, 3] c15_6))
theorem u15_7 : type_of% (@swc _ _ c15_7.eq_1) := @swc _ _ c15_7.eq_1
def c15_8 : SC := (.seq (.reg [SO.mk (some 20) (.move (.tmp 0)) none, SO.mk (some 21) (.faddr 51 (.tmp 3) 4) none, SO.mk (some 22) (.load 4 (.tmp 21)) none, SO.mk (some 23) (.call 57 [(.tmp 20), (.tmp 22)]) none]) (.keep [0, 3] c15_7))
theorem u15_8 : type_of% (@swc _ _ c15_8.eq_1) := @swc _ _ c15_8.eq_1
def c15_9 : SC := (.seq (.reg [SO.mk (some 16) (.move (.tmp 0)) none, SO.mk (some 17) (.faddr 51 (.tmp 3) 3) none, SO.mk (some 18) (.load 4 (.tmp 17)) none, SO.mk (some 19) (.call 57 [(.tmp 16), (.tmp 18)]) none]) (.keep [0, 3] c15_8))
theorem u15_9 : type_of% (@swc _ _ c15_9.eq_1) := @swc _ _ c15_9.eq_1
def c15_10 : SC := (.seq (.reg [SO.mk (some 12) (.move (.tmp 0)) none, SO.mk (some 13) (.faddr 51 (.tmp 3) 2) none, SO.mk (some 14) (.load 9 (.tmp 13)) none, SO.mk (some 15) (.call 13 [(.tmp 12), (.tmp 14)]) none]) (.keep [0, 3] c15_9))
theorem u15_10 : type_of% (@swc _ _ c15_10.eq_1) := @swc _ _ c15_10.eq_1
def c15_11 : SC := (.seq (.reg [SO.mk (some 8) (.move (.tmp 0)) none, SO.mk (some 9) (.faddr 51 (.tmp 3) 1) none, SO.mk (some 10) (.load 9 (.tmp 9)) none, SO.mk (some 11) (.call 13 [(.tmp 8), (.tmp 10)]) none]) (.keep [0, 3] c15_10))
theorem u15_11 : type_of% (@swc _ _ c15_11.eq_1) := @swc _ _ c15_11.eq_1
def c15_12 : SC := (.seq (.reg [SO.mk (some 4) (.move (.tmp 0)) none, SO.mk (some 5) (.faddr 51 (.tmp 3) 0) none, SO.mk (some 6) (.load 3 (.tmp 5)) none, SO.mk (some 7) (.call 12 [(.tmp 4), (.tmp 6), (.const (Value.int .i64 3))]) none]) (.keep [0, 3] c15_11))
theorem u15_12 : type_of% (@swc _ _ c15_12.eq_1) := @swc _ _ c15_12.eq_1
def c15 : SC := (.seq (.reg [SO.mk (some 3) (.box 51 (.tmp 1)) none]) (.keep [0, 3] c15_12))
theorem c15_eq : annC Try.f15 = some c15 := by kernel_rfl
theorem r15 : Try.f15.results.toList = [] := by kernel_rfl
theorem e15 : enters Try.prog 15 = true := by kernel_rfl
end Go.Proofs.Ytijpmidnclbhpaa
namespace Go.Proofs.Ytijpmidnclbhpaa
open Go.RowKit
set_option maxHeartbeats 4000000
set_option maxRecDepth 20000
attribute [local irreducible] SW SWL SWLn SWD SEcall SEcallv SDv SE SO1 SOg ACalls ACallv Wk EndV
set_option linter.unusedSimpArgs false
set_option linter.unusedVariables false
attribute [local irreducible] textB intsB bitB bigB verB b8 arO wrO
theorem ver_w (v : VerD) (h1 : v.bkt.size ≤ 2 ^ 40) (h2 : v.key.size ≤ 2 ^ 40) : Writes Try.prog 15 [v.avW] (verB v) := by
  intro B σ m n bs hW hb
  refine own_ofL [(m, arO bs), (n, wrO m bs)] (hid_sto hW.am hW.an) hid_closed follows Try.func15 c15_eq r15 (Nat.le_of_ble_eq_true rfl) fun hcl hsz => ?_
  clear hsz
  obtain ⟨hm, hn, ne, am, an, free⟩ := hW
  have y1 : ∀ s, (n = B + s) = False := fun s => by simp; omega
  have y2 : ∀ s, (B + s = n) = False := fun s => by simp; omega
  have y3 : ∀ s, (m = B + s) = False := fun s => by simp; omega
  have y4 : ∀ s, (B + s = m) = False := fun s => by simp; omega
  have y5 : (m < B) = True := eq_true hm
  have y6 : (n < B) = True := eq_true hn
  have y7 : (m = n) = False := eq_false ne
  have y8 : (n = m) = False := eq_false (fun e => ne e.symm)
  have y9 : decide (m < B + 100000) = true := by simp; omega
  have y10 : decide (n < B + 100000) = true := by simp; omega
  have y11 : (B ≤ m) = False := eq_false (by omega)
  have hr1 := hid_m m n σ
  have hr2 := hid_n m n σ
  have hr3 := hid_kill free
  unfold verB at hb
  repeat' (first | (simp -implicitDefEqProofs only [*, contN, contC, Nat.reduceBEq, Bool.or_false, Bool.or_true, Bool.false_or, Bool.true_or, Bool.not_true, Bool.not_false, SEconv, w_skip, w_ret, w_exit, w_reg, w_dreg, w_seq, SK_n, SK_r, SK_x, w_keep, w_block, w_cond, w_nil, w_cons, w_consg, w_nnil, w_ncons, w_dnil, w_dcons, w_dconsg, HK_app, HD_app, HQ_n, HQ_r, HQ_x, HQ_bn, HQ_br, HQ_bx, HQ_en, HQ_er, HQ_ex, CondB_true, CondB_false, SO1, w_sdv, SDe_alloc, SDe_box, SDe_bslice, SDe_app, true_imp_iff, false_imp_iff, and_false, false_and, not_false_eq_true, not_true_eq_false, addN, mkNames, killT, killD, killO, List.foldl_nil, List.foldl_cons, List.append_nil, List.nil_append, List.cons_append, GuardS_true, GuardS_false, GuardD_true, GuardD_false, DK_true, DK_false, lt_self_add, le_self_add, decide_true, decide_false, Bool.false_eq_true, Bool.true_eq_false, Nat.add_left_cancel_iff, SE, SEalloc, SEbox, SEstore, w_bs, SEbl, SEfz, SEbs0, fzName, osOf, AV.fz1, w_app, w_mk, aev, opd, Fr.get, putO, Fr.norm, List.map_cons, List.map_nil, with1, with2, onInt, AV.lit, entry, ↓reduceIte, Nat.reduceEqDiff, Nat.reduceAdd, reduceCtorEq, true_and, and_true, Option.map_some, Option.map_none, Option.bind_some, Option.bind_none, cond_true, cond_false, binV, unV, fieldV, loadV, sto, cellsAV, newF, newL, Fr.map, Loc.kill, Loc.set, AV.kill, AV.mapN, AV.mapNL, List.filter_nil, List.filter_cons, allP, EndV, retV, resV, resL, frz, dropL, AV.pick, nilV, tupV, imp_self, ne_eq, Int.cast_ofNat_Int, Int.reduceLT, Int.reduceToNat, List.getD_cons_zero, List.getD_cons_succ, bsliceV, buildV, afill, repl, chunk, rvs, AV.rv, RV.nrm, List.getElem?_nil, List.append_assoc, Nat.reduceMul, Nat.reducePow, Nat.zero_lt_succ, Nat.zero_add, Nat.add_zero, List.length_cons, List.length_nil, Nat.reduceLeDiff, Nat.le_refl, List.take_succ_cons, List.take_zero, List.drop_succ_cons, List.drop_zero, indexV, lenV, rowOf_mapD, rowOf_mapI, rowOf_mapA, List.length_map, Int.toNat_natCast, List.getElem?_cons_zero, List.getElem?_cons_succ, and_self, implies_true, if_true, if_false, HQ_zn, HQ_zr, HQ_wn, HQ_wr, AV.nz, AV.nzL, RV.nrm, SEbin, SEnil, nilK, srcV, dstV, appName, List.length_append, Nat.mul_one, take_map_len, take_map_app, List.getElem?_cons_zero, List.map_append, SEmkmap, SEmset, mgetV, kvOf, getM, setM, c15, r15, u15_1, u15_2, u15_3, u15_4, u15_5, u15_6, u15_7, u15_8, u15_9, u15_10, u15_11, u15_12, ty51, ty3, ty9, ty4, ty26, aokB, aokD, aokA, ↓arO_allN, ↓wrO_allN, ↓arO_kill, wrO_kill, wrL, y1, y2, y3, y4, y5, y6, y7, y8, y9, y10, y11, VerD.avW, VerD.row, ints]) | (with_reducible refine And.intro ?_ ?_) | (refine call_w0 (d := some 7) (by omega) (by omega) ne (fun _ => by simp) hr3 e12 ( put_w (v.id) 3 (by omega) (by omega)) rfl ?_ ?_ ?_ ?_ ?_ ?_) | (refine call_w1 (d := some 7) (by omega) (by omega) ne (fun _ => by simp) hr3 e12 ( put_w (v.id) 3 (by omega) (by omega)) rfl ?_ ?_ ?_ ?_ ?_ ?_) | (refine call_w2 (d := some 7) (by omega) (by omega) ne (fun _ => by simp) hr3 e12 ( put_w (v.id) 3 (by omega) (by omega)) rfl ?_ ?_ ?_ ?_ ?_ ?_) | (refine call_w0 (d := some 11) (by omega) (by omega) ne (fun _ => by simp) hr3 e13 ( text_w v.bkt h1) rfl ?_ ?_ ?_ ?_ ?_ ?_) | (refine call_w1 (d := some 11) (by omega) (by omega) ne (fun _ => by simp) hr3 e13 ( text_w v.bkt h1) rfl ?_ ?_ ?_ ?_ ?_ ?_) | (refine call_w2 (d := some 11) (by omega) (by omega) ne (fun _ => by simp) hr3 e13 ( text_w v.bkt h1) rfl ?_ ?_ ?_ ?_ ?_ ?_) | (refine call_w0 (d := some 15) (by omega) (by omega) ne (fun _ => by simp) hr3 e13 ( text_w v.key h2) rfl ?_ ?_ ?_ ?_ ?_ ?_) | (refine call_w1 (d := some 15) (by omega) (by omega) ne (fun _ => by simp) hr3 e13 ( text_w v.key h2) rfl ?_ ?_ ?_ ?_ ?_ ?_) | (refine call_w2 (d := some 15) (by omega) (by omega) ne (fun _ => by simp) hr3 e13 ( text_w v.key h2) rfl ?_ ?_ ?_ ?_ ?_ ?_) | (refine call_w0 (d := some 19) (by omega) (by omega) ne (fun _ => by simp) hr3 e57 ( bit_w v.null) rfl ?_ ?_ ?_ ?_ ?_ ?_) | (refine call_w1 (d := some 19) (by omega) (by omega) ne (fun _ => by simp) hr3 e57 ( bit_w v.null) rfl ?_ ?_ ?_ ?_ ?_ ?_) | (refine call_w2 (d := some 19) (by omega) (by omega) ne (fun _ => by simp) hr3 e57 ( bit_w v.null) rfl ?_ ?_ ?_ ?_ ?_ ?_) | (refine call_w0 (d := some 23) (by omega) (by omega) ne (fun _ => by simp) hr3 e57 ( bit_w v.mark) rfl ?_ ?_ ?_ ?_ ?_ ?_) | (refine call_w1 (d := some 23) (by omega) (by omega) ne (fun _ => by simp) hr3 e57 ( bit_w v.mark) rfl ?_ ?_ ?_ ?_ ?_ ?_) | (refine call_w2 (d := some 23) (by omega) (by omega) ne (fun _ => by simp) hr3 e57 ( bit_w v.mark) rfl ?_ ?_ ?_ ?_ ?_ ?_) | (refine call_w0 (d := some 27) (by omega) (by omega) ne (fun _ => by simp) hr3 e12 ( put_w (v.size) 2 (by omega) (by omega)) rfl ?_ ?_ ?_ ?_ ?_ ?_) | (refine call_w1 (d := some 27) (by omega) (by omega) ne (fun _ => by simp) hr3 e12 ( put_w (v.size) 2 (by omega) (by omega)) rfl ?_ ?_ ?_ ?_ ?_ ?_) | (refine call_w2 (d := some 27) (by omega) (by omega) ne (fun _ => by simp) hr3 e12 ( put_w (v.size) 2 (by omega) (by omega)) rfl ?_ ?_ ?_ ?_ ?_ ?_) | (refine call_w0 (d := some 31) (by omega) (by omega) ne (fun _ => by simp) hr3 e12 ( put_w (v.time) 4 (by omega) (by omega)) rfl ?_ ?_ ?_ ?_ ?_ ?_) | (refine call_w1 (d := some 31) (by omega) (by omega) ne (fun _ => by simp) hr3 e12 ( put_w (v.time) 4 (by omega) (by omega)) rfl ?_ ?_ ?_ ?_ ?_ ?_) | (refine call_w2 (d := some 31) (by omega) (by omega) ne (fun _ => by simp) hr3 e12 ( put_w (v.time) 4 (by omega) (by omega)) rfl ?_ ?_ ?_ ?_ ?_ ?_) | (refine call_w0 (d := some 35) (by omega) (by omega) ne (fun _ => by simp) hr3 e12 ( put1_w (v.tier)) rfl ?_ ?_ ?_ ?_ ?_ ?_) | (refine call_w1 (d := some 35) (by omega) (by omega) ne (fun _ => by simp) hr3 e12 ( put1_w (v.tier)) rfl ?_ ?_ ?_ ?_ ?_ ?_) | (refine call_w2 (d := some 35) (by omega) (by omega) ne (fun _ => by simp) hr3 e12 ( put1_w (v.tier)) rfl ?_ ?_ ?_ ?_ ?_ ?_) | (refine call_w0 (d := some 39) (by omega) (by omega) ne (fun _ => by simp) hr3 e18 ( ints_w v.secs) rfl ?_ ?_ ?_ ?_ ?_ ?_) | (refine call_w1 (d := some 39) (by omega) (by omega) ne (fun _ => by simp) hr3 e18 ( ints_w v.secs) rfl ?_ ?_ ?_ ?_ ?_ ?_) | (refine call_w2 (d := some 39) (by omega) (by omega) ne (fun _ => by simp) hr3 e18 ( ints_w v.secs) rfl ?_ ?_ ?_ ?_ ?_ ?_) | (refine call_w0 (d := some 43) (by omega) (by omega) ne (fun _ => by simp) hr3 e12 ( put1_w (v.vol)) rfl ?_ ?_ ?_ ?_ ?_ ?_) | (refine call_w1 (d := some 43) (by omega) (by omega) ne (fun _ => by simp) hr3 e12 ( put1_w (v.vol)) rfl ?_ ?_ ?_ ?_ ?_ ?_) | (refine call_w2 (d := some 43) (by omega) (by omega) ne (fun _ => by simp) hr3 e12 ( put1_w (v.vol)) rfl ?_ ?_ ?_ ?_ ?_ ?_) | (refine call_w0 (d := some 47) (by omega) (by omega) ne (fun _ => by simp) hr3 e12 ( put_w (v.pos) 2 (by omega) (by omega)) rfl ?_ ?_ ?_ ?_ ?_ ?_) | (refine call_w1 (d := some 47) (by omega) (by omega) ne (fun _ => by simp) hr3 e12 ( put_w (v.pos) 2 (by omega) (by omega)) rfl ?_ ?_ ?_ ?_ ?_ ?_) | (refine call_w2 (d := some 47) (by omega) (by omega) ne (fun _ => by simp) hr3 e12 ( put_w (v.pos) 2 (by omega) (by omega)) rfl ?_ ?_ ?_ ?_ ?_ ?_) | (refine call_w0 (d := some 51) (by omega) (by omega) ne (fun _ => by simp) hr3 e12 ( put_w (v.till) 4 (by omega) (by omega)) rfl ?_ ?_ ?_ ?_ ?_ ?_) | (refine call_w1 (d := some 51) (by omega) (by omega) ne (fun _ => by simp) hr3 e12 ( put_w (v.till) 4 (by omega) (by omega)) rfl ?_ ?_ ?_ ?_ ?_ ?_) | (refine call_w2 (d := some 51) (by omega) (by omega) ne (fun _ => by simp) hr3 e12 ( put_w (v.till) 4 (by omega) (by omega)) rfl ?_ ?_ ?_ ?_ ?_ ?_) | (refine EndX.plain ?_) | (refine nil_split (fun hn => ?_) (fun hn => ?_)) | (refine gcall_no not_false ?_) | (refine gdcall_no not_false ?_) | (refine GuardS_of _ _ _ _ _ _ (fun hg => ?_) (fun hg => ?_)) | (refine GuardD_of _ _ _ _ (fun hg => ?_) (fun hg => ?_)) | (refine CondB_of _ _ _ _ _ _ _ ?_ (fun hg => ?_) (fun hg => ?_)))
  all_goals first
    | trivial
    | (intro p hp; simp only [List.mem_cons, List.not_mem_nil, or_false] at hp; rcases hp with rfl | rfl <;> exact ⟨by simp [y3, y4], by simp [y1, y2], rfl⟩)
    | (intro p hp; simp only [List.mem_cons, List.not_mem_nil, or_false] at hp; subst hp; exact ⟨by simp [y3, y4], by simp [y1, y2], rfl⟩)
    | (unfold Fr.below; simp [Fr.allN, AV.allN, AV.allNL, y9, y10]; done)
    | (unfold Loc.below; simp only [List.all_cons, List.all_nil, arO_allN, wrO_allN, y9, y10]; simp [AO.allN, AV.allN, AV.allNL]; done)
    | (simp only [List.length_append, List.length_cons, List.length_nil] at hb ⊢; omega)
    | (refine wr_end3 ?_ ?_ ?_
       · simp [verB, List.append_assoc]
       · simp [verB, List.append_assoc, y8]
       · intro x z1 z2; simp [z1, z2, hid])
    | (simp [allP, opd, Fr.get]; done)
end Go.Proofs.Ytijpmidnclbhpaa
