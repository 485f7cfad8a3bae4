/- The writer's small calls. -/
import Derived.Test.YtijpmidnclbhpaaKY
import Derived.Test.YtijpmidnclbhpaaTypes
namespace Go.Proofs.Ytijpmidnclbhpaa
open Go.RowKit
set_option maxRecDepth 100000
def c17_1 : SC := (.reg [SO.mk (some 12) (.move (.tmp 0)) none, SO.mk (some 13) (.faddr 60 (.tmp 3) 2) none, SO.mk (some 14) (.load 3 (.tmp 13)) none, SO.mk (some 15) (.call 12 [(.tmp 12), (.tmp 14), (.const (Value.int .i64 1))]) none])
theorem u17_1 : type_of% (@swc _ _ c17_1.eq_1) := @swc _ _ c17_1.eq_1
def c17_2 : SC := (.seq (.reg [SO.mk (some 8) (.move (.tmp 0)) none, SO.mk (some 9) (.faddr 60 (.tmp 3) 1) none, SO.mk (some 10) (.load 3 (.tmp 9)) none, SO.mk (some 11) (.call 12 [(.tmp 8), (.tmp 10), (.const (Value.int .i64 2))]) none]) (.keep [0, 3] c17_1))
theorem u17_2 : type_of% (@swc _ _ c17_2.eq_1) := @swc _ _ c17_2.eq_1
def c17_3 : SC := (.seq (.reg [SO.mk (some 4) (.move (.tmp 0)) none, SO.mk (some 5) (.faddr 60 (.tmp 3) 0) none, SO.mk (some 6) (.load 3 (.tmp 5)) none, SO.mk (some 7) (.call 12 [(.tmp 4), (.tmp 6), (.const (Value.int .i64 3))]) none]) (.keep [0, 3] c17_2))
theorem u17_3 : type_of% (@swc _ _ c17_3.eq_1) := @swc _ _ c17_3.eq_1
def c17 : SC := (.seq (.reg [SO.mk (some 3) (.box 60 (.tmp 1)) none]) (.keep [0, 3] c17_3))
theorem c17_eq : annC Try.f17 = some c17 := by kernel_rfl
theorem r17 : Try.f17.results.toList = [] := by kernel_rfl
theorem e17 : enters Try.prog 17 = true := by kernel_rfl
def o13_1 : List SO := ((SO.mk (some 16) (.faddr 42 (.tmp 15) 0) none) :: (SO.mk none (.store 29 (.tmp 16) (.tmp 14)) none) :: [])
theorem v13_1 : type_of% (@swl _ _ o13_1.eq_1) := @swl _ _ o13_1.eq_1
def o13_2 : List SO := ((SO.mk (some 12) (.load 29 (.tmp 11)) none) :: (SO.mk (some 13) (.move (.tmp 1)) none) :: (SO.mk (some 14) (.app 29 9 (.tmp 12) (.tmp 13)) none) :: (SO.mk (some 15) (.nilCheck (.tmp 8)) none) :: o13_1)
theorem v13_2 : type_of% (@swl _ _ o13_2.eq_1) := @swl _ _ o13_2.eq_1
def c13_3 : SC := (.reg ((SO.mk (some 8) (.move (.tmp 0)) none) :: (SO.mk (some 9) (.move (.tmp 0)) none) :: (SO.mk (some 10) (.nilCheck (.tmp 9)) none) :: (SO.mk (some 11) (.faddr 42 (.tmp 10) 0) none) :: o13_2))
theorem u13_3 : type_of% (@swc _ _ c13_3.eq_1) := @swc _ _ c13_3.eq_1
def c13 : SC := (.seq (.reg [SO.mk (some 4) (.move (.tmp 0)) none, SO.mk (some 5) (.move (.tmp 1)) none, SO.mk (some 6) (.len 9 (.tmp 5)) none, SO.mk (some 7) (.call 12 [(.tmp 4), (.tmp 6), (.const (Value.int .i64 1))]) none]) (.keep [0, 1] c13_3))
theorem c13_eq : annC Try.f13 = some c13 := by kernel_rfl
theorem r13 : Try.f13.results.toList = [] := by kernel_rfl
theorem e13 : enters Try.prog 13 = true := by kernel_rfl
def c18_1 : SC := (.reg [SO.mk (some 16) (.move (.tmp 0)) none, SO.mk (some 17) (.move (.tmp 5)) none, SO.mk (some 18) (.call 12 [(.tmp 16), (.tmp 17), (.const (Value.int .i64 1))]) none])
theorem u18_1 : type_of% (@swc _ _ c18_1.eq_1) := @swc _ _ c18_1.eq_1
def c18_2 : SC := (.reg [SO.mk (some 19) (.bin .add 3 (.tmp 12) (.const (Value.int .i64 1))) none, SO.mk (some 12) (.move (.tmp 19)) none])
theorem u18_2 : type_of% (@swc _ _ c18_2.eq_1) := @swc _ _ c18_2.eq_1
def c18_3 : SC := (.seq (.block 1 (.seq (.reg [SO.mk (some 14) (.iaddr 26 (.tmp 10) (.tmp 12)) none, SO.mk (some 15) (.load 3 (.tmp 14)) none, SO.mk (some 5) (.move (.tmp 15)) none]) (.keep [5, 12, 11, 0, 10] c18_1))) (.keep [12, 11, 0, 10] c18_2))
theorem u18_3 : type_of% (@swc _ _ c18_3.eq_1) := @swc _ _ c18_3.eq_1
def c18_4 : SC := (.seq (.cond (.tmp 13) .skip (.exit 0)) (.keep [12, 11, 0, 10] c18_3))
theorem u18_4 : type_of% (@swc _ _ c18_4.eq_1) := @swc _ _ c18_4.eq_1
def c18_5 : SC := (.seq (.reg [SO.mk (some 13) (.bin .lss 3 (.tmp 12) (.tmp 11)) none]) (.keep [13, 10, 0, 11, 12] c18_4))
theorem u18_5 : type_of% (@swc _ _ c18_5.eq_1) := @swc _ _ c18_5.eq_1
def c18_6 : SC := (.block 0 (.loop (.keep [10, 0, 11, 12] c18_5)))
theorem u18_6 : type_of% (@swc _ _ c18_6.eq_1) := @swc _ _ c18_6.eq_1
def c18_7 : SC := (.seq (.reg [SO.mk (some 10) (.move (.tmp 1)) none, SO.mk (some 11) (.len 26 (.tmp 10)) none, SO.mk (some 12) (.move (.const (Value.int .i64 0))) none]) (.keep [10, 0, 11, 12] c18_6))
theorem u18_7 : type_of% (@swc _ _ c18_7.eq_1) := @swc _ _ c18_7.eq_1
def c18 : SC := (.seq (.reg [SO.mk (some 6) (.move (.tmp 0)) none, SO.mk (some 7) (.move (.tmp 1)) none, SO.mk (some 8) (.len 26 (.tmp 7)) none, SO.mk (some 9) (.call 12 [(.tmp 6), (.tmp 8), (.const (Value.int .i64 1))]) none]) (.keep [1, 0] c18_7))
theorem c18_eq : annC Try.f18 = some c18 := by kernel_rfl
theorem r18 : Try.f18.results.toList = [] := by kernel_rfl
theorem e18 : enters Try.prog 18 = true := by kernel_rfl
def c57_1 : SC := (.cond (.tmp 5) (.reg [SO.mk (some 4) (.move (.const (Value.int .i64 1))) none]) .skip)
theorem u57_1 : type_of% (@swc _ _ c57_1.eq_1) := @swc _ _ c57_1.eq_1
def c57_2 : SC := (.reg [SO.mk (some 6) (.move (.tmp 0)) none, SO.mk (some 7) (.move (.tmp 4)) none, SO.mk (some 8) (.call 12 [(.tmp 6), (.tmp 7), (.const (Value.int .i64 1))]) none])
theorem u57_2 : type_of% (@swc _ _ c57_2.eq_1) := @swc _ _ c57_2.eq_1
def c57_3 : SC := (.seq (.seq (.reg [SO.mk (some 5) (.move (.tmp 1)) none]) (.keep [5, 0, 4] c57_1)) (.keep [0, 4] c57_2))
theorem u57_3 : type_of% (@swc _ _ c57_3.eq_1) := @swc _ _ c57_3.eq_1
def c57 : SC := (.seq (.reg [SO.mk (some 4) (.move (.const (Value.int .i64 0))) none]) (.keep [1, 0, 4] c57_3))
theorem c57_eq : annC Try.f57 = some c57 := by kernel_rfl
theorem r57 : Try.f57.results.toList = [] := by kernel_rfl
theorem e57 : enters Try.prog 57 = true := by kernel_rfl
def c16_1 : SC := (.reg [SO.mk (some 12) (.move (.tmp 0)) none, SO.mk (some 13) (.faddr 57 (.tmp 3) 2) none, SO.mk (some 14) (.load 26 (.tmp 13)) none, SO.mk (some 15) (.call 18 [(.tmp 12), (.tmp 14)]) none])
theorem u16_1 : type_of% (@swc _ _ c16_1.eq_1) := @swc _ _ c16_1.eq_1
def c16_2 : SC := (.seq (.reg [SO.mk (some 8) (.move (.tmp 0)) none, SO.mk (some 9) (.faddr 57 (.tmp 3) 1) none, SO.mk (some 10) (.load 3 (.tmp 9)) none, SO.mk (some 11) (.call 12 [(.tmp 8), (.tmp 10), (.const (Value.int .i64 2))]) none]) (.keep [0, 3] c16_1))
theorem u16_2 : type_of% (@swc _ _ c16_2.eq_1) := @swc _ _ c16_2.eq_1
def c16_3 : SC := (.seq (.reg [SO.mk (some 4) (.move (.tmp 0)) none, SO.mk (some 5) (.faddr 57 (.tmp 3) 0) none, SO.mk (some 6) (.load 3 (.tmp 5)) none, SO.mk (some 7) (.call 12 [(.tmp 4), (.tmp 6), (.const (Value.int .i64 1))]) none]) (.keep [0, 3] c16_2))
theorem u16_3 : type_of% (@swc _ _ c16_3.eq_1) := @swc _ _ c16_3.eq_1
def c16 : SC := (.seq (.reg [SO.mk (some 3) (.box 57 (.tmp 1)) none]) (.keep [0, 3] c16_3))
theorem c16_eq : annC Try.f16 = some c16 := by kernel_rfl
theorem r16 : Try.f16.results.toList = [] := by kernel_rfl
theorem e16 : enters Try.prog 16 = true := by kernel_rfl
def c14_1 : SC := (.reg [SO.mk (some 13) (.move (.tmp 0)) none, SO.mk (some 14) (.faddr 45 (.tmp 3) 2) none, SO.mk (some 15) (.load 3 (.tmp 14)) none, SO.mk (some 16) (.bin .add 3 (.tmp 15) (.const (Value.int .i64 1))) none, SO.mk (some 17) (.call 12 [(.tmp 13), (.tmp 16), (.const (Value.int .i64 4))]) none])
theorem u14_1 : type_of% (@swc _ _ c14_1.eq_1) := @swc _ _ c14_1.eq_1
def c14_2 : SC := (.seq (.reg [SO.mk (some 8) (.move (.tmp 0)) none, SO.mk (some 9) (.faddr 45 (.tmp 3) 1) none, SO.mk (some 10) (.load 3 (.tmp 9)) none, SO.mk (some 11) (.bin .add 3 (.tmp 10) (.const (Value.int .i64 1))) none, SO.mk (some 12) (.call 12 [(.tmp 8), (.tmp 11), (.const (Value.int .i64 4))]) none]) (.keep [0, 3] c14_1))
theorem u14_2 : type_of% (@swc _ _ c14_2.eq_1) := @swc _ _ c14_2.eq_1
def c14_3 : SC := (.seq (.reg [SO.mk (some 4) (.move (.tmp 0)) none, SO.mk (some 5) (.faddr 45 (.tmp 3) 0) none, SO.mk (some 6) (.load 9 (.tmp 5)) none, SO.mk (some 7) (.call 13 [(.tmp 4), (.tmp 6)]) none]) (.keep [0, 3] c14_2))
theorem u14_3 : type_of% (@swc _ _ c14_3.eq_1) := @swc _ _ c14_3.eq_1
def c14 : SC := (.seq (.reg [SO.mk (some 3) (.box 45 (.tmp 1)) none]) (.keep [0, 3] c14_3))
theorem c14_eq : annC Try.f14 = some c14 := by kernel_rfl
theorem r14 : Try.f14.results.toList = [] := by kernel_rfl
theorem e14 : enters Try.prog 14 = true := by kernel_rfl
end Go.Proofs.Ytijpmidnclbhpaa
namespace Go.Proofs.Ytijpmidnclbhpaa
open Go.RowKit
set_option maxHeartbeats 4000000
set_option maxRecDepth 20000
attribute [local irreducible] SW SWL SWLn SWD SEcall SEcallv SDv SE SO1 SOg ACalls ACallv Wk EndV
set_option linter.unusedSimpArgs false
set_option linter.unusedVariables false
theorem ask_w (a : AskD) : Writes Try.prog 17 [a.av] (askB a) := by
  intro B σ m n bs hW hb
  refine own_ofL [(m, arO bs), (n, wrO m bs)] (hid_sto hW.am hW.an) hid_closed follows Try.func17 c17_eq r17 (Nat.le_of_ble_eq_true rfl) fun hcl hsz => ?_
  clear hsz
  obtain ⟨hm, hn, ne, am, an, free⟩ := hW
  have y1 : ∀ s, (n = B + s) = False := fun s => by simp; omega
  have y2 : ∀ s, (B + s = n) = False := fun s => by simp; omega
  have y3 : ∀ s, (m = B + s) = False := fun s => by simp; omega
  have y4 : ∀ s, (B + s = m) = False := fun s => by simp; omega
  have y5 : (m < B) = True := eq_true hm
  have y6 : (n < B) = True := eq_true hn
  have y7 : (m = n) = False := eq_false ne
  have y8 : (n = m) = False := eq_false (fun e => ne e.symm)
  have y9 : decide (m < B + 100000) = true := by simp; omega
  have y10 : decide (n < B + 100000) = true := by simp; omega
  have y11 : (B ≤ m) = False := eq_false (by omega)
  have hr1 := hid_m m n σ
  have hr2 := hid_n m n σ
  have hr3 := hid_kill free
  unfold askB at hb
  repeat' (first | (simp -implicitDefEqProofs only [*, contN, contC, Nat.reduceBEq, Bool.or_false, Bool.or_true, Bool.false_or, Bool.true_or, Bool.not_true, Bool.not_false, SEconv, w_skip, w_ret, w_exit, w_reg, w_dreg, w_seq, SK_n, SK_r, SK_x, w_keep, w_block, w_cond, w_nil, w_cons, w_consg, w_nnil, w_ncons, w_dnil, w_dcons, w_dconsg, HK_app, HD_app, HQ_n, HQ_r, HQ_x, HQ_bn, HQ_br, HQ_bx, HQ_en, HQ_er, HQ_ex, CondB_true, CondB_false, SO1, w_sdv, SDe_alloc, SDe_box, SDe_bslice, SDe_app, true_imp_iff, false_imp_iff, and_false, false_and, not_false_eq_true, not_true_eq_false, addN, mkNames, killT, killD, killO, List.foldl_nil, List.foldl_cons, List.append_nil, List.nil_append, List.cons_append, GuardS_true, GuardS_false, GuardD_true, GuardD_false, DK_true, DK_false, lt_self_add, le_self_add, decide_true, decide_false, Bool.false_eq_true, Bool.true_eq_false, Nat.add_left_cancel_iff, SE, SEalloc, SEbox, SEstore, w_bs, SEbl, SEfz, SEbs0, fzName, osOf, AV.fz1, w_app, w_mk, aev, opd, Fr.get, putO, Fr.norm, List.map_cons, List.map_nil, with1, with2, onInt, AV.lit, entry, ↓reduceIte, Nat.reduceEqDiff, Nat.reduceAdd, reduceCtorEq, true_and, and_true, Option.map_some, Option.map_none, Option.bind_some, Option.bind_none, cond_true, cond_false, binV, unV, fieldV, loadV, sto, cellsAV, newF, newL, Fr.map, Loc.kill, Loc.set, AV.kill, AV.mapN, AV.mapNL, List.filter_nil, List.filter_cons, allP, EndV, retV, resV, resL, frz, dropL, AV.pick, nilV, tupV, imp_self, ne_eq, Int.cast_ofNat_Int, Int.reduceLT, Int.reduceToNat, List.getD_cons_zero, List.getD_cons_succ, bsliceV, buildV, afill, repl, chunk, rvs, AV.rv, RV.nrm, List.getElem?_nil, List.append_assoc, Nat.reduceMul, Nat.reducePow, Nat.zero_lt_succ, Nat.zero_add, Nat.add_zero, List.length_cons, List.length_nil, Nat.reduceLeDiff, Nat.le_refl, List.take_succ_cons, List.take_zero, List.drop_succ_cons, List.drop_zero, indexV, lenV, rowOf_mapD, rowOf_mapI, rowOf_mapA, List.length_map, Int.toNat_natCast, List.getElem?_cons_zero, List.getElem?_cons_succ, and_self, implies_true, if_true, if_false, HQ_zn, HQ_zr, HQ_wn, HQ_wr, AV.nz, AV.nzL, RV.nrm, SEbin, SEnil, nilK, srcV, dstV, appName, List.length_append, Nat.mul_one, take_map_len, take_map_app, List.getElem?_cons_zero, List.map_append, SEmkmap, SEmset, mgetV, kvOf, getM, setM, c17, r17, u17_1, u17_2, u17_3, ty60, ty3, aokB, aokD, aokA, ↓arO_allN, ↓wrO_allN, ↓arO_kill, wrO_kill, wrL, y1, y2, y3, y4, y5, y6, y7, y8, y9, y10, y11, AskD.av, AskD.row]) | (with_reducible refine And.intro ?_ ?_) | (refine call_w0 (by omega) (by omega) ne (fun _ => by simp) hr3 e12 ( put_w (a.ver) 3 (by omega) (by omega)) rfl ?_ ?_ ?_ ?_ ?_ ?_) | (refine call_w1 (by omega) (by omega) ne (fun _ => by simp) hr3 e12 ( put_w (a.ver) 3 (by omega) (by omega)) rfl ?_ ?_ ?_ ?_ ?_ ?_) | (refine call_w2 (by omega) (by omega) ne (fun _ => by simp) hr3 e12 ( put_w (a.ver) 3 (by omega) (by omega)) rfl ?_ ?_ ?_ ?_ ?_ ?_) | (refine call_w0 (by omega) (by omega) ne (fun _ => by simp) hr3 e12 ( put_w (a.days) 2 (by omega) (by omega)) rfl ?_ ?_ ?_ ?_ ?_ ?_) | (refine call_w1 (by omega) (by omega) ne (fun _ => by simp) hr3 e12 ( put_w (a.days) 2 (by omega) (by omega)) rfl ?_ ?_ ?_ ?_ ?_ ?_) | (refine call_w2 (by omega) (by omega) ne (fun _ => by simp) hr3 e12 ( put_w (a.days) 2 (by omega) (by omega)) rfl ?_ ?_ ?_ ?_ ?_ ?_) | (refine call_w0 (by omega) (by omega) ne (fun _ => by simp) hr3 e12 ( put1_w (a.cls)) rfl ?_ ?_ ?_ ?_ ?_ ?_) | (refine call_w1 (by omega) (by omega) ne (fun _ => by simp) hr3 e12 ( put1_w (a.cls)) rfl ?_ ?_ ?_ ?_ ?_ ?_) | (refine call_w2 (by omega) (by omega) ne (fun _ => by simp) hr3 e12 ( put1_w (a.cls)) rfl ?_ ?_ ?_ ?_ ?_ ?_) | (refine EndX.plain ?_) | (refine nil_split (fun hn => ?_) (fun hn => ?_)) | (refine gcall_no not_false ?_) | (refine gdcall_no not_false ?_) | (refine GuardS_of _ _ _ _ _ _ (fun hg => ?_) (fun hg => ?_)) | (refine GuardD_of _ _ _ _ (fun hg => ?_) (fun hg => ?_)) | (refine CondB_of _ _ _ _ _ _ _ ?_ (fun hg => ?_) (fun hg => ?_)))
  all_goals (try (first | ((first | unfold noN | unfold Fr.below | unfold Loc.below); simp [Fr.allN, AV.allN, AV.allNL, AO.allN]; done) | rfl | trivial | assumption | (intro row hrow; simp only [List.mem_map] at hrow; obtain ⟨x, _, rfl⟩ := hrow; rfl) | (refine Wk.keep hcl ?_ ?_ ?_; (focus (simp [Fr.get, aokB, aokD, aokA, ↓arO_allN, ↓wrO_allN, ↓arO_kill, wrO_kill, wrL, y1, y2, y3, y4, y5, y6, y7, y8, y9, y10, y11, AskD.av, AskD.row] <;> fail)); (focus (simp [sto, aokB, aokD, aokA, ↓arO_allN, ↓wrO_allN, ↓arO_kill, wrO_kill, wrL, y1, y2, y3, y4, y5, y6, y7, y8, y9, y10, y11, AskD.av, AskD.row] <;> fail)); (focus (simp <;> fail))) | (simp [allP, opd, Fr.get, Fr.below, Fr.allN, AV.allN, AV.allNL, Loc.below, AO.allN, noN, killO, killT, killD, mkNames, AO.kill, AV.kill, AV.mapN, AV.mapNL]; done) | (with_reducible exact ltD (by assumption)) | omega | (simp only [decide_eq_true_eq, decide_eq_false_iff_not] at *; omega)))
  all_goals first
    | (simp [Fr.below, Fr.allN, AV.allN, AV.allNL, y9, y10]; done)
    | (unfold Loc.below; simp only [List.all_cons, List.all_nil, arO_allN, wrO_allN, y9, y10]; simp [AO.allN, AV.allN, AV.allNL]; done)
    | (simp only [List.length_append, List.length_cons, List.length_nil] at *; omega)
    | (intro p hp; simp only [List.mem_cons, List.not_mem_nil, or_false] at hp; rcases hp with rfl | rfl <;> exact ⟨by simp [y3, y4], by simp [y1, y2], rfl⟩)
    | (intro p hp; simp only [List.mem_cons, List.not_mem_nil, or_false] at hp; subst hp; exact ⟨by simp [y3, y4], by simp [y1, y2], rfl⟩)
    | (intro p hp; cases hp; done)
    | (simp; done)
    | (refine wr_end3 ?_ ?_ ?_
       · simp [askB, List.append_assoc]
       · simp [askB, List.append_assoc, y8]
       · intro x z1 z2; simp [z1, z2, hid])
theorem text_w (s : ByteArray) (hs : s.size ≤ 2 ^ 40) : Writes Try.prog 13 [.d (.v (.string s))] (textB s) := by
  intro B σ m n bs hW hb
  refine own_ofL [(m, arO bs), (n, wrO m bs)] (hid_sto hW.am hW.an) hid_closed follows Try.func13 c13_eq r13 (Nat.le_of_ble_eq_true rfl) fun hcl hsz => ?_
  clear hsz
  obtain ⟨hm, hn, ne, am, an, free⟩ := hW
  have y1 : ∀ s, (n = B + s) = False := fun s => by simp; omega
  have y2 : ∀ s, (B + s = n) = False := fun s => by simp; omega
  have y3 : ∀ s, (m = B + s) = False := fun s => by simp; omega
  have y4 : ∀ s, (B + s = m) = False := fun s => by simp; omega
  have y5 : (m < B) = True := eq_true hm
  have y6 : (n < B) = True := eq_true hn
  have y7 : (m = n) = False := eq_false ne
  have y8 : (n = m) = False := eq_false (fun e => ne e.symm)
  have y9 : decide (m < B + 100000) = true := by simp; omega
  have y10 : decide (n < B + 100000) = true := by simp; omega
  have y11 : (B ≤ m) = False := eq_false (by omega)
  have hr1 := hid_m m n σ
  have hr2 := hid_n m n σ
  have hr3 := hid_kill free
  unfold textB at hb
  have hs2 := bsT_len s
  have hs3 : s.data.toList = bsT s := rfl
  repeat' (first | (simp -implicitDefEqProofs only [*, contN, contC, Nat.reduceBEq, Bool.or_false, Bool.or_true, Bool.false_or, Bool.true_or, Bool.not_true, Bool.not_false, SEconv, w_skip, w_ret, w_exit, w_reg, w_dreg, w_seq, SK_n, SK_r, SK_x, w_keep, w_block, w_cond, w_nil, w_cons, w_consg, w_nnil, w_ncons, w_dnil, w_dcons, w_dconsg, HK_app, HD_app, HQ_n, HQ_r, HQ_x, HQ_bn, HQ_br, HQ_bx, HQ_en, HQ_er, HQ_ex, CondB_true, CondB_false, SO1, w_sdv, SDe_alloc, SDe_box, SDe_bslice, SDe_app, true_imp_iff, false_imp_iff, and_false, false_and, not_false_eq_true, not_true_eq_false, addN, mkNames, killT, killD, killO, List.foldl_nil, List.foldl_cons, List.append_nil, List.nil_append, List.cons_append, GuardS_true, GuardS_false, GuardD_true, GuardD_false, DK_true, DK_false, lt_self_add, le_self_add, decide_true, decide_false, Bool.false_eq_true, Bool.true_eq_false, Nat.add_left_cancel_iff, SE, SEalloc, SEbox, SEstore, w_bs, SEbl, SEfz, SEbs0, fzName, osOf, AV.fz1, w_app, w_mk, aev, opd, Fr.get, putO, Fr.norm, List.map_cons, List.map_nil, with1, with2, onInt, AV.lit, entry, ↓reduceIte, Nat.reduceEqDiff, Nat.reduceAdd, reduceCtorEq, true_and, and_true, Option.map_some, Option.map_none, Option.bind_some, Option.bind_none, cond_true, cond_false, binV, unV, fieldV, loadV, sto, cellsAV, newF, newL, Fr.map, Loc.kill, Loc.set, AV.kill, AV.mapN, AV.mapNL, List.filter_nil, List.filter_cons, allP, EndV, retV, resV, resL, frz, dropL, AV.pick, nilV, tupV, imp_self, ne_eq, Int.cast_ofNat_Int, Int.reduceLT, Int.reduceToNat, List.getD_cons_zero, List.getD_cons_succ, bsliceV, buildV, afill, repl, chunk, rvs, AV.rv, RV.nrm, List.getElem?_nil, List.append_assoc, Nat.reduceMul, Nat.reducePow, Nat.zero_lt_succ, Nat.zero_add, Nat.add_zero, List.length_cons, List.length_nil, Nat.reduceLeDiff, Nat.le_refl, List.take_succ_cons, List.take_zero, List.drop_succ_cons, List.drop_zero, indexV, lenV, rowOf_mapD, rowOf_mapI, rowOf_mapA, List.length_map, Int.toNat_natCast, List.getElem?_cons_zero, List.getElem?_cons_succ, and_self, implies_true, if_true, if_false, HQ_zn, HQ_zr, HQ_wn, HQ_wr, AV.nz, AV.nzL, RV.nrm, SEbin, SEnil, nilK, srcV, dstV, appName, List.length_append, Nat.mul_one, take_map_len, take_map_app, List.getElem?_cons_zero, List.map_append, SEmkmap, SEmset, mgetV, kvOf, getM, setM, c13, r13, v13_1, v13_2, u13_3, ty9, ty42, ty29, ty5, aokB, aokD, aokA, ↓arO_allN, ↓wrO_allN, ↓arO_kill, wrO_kill, wrL, y1, y2, y3, y4, y5, y6, y7, y8, y9, y10, y11]) | (with_reducible refine And.intro ?_ ?_) | (refine call_w0 (by omega) (by omega) ne (fun _ => by simp) hr3 e12 ( put_w s.size 1 (by omega) (by omega)) rfl ?_ ?_ ?_ ?_ ?_ ?_) | (refine call_w1 (by omega) (by omega) ne (fun _ => by simp) hr3 e12 ( put_w s.size 1 (by omega) (by omega)) rfl ?_ ?_ ?_ ?_ ?_ ?_) | (refine call_w2 (by omega) (by omega) ne (fun _ => by simp) hr3 e12 ( put_w s.size 1 (by omega) (by omega)) rfl ?_ ?_ ?_ ?_ ?_ ?_) | (refine EndX.plain ?_) | (refine nil_split (fun hn => ?_) (fun hn => ?_)) | (refine gcall_no not_false ?_) | (refine gdcall_no not_false ?_) | (refine GuardS_of _ _ _ _ _ _ (fun hg => ?_) (fun hg => ?_)) | (refine GuardD_of _ _ _ _ (fun hg => ?_) (fun hg => ?_)) | (refine CondB_of _ _ _ _ _ _ _ ?_ (fun hg => ?_) (fun hg => ?_)))
  all_goals (try (first | ((first | unfold noN | unfold Fr.below | unfold Loc.below); simp [Fr.allN, AV.allN, AV.allNL, AO.allN]; done) | rfl | trivial | assumption | (intro row hrow; simp only [List.mem_map] at hrow; obtain ⟨x, _, rfl⟩ := hrow; rfl) | (refine Wk.keep hcl ?_ ?_ ?_; (focus (simp [Fr.get, aokB, aokD, aokA, ↓arO_allN, ↓wrO_allN, ↓arO_kill, wrO_kill, wrL, y1, y2, y3, y4, y5, y6, y7, y8, y9, y10, y11] <;> fail)); (focus (simp [sto, aokB, aokD, aokA, ↓arO_allN, ↓wrO_allN, ↓arO_kill, wrO_kill, wrL, y1, y2, y3, y4, y5, y6, y7, y8, y9, y10, y11] <;> fail)); (focus (simp <;> fail))) | (simp [allP, opd, Fr.get, Fr.below, Fr.allN, AV.allN, AV.allNL, Loc.below, AO.allN, noN, killO, killT, killD, mkNames, AO.kill, AV.kill, AV.mapN, AV.mapNL]; done) | (with_reducible exact ltD (by assumption)) | omega | (simp only [decide_eq_true_eq, decide_eq_false_iff_not] at *; omega)))
  repeat' (first | (simp -implicitDefEqProofs only [*, contN, contC, Nat.reduceBEq, Bool.or_false, Bool.or_true, Bool.false_or, Bool.true_or, Bool.not_true, Bool.not_false, SEconv, w_skip, w_ret, w_exit, w_reg, w_dreg, w_seq, SK_n, SK_r, SK_x, w_keep, w_block, w_cond, w_nil, w_cons, w_consg, w_nnil, w_ncons, w_dnil, w_dcons, w_dconsg, HK_app, HD_app, HQ_n, HQ_r, HQ_x, HQ_bn, HQ_br, HQ_bx, HQ_en, HQ_er, HQ_ex, CondB_true, CondB_false, SO1, w_sdv, SDe_alloc, SDe_box, SDe_bslice, SDe_app, true_imp_iff, false_imp_iff, and_false, false_and, not_false_eq_true, not_true_eq_false, addN, mkNames, killT, killD, killO, List.foldl_nil, List.foldl_cons, List.append_nil, List.nil_append, List.cons_append, GuardS_true, GuardS_false, GuardD_true, GuardD_false, DK_true, DK_false, lt_self_add, le_self_add, decide_true, decide_false, Bool.false_eq_true, Bool.true_eq_false, Nat.add_left_cancel_iff, SE, SEalloc, SEbox, SEstore, w_bs, SEbl, SEfz, SEbs0, fzName, osOf, AV.fz1, w_app, w_mk, aev, opd, Fr.get, putO, Fr.norm, List.map_cons, List.map_nil, with1, with2, onInt, AV.lit, entry, ↓reduceIte, Nat.reduceEqDiff, Nat.reduceAdd, reduceCtorEq, true_and, and_true, Option.map_some, Option.map_none, Option.bind_some, Option.bind_none, cond_true, cond_false, binV, unV, fieldV, loadV, sto, cellsAV, newF, newL, Fr.map, Loc.kill, Loc.set, AV.kill, AV.mapN, AV.mapNL, List.filter_nil, List.filter_cons, allP, EndV, retV, resV, resL, frz, dropL, AV.pick, nilV, tupV, imp_self, ne_eq, Int.cast_ofNat_Int, Int.reduceLT, Int.reduceToNat, List.getD_cons_zero, List.getD_cons_succ, bsliceV, buildV, afill, repl, chunk, rvs, AV.rv, RV.nrm, List.getElem?_nil, List.append_assoc, Nat.reduceMul, Nat.reducePow, Nat.zero_lt_succ, Nat.zero_add, Nat.add_zero, List.length_cons, List.length_nil, Nat.reduceLeDiff, Nat.le_refl, List.take_succ_cons, List.take_zero, List.drop_succ_cons, List.drop_zero, indexV, lenV, rowOf_mapD, rowOf_mapI, rowOf_mapA, List.length_map, Int.toNat_natCast, List.getElem?_cons_zero, List.getElem?_cons_succ, and_self, implies_true, if_true, if_false, HQ_zn, HQ_zr, HQ_wn, HQ_wr, AV.nz, AV.nzL, RV.nrm, SEbin, SEnil, nilK, srcV, dstV, appName, List.length_append, Nat.mul_one, take_map_len, take_map_app, List.getElem?_cons_zero, List.map_append, SEmkmap, SEmset, mgetV, kvOf, getM, setM, c13, r13, v13_1, v13_2, u13_3, ty9, ty42, ty29, ty5, aokB, aokD, aokA, ↓arO_allN, ↓wrO_allN, ↓arO_kill, wrO_kill, wrL, y1, y2, y3, y4, y5, y6, y7, y8, y9, y10, y11, arO, wrO, convV, bytes, map_by]) | (with_reducible refine And.intro ?_ ?_) | (refine call_w0 (by omega) (by omega) ne (fun _ => by simp) hr3 e12 ( put_w s.size 1 (by omega) (by omega)) rfl ?_ ?_ ?_ ?_ ?_ ?_) | (refine call_w1 (by omega) (by omega) ne (fun _ => by simp) hr3 e12 ( put_w s.size 1 (by omega) (by omega)) rfl ?_ ?_ ?_ ?_ ?_ ?_) | (refine call_w2 (by omega) (by omega) ne (fun _ => by simp) hr3 e12 ( put_w s.size 1 (by omega) (by omega)) rfl ?_ ?_ ?_ ?_ ?_ ?_) | (refine EndX.plain ?_) | (refine nil_split (fun hn => ?_) (fun hn => ?_)) | (refine gcall_no not_false ?_) | (refine gdcall_no not_false ?_) | (refine GuardS_of _ _ _ _ _ _ (fun hg => ?_) (fun hg => ?_)) | (refine GuardD_of _ _ _ _ (fun hg => ?_) (fun hg => ?_)) | (refine CondB_of _ _ _ _ _ _ _ ?_ (fun hg => ?_) (fun hg => ?_)))
  all_goals (try (first | ((first | unfold noN | unfold Fr.below | unfold Loc.below); simp [Fr.allN, AV.allN, AV.allNL, AO.allN]; done) | rfl | trivial | assumption | (intro row hrow; simp only [List.mem_map] at hrow; obtain ⟨x, _, rfl⟩ := hrow; rfl) | (refine Wk.keep hcl ?_ ?_ ?_; (focus (simp [Fr.get, aokB, aokD, aokA, ↓arO_allN, ↓wrO_allN, ↓arO_kill, wrO_kill, wrL, y1, y2, y3, y4, y5, y6, y7, y8, y9, y10, y11, arO, wrO, convV, bytes, map_by] <;> fail)); (focus (simp [sto, aokB, aokD, aokA, ↓arO_allN, ↓wrO_allN, ↓arO_kill, wrO_kill, wrL, y1, y2, y3, y4, y5, y6, y7, y8, y9, y10, y11, arO, wrO, convV, bytes, map_by] <;> fail)); (focus (simp <;> fail))) | (simp [allP, opd, Fr.get, Fr.below, Fr.allN, AV.allN, AV.allNL, Loc.below, AO.allN, noN, killO, killT, killD, mkNames, AO.kill, AV.kill, AV.mapN, AV.mapNL]; done) | (with_reducible exact ltD (by assumption)) | omega | (simp only [decide_eq_true_eq, decide_eq_false_iff_not] at *; omega)))
  all_goals first
    | (simp [Fr.below, Fr.allN, AV.allN, AV.allNL, y9, y10]; done)
    | (unfold Loc.below; simp only [List.all_cons, List.all_nil, arO_allN, wrO_allN, y9, y10]; simp [AO.allN, AV.allN, AV.allNL]; done)
    | (simp only [List.length_append, List.length_cons, List.length_nil] at *; omega)
    | (intro p hp; simp only [List.mem_cons, List.not_mem_nil, or_false] at hp; rcases hp with rfl | rfl <;> exact ⟨by simp [y3, y4], by simp [y1, y2], rfl⟩)
    | (intro p hp; simp only [List.mem_cons, List.not_mem_nil, or_false] at hp; subst hp; exact ⟨by simp [y3, y4], by simp [y1, y2], rfl⟩)
    | (intro p hp; cases hp; done)
    | (simp; done)
    | exact .inr ⟨by simp, hr3⟩
    | (unfold Loc.below; simp [AO.allN, AV.allN, AV.allNL, y9, y10]; done)
    | (simp only [List.length_append, bigB_len, hs2, List.length_map] at *; omega)
    | (funext x; by_cases e1 : x = m <;> by_cases e2 : x = n <;> simp [e1, e2, textB, hid, hs2, List.append_assoc, Nat.add_assoc, y7, y8]; done)
    | (refine wr_end3 ?_ ?_ ?_
       · simp [textB, arO, wrO, hs3, hs2, List.append_assoc]
       · simp [textB, arO, wrO, hs3, hs2, List.append_assoc, y8]
       · intro x z1 z2; simp [z1, z2, hid])
theorem ints_w (l : List Int) : Writes Try.prog 18 [.d (.ro (l.map int_))] (intsB l) := by
  intro B σ m n bs hW hb
  refine own_ofL [(m, arO bs), (n, wrO m bs)] (hid_sto hW.am hW.an) hid_closed follows Try.func18 c18_eq r18 (Nat.le_of_ble_eq_true rfl) fun hcl hsz => ?_
  clear hsz
  obtain ⟨hm, hn, ne, am, an, free⟩ := hW
  have y1 : ∀ s, (n = B + s) = False := fun s => by simp; omega
  have y2 : ∀ s, (B + s = n) = False := fun s => by simp; omega
  have y3 : ∀ s, (m = B + s) = False := fun s => by simp; omega
  have y4 : ∀ s, (B + s = m) = False := fun s => by simp; omega
  have y5 : (m < B) = True := eq_true hm
  have y6 : (n < B) = True := eq_true hn
  have y7 : (m = n) = False := eq_false ne
  have y8 : (n = m) = False := eq_false (fun e => ne e.symm)
  have y9 : decide (m < B + 100000) = true := by simp; omega
  have y10 : decide (n < B + 100000) = true := by simp; omega
  have y11 : (B ≤ m) = False := eq_false (by omega)
  have hr1 := hid_m m n σ
  have hr2 := hid_n m n σ
  have hr3 := hid_kill free
  unfold intsB at hb
  have hl : l.length ≤ 2 ^ 40 := by simp at hb; omega
  repeat' (first | (simp -implicitDefEqProofs only [*, contN, contC, Nat.reduceBEq, Bool.or_false, Bool.or_true, Bool.false_or, Bool.true_or, Bool.not_true, Bool.not_false, SEconv, w_skip, w_ret, w_exit, w_reg, w_dreg, w_seq, SK_n, SK_r, SK_x, w_keep, w_block, w_cond, w_nil, w_cons, w_consg, w_nnil, w_ncons, w_dnil, w_dcons, w_dconsg, HK_app, HD_app, HQ_n, HQ_r, HQ_x, HQ_bn, HQ_br, HQ_bx, HQ_en, HQ_er, HQ_ex, CondB_true, CondB_false, SO1, w_sdv, SDe_alloc, SDe_box, SDe_bslice, SDe_app, true_imp_iff, false_imp_iff, and_false, false_and, not_false_eq_true, not_true_eq_false, addN, mkNames, killT, killD, killO, List.foldl_nil, List.foldl_cons, List.append_nil, List.nil_append, List.cons_append, GuardS_true, GuardS_false, GuardD_true, GuardD_false, DK_true, DK_false, lt_self_add, le_self_add, decide_true, decide_false, Bool.false_eq_true, Bool.true_eq_false, Nat.add_left_cancel_iff, SE, SEalloc, SEbox, SEstore, w_bs, SEbl, SEfz, SEbs0, fzName, osOf, AV.fz1, w_app, w_mk, aev, opd, Fr.get, putO, Fr.norm, List.map_cons, List.map_nil, with1, with2, onInt, AV.lit, entry, ↓reduceIte, Nat.reduceEqDiff, Nat.reduceAdd, reduceCtorEq, true_and, and_true, Option.map_some, Option.map_none, Option.bind_some, Option.bind_none, cond_true, cond_false, binV, unV, fieldV, loadV, sto, cellsAV, newF, newL, Fr.map, Loc.kill, Loc.set, AV.kill, AV.mapN, AV.mapNL, List.filter_nil, List.filter_cons, allP, EndV, retV, resV, resL, frz, dropL, AV.pick, nilV, tupV, imp_self, ne_eq, Int.cast_ofNat_Int, Int.reduceLT, Int.reduceToNat, List.getD_cons_zero, List.getD_cons_succ, bsliceV, buildV, afill, repl, chunk, rvs, AV.rv, RV.nrm, List.getElem?_nil, List.append_assoc, Nat.reduceMul, Nat.reducePow, Nat.zero_lt_succ, Nat.zero_add, Nat.add_zero, List.length_cons, List.length_nil, Nat.reduceLeDiff, Nat.le_refl, List.take_succ_cons, List.take_zero, List.drop_succ_cons, List.drop_zero, indexV, lenV, rowOf_mapD, rowOf_mapI, rowOf_mapA, List.length_map, Int.toNat_natCast, List.getElem?_cons_zero, List.getElem?_cons_succ, and_self, implies_true, if_true, if_false, HQ_zn, HQ_zr, HQ_wn, HQ_wr, AV.nz, AV.nzL, RV.nrm, SEbin, SEnil, nilK, srcV, dstV, appName, List.length_append, Nat.mul_one, take_map_len, take_map_app, List.getElem?_cons_zero, List.map_append, SEmkmap, SEmset, mgetV, kvOf, getM, setM, c18, r18, u18_1, u18_2, u18_3, u18_4, u18_5, u18_6, u18_7, ty26, ty3, aokB, aokD, aokA, ↓arO_allN, ↓wrO_allN, ↓arO_kill, wrO_kill, wrL, y1, y2, y3, y4, y5, y6, y7, y8, y9, y10, y11, int_]) | (with_reducible refine And.intro ?_ ?_) | (refine call_w0 (by omega) (by omega) ne (fun _ => by simp) hr3 e12 ( put1_w (l.length)) rfl ?_ ?_ ?_ ?_ ?_ ?_) | (refine call_w1 (by omega) (by omega) ne (fun _ => by simp) hr3 e12 ( put1_w (l.length)) rfl ?_ ?_ ?_ ?_ ?_ ?_) | (refine call_w2 (by omega) (by omega) ne (fun _ => by simp) hr3 e12 ( put1_w (l.length)) rfl ?_ ?_ ?_ ?_ ?_ ?_) | (refine call_w0 (by omega) (by omega) ne (fun _ => by simp) hr3 e12 ( put1_w (l[k]!)) rfl ?_ ?_ ?_ ?_ ?_ ?_) | (refine call_w1 (by omega) (by omega) ne (fun _ => by simp) hr3 e12 ( put1_w (l[k]!)) rfl ?_ ?_ ?_ ?_ ?_ ?_) | (refine call_w2 (by omega) (by omega) ne (fun _ => by simp) hr3 e12 ( put1_w (l[k]!)) rfl ?_ ?_ ?_ ?_ ?_ ?_) | (refine loop_nat (l.length) (fun _ => True) (fun k => [(10, .d (.ro (l.map int_))), (0, .lp n 0), (11, I l.length), (12, I k)]) (fun k => [(m, arO (bs ++ [b8 l.length] ++ (l.take k).map b8)), (n, wrO m (bs ++ [b8 l.length] ++ (l.take k).map b8))]) ?_ (Wk.keep hcl ?_ ?_ ?_) fun k hk hF => ?_; rotate_left 1; (focus (simp [Fr.get, newF, Fr.map, AV.kill, AV.mapN, aokB, aokD, aokA, ↓arO_allN, ↓wrO_allN, ↓arO_kill, wrO_kill, wrL, y1, y2, y3, y4, y5, y6, y7, y8, y9, y10, y11, int_] <;> fail)); (focus (simp [sto, newL, Loc.kill, Loc.set, AO.kill, AV.kill, AV.mapN, aokB, aokD, aokA, ↓arO_allN, ↓wrO_allN, ↓arO_kill, wrO_kill, wrL, y1, y2, y3, y4, y5, y6, y7, y8, y9, y10, y11, int_] <;> fail)); (focus (simp [newL, Loc.kill, Loc.set, aokB, aokD, aokA, ↓arO_allN, ↓wrO_allN, ↓arO_kill, wrO_kill, wrL, y1, y2, y3, y4, y5, y6, y7, y8, y9, y10, y11, int_] <;> fail)); (try have hw : IntKind.i64.wrap ((k : Int) + 1) = (k : Int) + 1 := IntWalk.i64_in _ (by omega))) | (refine EndX.plain ?_) | (refine nil_split (fun hn => ?_) (fun hn => ?_)) | (refine gcall_no not_false ?_) | (refine gdcall_no not_false ?_) | (refine GuardS_of _ _ _ _ _ _ (fun hg => ?_) (fun hg => ?_)) | (refine GuardD_of _ _ _ _ (fun hg => ?_) (fun hg => ?_)) | (refine CondB_of _ _ _ _ _ _ _ ?_ (fun hg => ?_) (fun hg => ?_)))
  all_goals (try (first | ((first | unfold noN | unfold Fr.below | unfold Loc.below); simp [Fr.allN, AV.allN, AV.allNL, AO.allN]; done) | rfl | trivial | assumption | (intro row hrow; simp only [List.mem_map] at hrow; obtain ⟨x, _, rfl⟩ := hrow; rfl) | (refine Wk.keep hcl ?_ ?_ ?_; (focus (simp [Fr.get, aokB, aokD, aokA, ↓arO_allN, ↓wrO_allN, ↓arO_kill, wrO_kill, wrL, y1, y2, y3, y4, y5, y6, y7, y8, y9, y10, y11, int_] <;> fail)); (focus (simp [sto, aokB, aokD, aokA, ↓arO_allN, ↓wrO_allN, ↓arO_kill, wrO_kill, wrL, y1, y2, y3, y4, y5, y6, y7, y8, y9, y10, y11, int_] <;> fail)); (focus (simp <;> fail))) | (simp [allP, opd, Fr.get, Fr.below, Fr.allN, AV.allN, AV.allNL, Loc.below, AO.allN, noN, killO, killT, killD, mkNames, AO.kill, AV.kill, AV.mapN, AV.mapNL]; done) | (with_reducible exact ltD (by assumption)) | omega | (simp only [decide_eq_true_eq, decide_eq_false_iff_not] at *; omega)))
  all_goals first
    | (simp [Fr.below, Fr.allN, AV.allN, AV.allNL, y9, y10]; done)
    | (unfold Loc.below; simp only [List.all_cons, List.all_nil, arO_allN, wrO_allN, y9, y10]; simp [AO.allN, AV.allN, AV.allNL]; done)
    | (simp only [List.length_append, List.length_cons, List.length_nil] at *; omega)
    | (intro p hp; simp only [List.mem_cons, List.not_mem_nil, or_false] at hp; rcases hp with rfl | rfl <;> exact ⟨by simp [y3, y4], by simp [y1, y2], rfl⟩)
    | (intro p hp; simp only [List.mem_cons, List.not_mem_nil, or_false] at hp; subst hp; exact ⟨by simp [y3, y4], by simp [y1, y2], rfl⟩)
    | (intro p hp; cases hp; done)
    | (simp; done)
    | (have hk2 := ltD (by assumption : decide ((k : Int) < (l.length : Int)) = true)
       simp only [List.length_append, List.length_map, List.length_take, List.length_cons, List.length_nil] at hb ⊢; omega)
    | (have hk2 := ltD (by assumption : decide ((k : Int) < (l.length : Int)) = true)
       rw [List.take_succ_eq_append_getElem hk2, List.map_append]
       refine Wk.keep hcl ?_ ?_ ?_ <;> simp [Fr.get, sto, y7, y8, arO, wrO, hk2])
    | (have hk2 : l.length ≤ k := geD (by assumption)
       rw [List.take_of_length_le hk2]
       refine wr_end3 ?_ ?_ ?_
       · simp [intsB, List.append_assoc]
       · simp [intsB, List.append_assoc, y8]
       · intro x z1 z2; simp [z1, z2, hid])
    | (refine wr_end3 ?_ ?_ ?_
       · simp [intsB, List.append_assoc]
       · simp [intsB, List.append_assoc, y8]
       · intro x z1 z2; simp [z1, z2, hid])
theorem bit_w (b : Bool) : Writes Try.prog 57 [Bo b] (bitB b) := by
  intro B σ m n bs hW hb
  refine own_ofL [(m, arO bs), (n, wrO m bs)] (hid_sto hW.am hW.an) hid_closed follows Try.func57 c57_eq r57 (Nat.le_of_ble_eq_true rfl) fun hcl hsz => ?_
  clear hsz
  obtain ⟨hm, hn, ne, am, an, free⟩ := hW
  have y1 : ∀ s, (n = B + s) = False := fun s => by simp; omega
  have y2 : ∀ s, (B + s = n) = False := fun s => by simp; omega
  have y3 : ∀ s, (m = B + s) = False := fun s => by simp; omega
  have y4 : ∀ s, (B + s = m) = False := fun s => by simp; omega
  have y5 : (m < B) = True := eq_true hm
  have y6 : (n < B) = True := eq_true hn
  have y7 : (m = n) = False := eq_false ne
  have y8 : (n = m) = False := eq_false (fun e => ne e.symm)
  have y9 : decide (m < B + 100000) = true := by simp; omega
  have y10 : decide (n < B + 100000) = true := by simp; omega
  have y11 : (B ≤ m) = False := eq_false (by omega)
  have hr1 := hid_m m n σ
  have hr2 := hid_n m n σ
  have hr3 := hid_kill free
  unfold bitB at hb
  cases b
  all_goals simp only [cond_true, cond_false] at hb
  repeat' (first | (simp -implicitDefEqProofs only [*, contN, contC, Nat.reduceBEq, Bool.or_false, Bool.or_true, Bool.false_or, Bool.true_or, Bool.not_true, Bool.not_false, SEconv, w_skip, w_ret, w_exit, w_reg, w_dreg, w_seq, SK_n, SK_r, SK_x, w_keep, w_block, w_cond, w_nil, w_cons, w_consg, w_nnil, w_ncons, w_dnil, w_dcons, w_dconsg, HK_app, HD_app, HQ_n, HQ_r, HQ_x, HQ_bn, HQ_br, HQ_bx, HQ_en, HQ_er, HQ_ex, CondB_true, CondB_false, SO1, w_sdv, SDe_alloc, SDe_box, SDe_bslice, SDe_app, true_imp_iff, false_imp_iff, and_false, false_and, not_false_eq_true, not_true_eq_false, addN, mkNames, killT, killD, killO, List.foldl_nil, List.foldl_cons, List.append_nil, List.nil_append, List.cons_append, GuardS_true, GuardS_false, GuardD_true, GuardD_false, DK_true, DK_false, lt_self_add, le_self_add, decide_true, decide_false, Bool.false_eq_true, Bool.true_eq_false, Nat.add_left_cancel_iff, SE, SEalloc, SEbox, SEstore, w_bs, SEbl, SEfz, SEbs0, fzName, osOf, AV.fz1, w_app, w_mk, aev, opd, Fr.get, putO, Fr.norm, List.map_cons, List.map_nil, with1, with2, onInt, AV.lit, entry, ↓reduceIte, Nat.reduceEqDiff, Nat.reduceAdd, reduceCtorEq, true_and, and_true, Option.map_some, Option.map_none, Option.bind_some, Option.bind_none, cond_true, cond_false, binV, unV, fieldV, loadV, sto, cellsAV, newF, newL, Fr.map, Loc.kill, Loc.set, AV.kill, AV.mapN, AV.mapNL, List.filter_nil, List.filter_cons, allP, EndV, retV, resV, resL, frz, dropL, AV.pick, nilV, tupV, imp_self, ne_eq, Int.cast_ofNat_Int, Int.reduceLT, Int.reduceToNat, List.getD_cons_zero, List.getD_cons_succ, bsliceV, buildV, afill, repl, chunk, rvs, AV.rv, RV.nrm, List.getElem?_nil, List.append_assoc, Nat.reduceMul, Nat.reducePow, Nat.zero_lt_succ, Nat.zero_add, Nat.add_zero, List.length_cons, List.length_nil, Nat.reduceLeDiff, Nat.le_refl, List.take_succ_cons, List.take_zero, List.drop_succ_cons, List.drop_zero, indexV, lenV, rowOf_mapD, rowOf_mapI, rowOf_mapA, List.length_map, Int.toNat_natCast, List.getElem?_cons_zero, List.getElem?_cons_succ, and_self, implies_true, if_true, if_false, HQ_zn, HQ_zr, HQ_wn, HQ_wr, AV.nz, AV.nzL, RV.nrm, SEbin, SEnil, nilK, srcV, dstV, appName, List.length_append, Nat.mul_one, take_map_len, take_map_app, List.getElem?_cons_zero, List.map_append, SEmkmap, SEmset, mgetV, kvOf, getM, setM, c57, r57, u57_1, u57_2, u57_3, aokB, aokD, aokA, ↓arO_allN, ↓wrO_allN, ↓arO_kill, wrO_kill, wrL, y1, y2, y3, y4, y5, y6, y7, y8, y9, y10, y11, cond_true, cond_false]) | (with_reducible refine And.intro ?_ ?_) | (refine call_w0 (by omega) (by omega) ne (fun _ => by simp) hr3 e12 ( put1_w (0)) rfl ?_ ?_ ?_ ?_ ?_ ?_) | (refine call_w1 (by omega) (by omega) ne (fun _ => by simp) hr3 e12 ( put1_w (0)) rfl ?_ ?_ ?_ ?_ ?_ ?_) | (refine call_w2 (by omega) (by omega) ne (fun _ => by simp) hr3 e12 ( put1_w (0)) rfl ?_ ?_ ?_ ?_ ?_ ?_) | (refine call_w0 (by omega) (by omega) ne (fun _ => by simp) hr3 e12 ( put1_w (1)) rfl ?_ ?_ ?_ ?_ ?_ ?_) | (refine call_w1 (by omega) (by omega) ne (fun _ => by simp) hr3 e12 ( put1_w (1)) rfl ?_ ?_ ?_ ?_ ?_ ?_) | (refine call_w2 (by omega) (by omega) ne (fun _ => by simp) hr3 e12 ( put1_w (1)) rfl ?_ ?_ ?_ ?_ ?_ ?_) | (refine EndX.plain ?_) | (refine nil_split (fun hn => ?_) (fun hn => ?_)) | (refine gcall_no not_false ?_) | (refine gdcall_no not_false ?_) | (refine GuardS_of _ _ _ _ _ _ (fun hg => ?_) (fun hg => ?_)) | (refine GuardD_of _ _ _ _ (fun hg => ?_) (fun hg => ?_)) | (refine CondB_of _ _ _ _ _ _ _ ?_ (fun hg => ?_) (fun hg => ?_)))
  all_goals (try (first | ((first | unfold noN | unfold Fr.below | unfold Loc.below); simp [Fr.allN, AV.allN, AV.allNL, AO.allN]; done) | rfl | trivial | assumption | (intro row hrow; simp only [List.mem_map] at hrow; obtain ⟨x, _, rfl⟩ := hrow; rfl) | (refine Wk.keep hcl ?_ ?_ ?_; (focus (simp [Fr.get, aokB, aokD, aokA, ↓arO_allN, ↓wrO_allN, ↓arO_kill, wrO_kill, wrL, y1, y2, y3, y4, y5, y6, y7, y8, y9, y10, y11, cond_true, cond_false] <;> fail)); (focus (simp [sto, aokB, aokD, aokA, ↓arO_allN, ↓wrO_allN, ↓arO_kill, wrO_kill, wrL, y1, y2, y3, y4, y5, y6, y7, y8, y9, y10, y11, cond_true, cond_false] <;> fail)); (focus (simp <;> fail))) | (simp [allP, opd, Fr.get, Fr.below, Fr.allN, AV.allN, AV.allNL, Loc.below, AO.allN, noN, killO, killT, killD, mkNames, AO.kill, AV.kill, AV.mapN, AV.mapNL]; done) | (with_reducible exact ltD (by assumption)) | omega | (simp only [decide_eq_true_eq, decide_eq_false_iff_not] at *; omega)))
  all_goals first
    | (simp [Fr.below, Fr.allN, AV.allN, AV.allNL, y9, y10]; done)
    | (unfold Loc.below; simp only [List.all_cons, List.all_nil, arO_allN, wrO_allN, y9, y10]; simp [AO.allN, AV.allN, AV.allNL]; done)
    | (simp only [List.length_append, List.length_cons, List.length_nil] at *; omega)
    | (intro p hp; simp only [List.mem_cons, List.not_mem_nil, or_false] at hp; rcases hp with rfl | rfl <;> exact ⟨by simp [y3, y4], by simp [y1, y2], rfl⟩)
    | (intro p hp; simp only [List.mem_cons, List.not_mem_nil, or_false] at hp; subst hp; exact ⟨by simp [y3, y4], by simp [y1, y2], rfl⟩)
    | (intro p hp; cases hp; done)
    | (simp; done)
    | (refine wr_end3 ?_ ?_ ?_
       · simp [bitB, cond_true, cond_false, List.append_assoc]
       · simp [bitB, cond_true, cond_false, List.append_assoc, y8]
       · intro x z1 z2; simp [z1, z2, hid])
theorem part_w (p : PartD) : Writes Try.prog 16 [p.avW] (partB p) := by
  intro B σ m n bs hW hb
  refine own_ofL [(m, arO bs), (n, wrO m bs)] (hid_sto hW.am hW.an) hid_closed follows Try.func16 c16_eq r16 (Nat.le_of_ble_eq_true rfl) fun hcl hsz => ?_
  clear hsz
  obtain ⟨hm, hn, ne, am, an, free⟩ := hW
  have y1 : ∀ s, (n = B + s) = False := fun s => by simp; omega
  have y2 : ∀ s, (B + s = n) = False := fun s => by simp; omega
  have y3 : ∀ s, (m = B + s) = False := fun s => by simp; omega
  have y4 : ∀ s, (B + s = m) = False := fun s => by simp; omega
  have y5 : (m < B) = True := eq_true hm
  have y6 : (n < B) = True := eq_true hn
  have y7 : (m = n) = False := eq_false ne
  have y8 : (n = m) = False := eq_false (fun e => ne e.symm)
  have y9 : decide (m < B + 100000) = true := by simp; omega
  have y10 : decide (n < B + 100000) = true := by simp; omega
  have y11 : (B ≤ m) = False := eq_false (by omega)
  have hr1 := hid_m m n σ
  have hr2 := hid_n m n σ
  have hr3 := hid_kill free
  unfold partB at hb
  repeat' (first | (simp -implicitDefEqProofs only [*, contN, contC, Nat.reduceBEq, Bool.or_false, Bool.or_true, Bool.false_or, Bool.true_or, Bool.not_true, Bool.not_false, SEconv, w_skip, w_ret, w_exit, w_reg, w_dreg, w_seq, SK_n, SK_r, SK_x, w_keep, w_block, w_cond, w_nil, w_cons, w_consg, w_nnil, w_ncons, w_dnil, w_dcons, w_dconsg, HK_app, HD_app, HQ_n, HQ_r, HQ_x, HQ_bn, HQ_br, HQ_bx, HQ_en, HQ_er, HQ_ex, CondB_true, CondB_false, SO1, w_sdv, SDe_alloc, SDe_box, SDe_bslice, SDe_app, true_imp_iff, false_imp_iff, and_false, false_and, not_false_eq_true, not_true_eq_false, addN, mkNames, killT, killD, killO, List.foldl_nil, List.foldl_cons, List.append_nil, List.nil_append, List.cons_append, GuardS_true, GuardS_false, GuardD_true, GuardD_false, DK_true, DK_false, lt_self_add, le_self_add, decide_true, decide_false, Bool.false_eq_true, Bool.true_eq_false, Nat.add_left_cancel_iff, SE, SEalloc, SEbox, SEstore, w_bs, SEbl, SEfz, SEbs0, fzName, osOf, AV.fz1, w_app, w_mk, aev, opd, Fr.get, putO, Fr.norm, List.map_cons, List.map_nil, with1, with2, onInt, AV.lit, entry, ↓reduceIte, Nat.reduceEqDiff, Nat.reduceAdd, reduceCtorEq, true_and, and_true, Option.map_some, Option.map_none, Option.bind_some, Option.bind_none, cond_true, cond_false, binV, unV, fieldV, loadV, sto, cellsAV, newF, newL, Fr.map, Loc.kill, Loc.set, AV.kill, AV.mapN, AV.mapNL, List.filter_nil, List.filter_cons, allP, EndV, retV, resV, resL, frz, dropL, AV.pick, nilV, tupV, imp_self, ne_eq, Int.cast_ofNat_Int, Int.reduceLT, Int.reduceToNat, List.getD_cons_zero, List.getD_cons_succ, bsliceV, buildV, afill, repl, chunk, rvs, AV.rv, RV.nrm, List.getElem?_nil, List.append_assoc, Nat.reduceMul, Nat.reducePow, Nat.zero_lt_succ, Nat.zero_add, Nat.add_zero, List.length_cons, List.length_nil, Nat.reduceLeDiff, Nat.le_refl, List.take_succ_cons, List.take_zero, List.drop_succ_cons, List.drop_zero, indexV, lenV, rowOf_mapD, rowOf_mapI, rowOf_mapA, List.length_map, Int.toNat_natCast, List.getElem?_cons_zero, List.getElem?_cons_succ, and_self, implies_true, if_true, if_false, HQ_zn, HQ_zr, HQ_wn, HQ_wr, AV.nz, AV.nzL, RV.nrm, SEbin, SEnil, nilK, srcV, dstV, appName, List.length_append, Nat.mul_one, take_map_len, take_map_app, List.getElem?_cons_zero, List.map_append, SEmkmap, SEmset, mgetV, kvOf, getM, setM, c16, r16, u16_1, u16_2, u16_3, ty57, ty3, ty26, aokB, aokD, aokA, ↓arO_allN, ↓wrO_allN, ↓arO_kill, wrO_kill, wrL, y1, y2, y3, y4, y5, y6, y7, y8, y9, y10, y11, PartD.avW, PartD.row, ints]) | (with_reducible refine And.intro ?_ ?_) | (refine call_w0 (by omega) (by omega) ne (fun _ => by simp) hr3 e12 ( put1_w (p.num)) rfl ?_ ?_ ?_ ?_ ?_ ?_) | (refine call_w1 (by omega) (by omega) ne (fun _ => by simp) hr3 e12 ( put1_w (p.num)) rfl ?_ ?_ ?_ ?_ ?_ ?_) | (refine call_w2 (by omega) (by omega) ne (fun _ => by simp) hr3 e12 ( put1_w (p.num)) rfl ?_ ?_ ?_ ?_ ?_ ?_) | (refine call_w0 (by omega) (by omega) ne (fun _ => by simp) hr3 e12 ( put_w (p.size) 2 (by omega) (by omega)) rfl ?_ ?_ ?_ ?_ ?_ ?_) | (refine call_w1 (by omega) (by omega) ne (fun _ => by simp) hr3 e12 ( put_w (p.size) 2 (by omega) (by omega)) rfl ?_ ?_ ?_ ?_ ?_ ?_) | (refine call_w2 (by omega) (by omega) ne (fun _ => by simp) hr3 e12 ( put_w (p.size) 2 (by omega) (by omega)) rfl ?_ ?_ ?_ ?_ ?_ ?_) | (refine call_w0 (by omega) (by omega) ne (fun _ => by simp) hr3 e18 ( ints_w p.secs) rfl ?_ ?_ ?_ ?_ ?_ ?_) | (refine call_w1 (by omega) (by omega) ne (fun _ => by simp) hr3 e18 ( ints_w p.secs) rfl ?_ ?_ ?_ ?_ ?_ ?_) | (refine call_w2 (by omega) (by omega) ne (fun _ => by simp) hr3 e18 ( ints_w p.secs) rfl ?_ ?_ ?_ ?_ ?_ ?_) | (refine EndX.plain ?_) | (refine nil_split (fun hn => ?_) (fun hn => ?_)) | (refine gcall_no not_false ?_) | (refine gdcall_no not_false ?_) | (refine GuardS_of _ _ _ _ _ _ (fun hg => ?_) (fun hg => ?_)) | (refine GuardD_of _ _ _ _ (fun hg => ?_) (fun hg => ?_)) | (refine CondB_of _ _ _ _ _ _ _ ?_ (fun hg => ?_) (fun hg => ?_)))
  all_goals (try (first | ((first | unfold noN | unfold Fr.below | unfold Loc.below); simp [Fr.allN, AV.allN, AV.allNL, AO.allN]; done) | rfl | trivial | assumption | (intro row hrow; simp only [List.mem_map] at hrow; obtain ⟨x, _, rfl⟩ := hrow; rfl) | (refine Wk.keep hcl ?_ ?_ ?_; (focus (simp [Fr.get, aokB, aokD, aokA, ↓arO_allN, ↓wrO_allN, ↓arO_kill, wrO_kill, wrL, y1, y2, y3, y4, y5, y6, y7, y8, y9, y10, y11, PartD.avW, PartD.row, ints] <;> fail)); (focus (simp [sto, aokB, aokD, aokA, ↓arO_allN, ↓wrO_allN, ↓arO_kill, wrO_kill, wrL, y1, y2, y3, y4, y5, y6, y7, y8, y9, y10, y11, PartD.avW, PartD.row, ints] <;> fail)); (focus (simp <;> fail))) | (simp [allP, opd, Fr.get, Fr.below, Fr.allN, AV.allN, AV.allNL, Loc.below, AO.allN, noN, killO, killT, killD, mkNames, AO.kill, AV.kill, AV.mapN, AV.mapNL]; done) | (with_reducible exact ltD (by assumption)) | omega | (simp only [decide_eq_true_eq, decide_eq_false_iff_not] at *; omega)))
  all_goals first
    | (simp [Fr.below, Fr.allN, AV.allN, AV.allNL, y9, y10]; done)
    | (unfold Loc.below; simp only [List.all_cons, List.all_nil, arO_allN, wrO_allN, y9, y10]; simp [AO.allN, AV.allN, AV.allNL]; done)
    | (simp only [List.length_append, List.length_cons, List.length_nil] at *; omega)
    | (intro p hp; simp only [List.mem_cons, List.not_mem_nil, or_false] at hp; rcases hp with rfl | rfl <;> exact ⟨by simp [y3, y4], by simp [y1, y2], rfl⟩)
    | (intro p hp; simp only [List.mem_cons, List.not_mem_nil, or_false] at hp; subst hp; exact ⟨by simp [y3, y4], by simp [y1, y2], rfl⟩)
    | (intro p hp; cases hp; done)
    | (simp; done)
    | (refine wr_end3 ?_ ?_ ?_
       · simp [partB, List.append_assoc]
       · simp [partB, List.append_assoc, y8]
       · intro x z1 z2; simp [z1, z2, hid])
theorem rule_w (a : ByteArray) (x y : Int) (hs : a.size ≤ 2 ^ 40) : Writes Try.prog 14 [.agg [.d (.v (.string a)), I x, I y]] (ruleB a x y) := by
  intro B σ m n bs hW hb
  refine own_ofL [(m, arO bs), (n, wrO m bs)] (hid_sto hW.am hW.an) hid_closed follows Try.func14 c14_eq r14 (Nat.le_of_ble_eq_true rfl) fun hcl hsz => ?_
  clear hsz
  obtain ⟨hm, hn, ne, am, an, free⟩ := hW
  have y1 : ∀ s, (n = B + s) = False := fun s => by simp; omega
  have y2 : ∀ s, (B + s = n) = False := fun s => by simp; omega
  have y3 : ∀ s, (m = B + s) = False := fun s => by simp; omega
  have y4 : ∀ s, (B + s = m) = False := fun s => by simp; omega
  have y5 : (m < B) = True := eq_true hm
  have y6 : (n < B) = True := eq_true hn
  have y7 : (m = n) = False := eq_false ne
  have y8 : (n = m) = False := eq_false (fun e => ne e.symm)
  have y9 : decide (m < B + 100000) = true := by simp; omega
  have y10 : decide (n < B + 100000) = true := by simp; omega
  have y11 : (B ≤ m) = False := eq_false (by omega)
  have hr1 := hid_m m n σ
  have hr2 := hid_n m n σ
  have hr3 := hid_kill free
  unfold ruleB at hb
  repeat' (first | (simp -implicitDefEqProofs only [*, contN, contC, Nat.reduceBEq, Bool.or_false, Bool.or_true, Bool.false_or, Bool.true_or, Bool.not_true, Bool.not_false, SEconv, w_skip, w_ret, w_exit, w_reg, w_dreg, w_seq, SK_n, SK_r, SK_x, w_keep, w_block, w_cond, w_nil, w_cons, w_consg, w_nnil, w_ncons, w_dnil, w_dcons, w_dconsg, HK_app, HD_app, HQ_n, HQ_r, HQ_x, HQ_bn, HQ_br, HQ_bx, HQ_en, HQ_er, HQ_ex, CondB_true, CondB_false, SO1, w_sdv, SDe_alloc, SDe_box, SDe_bslice, SDe_app, true_imp_iff, false_imp_iff, and_false, false_and, not_false_eq_true, not_true_eq_false, addN, mkNames, killT, killD, killO, List.foldl_nil, List.foldl_cons, List.append_nil, List.nil_append, List.cons_append, GuardS_true, GuardS_false, GuardD_true, GuardD_false, DK_true, DK_false, lt_self_add, le_self_add, decide_true, decide_false, Bool.false_eq_true, Bool.true_eq_false, Nat.add_left_cancel_iff, SE, SEalloc, SEbox, SEstore, w_bs, SEbl, SEfz, SEbs0, fzName, osOf, AV.fz1, w_app, w_mk, aev, opd, Fr.get, putO, Fr.norm, List.map_cons, List.map_nil, with1, with2, onInt, AV.lit, entry, ↓reduceIte, Nat.reduceEqDiff, Nat.reduceAdd, reduceCtorEq, true_and, and_true, Option.map_some, Option.map_none, Option.bind_some, Option.bind_none, cond_true, cond_false, binV, unV, fieldV, loadV, sto, cellsAV, newF, newL, Fr.map, Loc.kill, Loc.set, AV.kill, AV.mapN, AV.mapNL, List.filter_nil, List.filter_cons, allP, EndV, retV, resV, resL, frz, dropL, AV.pick, nilV, tupV, imp_self, ne_eq, Int.cast_ofNat_Int, Int.reduceLT, Int.reduceToNat, List.getD_cons_zero, List.getD_cons_succ, bsliceV, buildV, afill, repl, chunk, rvs, AV.rv, RV.nrm, List.getElem?_nil, List.append_assoc, Nat.reduceMul, Nat.reducePow, Nat.zero_lt_succ, Nat.zero_add, Nat.add_zero, List.length_cons, List.length_nil, Nat.reduceLeDiff, Nat.le_refl, List.take_succ_cons, List.take_zero, List.drop_succ_cons, List.drop_zero, indexV, lenV, rowOf_mapD, rowOf_mapI, rowOf_mapA, List.length_map, Int.toNat_natCast, List.getElem?_cons_zero, List.getElem?_cons_succ, and_self, implies_true, if_true, if_false, HQ_zn, HQ_zr, HQ_wn, HQ_wr, AV.nz, AV.nzL, RV.nrm, SEbin, SEnil, nilK, srcV, dstV, appName, List.length_append, Nat.mul_one, take_map_len, take_map_app, List.getElem?_cons_zero, List.map_append, SEmkmap, SEmset, mgetV, kvOf, getM, setM, c14, r14, u14_1, u14_2, u14_3, ty45, ty9, ty3, aokB, aokD, aokA, ↓arO_allN, ↓wrO_allN, ↓arO_kill, wrO_kill, wrL, y1, y2, y3, y4, y5, y6, y7, y8, y9, y10, y11, List.map_nil]) | (with_reducible refine And.intro ?_ ?_) | (refine call_w0 (by omega) (by omega) ne (fun _ => by simp) hr3 e13 ( text_w a hs) rfl ?_ ?_ ?_ ?_ ?_ ?_) | (refine call_w1 (by omega) (by omega) ne (fun _ => by simp) hr3 e13 ( text_w a hs) rfl ?_ ?_ ?_ ?_ ?_ ?_) | (refine call_w2 (by omega) (by omega) ne (fun _ => by simp) hr3 e13 ( text_w a hs) rfl ?_ ?_ ?_ ?_ ?_ ?_) | (refine call_w0 (by omega) (by omega) ne (fun _ => by simp) hr3 e12 ( put_w (IntKind.i64.wrap (x + 1)) 4 (by omega) (by omega)) rfl ?_ ?_ ?_ ?_ ?_ ?_) | (refine call_w1 (by omega) (by omega) ne (fun _ => by simp) hr3 e12 ( put_w (IntKind.i64.wrap (x + 1)) 4 (by omega) (by omega)) rfl ?_ ?_ ?_ ?_ ?_ ?_) | (refine call_w2 (by omega) (by omega) ne (fun _ => by simp) hr3 e12 ( put_w (IntKind.i64.wrap (x + 1)) 4 (by omega) (by omega)) rfl ?_ ?_ ?_ ?_ ?_ ?_) | (refine call_w0 (by omega) (by omega) ne (fun _ => by simp) hr3 e12 ( put_w (IntKind.i64.wrap (y + 1)) 4 (by omega) (by omega)) rfl ?_ ?_ ?_ ?_ ?_ ?_) | (refine call_w1 (by omega) (by omega) ne (fun _ => by simp) hr3 e12 ( put_w (IntKind.i64.wrap (y + 1)) 4 (by omega) (by omega)) rfl ?_ ?_ ?_ ?_ ?_ ?_) | (refine call_w2 (by omega) (by omega) ne (fun _ => by simp) hr3 e12 ( put_w (IntKind.i64.wrap (y + 1)) 4 (by omega) (by omega)) rfl ?_ ?_ ?_ ?_ ?_ ?_) | (refine EndX.plain ?_) | (refine nil_split (fun hn => ?_) (fun hn => ?_)) | (refine gcall_no not_false ?_) | (refine gdcall_no not_false ?_) | (refine GuardS_of _ _ _ _ _ _ (fun hg => ?_) (fun hg => ?_)) | (refine GuardD_of _ _ _ _ (fun hg => ?_) (fun hg => ?_)) | (refine CondB_of _ _ _ _ _ _ _ ?_ (fun hg => ?_) (fun hg => ?_)))
  all_goals (try (first | ((first | unfold noN | unfold Fr.below | unfold Loc.below); simp [Fr.allN, AV.allN, AV.allNL, AO.allN]; done) | rfl | trivial | assumption | (intro row hrow; simp only [List.mem_map] at hrow; obtain ⟨x, _, rfl⟩ := hrow; rfl) | (refine Wk.keep hcl ?_ ?_ ?_; (focus (simp [Fr.get, aokB, aokD, aokA, ↓arO_allN, ↓wrO_allN, ↓arO_kill, wrO_kill, wrL, y1, y2, y3, y4, y5, y6, y7, y8, y9, y10, y11, List.map_nil] <;> fail)); (focus (simp [sto, aokB, aokD, aokA, ↓arO_allN, ↓wrO_allN, ↓arO_kill, wrO_kill, wrL, y1, y2, y3, y4, y5, y6, y7, y8, y9, y10, y11, List.map_nil] <;> fail)); (focus (simp <;> fail))) | (simp [allP, opd, Fr.get, Fr.below, Fr.allN, AV.allN, AV.allNL, Loc.below, AO.allN, noN, killO, killT, killD, mkNames, AO.kill, AV.kill, AV.mapN, AV.mapNL]; done) | (with_reducible exact ltD (by assumption)) | omega | (simp only [decide_eq_true_eq, decide_eq_false_iff_not] at *; omega)))
  all_goals first
    | (simp [Fr.below, Fr.allN, AV.allN, AV.allNL, y9, y10]; done)
    | (unfold Loc.below; simp only [List.all_cons, List.all_nil, arO_allN, wrO_allN, y9, y10]; simp [AO.allN, AV.allN, AV.allNL]; done)
    | (simp only [List.length_append, List.length_cons, List.length_nil] at *; omega)
    | (intro p hp; simp only [List.mem_cons, List.not_mem_nil, or_false] at hp; rcases hp with rfl | rfl <;> exact ⟨by simp [y3, y4], by simp [y1, y2], rfl⟩)
    | (intro p hp; simp only [List.mem_cons, List.not_mem_nil, or_false] at hp; subst hp; exact ⟨by simp [y3, y4], by simp [y1, y2], rfl⟩)
    | (intro p hp; cases hp; done)
    | (simp; done)
    | (refine wr_end3 ?_ ?_ ?_
       · simp [ruleB, List.append_assoc]
       · simp [ruleB, List.append_assoc, y8]
       · intro x z1 z2; simp [z1, z2, hid])
end Go.Proofs.Ytijpmidnclbhpaa
