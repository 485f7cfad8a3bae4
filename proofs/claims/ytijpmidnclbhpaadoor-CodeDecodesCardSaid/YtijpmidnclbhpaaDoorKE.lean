/- The reference's eye on bytes: its number. -/
import Derived.Test.YtijpmidnclbhpaaDoorKUD
import Derived.Test.YtijpmidnclbhpaaDoorSmall
import Derived.Test.YtijpmidnclbhpaaDoorTypes
namespace Go.Proofs.YtijpmidnclbhpaaDoor
open Go.RowKit
set_option maxRecDepth 100000
def o24_1 : List SO := ((SO.mk (some 14) (.faddr 58 (.tmp 13) 1) none) :: (SO.mk (some 15) (.load 3 (.tmp 14)) none) :: (SO.mk (some 16) (.bin .sub 3 (.tmp 11) (.tmp 15)) none) :: (SO.mk (some 17) (.bin .gtr 3 (.tmp 6) (.tmp 16)) none) :: [])
theorem v24_1 : type_of% (@swd _ _ o24_1.eq_1) := @swd _ _ o24_1.eq_1
def o24_2 : List SO := ((SO.mk (some 10) (.load 36 (.tmp 9)) none) :: (SO.mk (some 11) (.len 36 (.tmp 10)) none) :: (SO.mk (some 12) (.move (.tmp 0)) none) :: (SO.mk (some 13) (.nilCheck (.tmp 12)) none) :: o24_1)
theorem v24_2 : type_of% (@swd _ _ o24_2.eq_1) := @swd _ _ o24_2.eq_1
def o24_3 : List SO := ((SO.mk (some 6) (.move (.tmp 1)) none) :: (SO.mk (some 7) (.move (.tmp 0)) none) :: (SO.mk (some 8) (.nilCheck (.tmp 7)) none) :: (SO.mk (some 9) (.faddr 58 (.tmp 8) 0) none) :: o24_2)
theorem v24_3 : type_of% (@swd _ _ o24_3.eq_1) := @swd _ _ o24_3.eq_1
theorem m24_3 (B : Nat) : mkNames B o24_3 = [] := (rfl)
def c24_4 : SC := (.reg [SO.mk (some 23) (.move (.tmp 0)) none, SO.mk (some 24) (.nilCheck (.tmp 23)) none, SO.mk (some 25) (.faddr 58 (.tmp 24) 2) none, SO.mk none (.store 33 (.tmp 25) (.const (Value.int .i64 5))) none])
theorem u24_4 : type_of% (@swc _ _ c24_4.eq_1) := @swc _ _ c24_4.eq_1
def c24_5 : SC := (.cond (.tmp 22) c24_4 .skip)
theorem u24_5 : type_of% (@swc _ _ c24_5.eq_1) := @swc _ _ c24_5.eq_1
def o24_6 : List SO := ((SO.mk none (.store 3 (.tmp 33) (.tmp 31)) none) :: [])
theorem v24_6 : type_of% (@swl _ _ o24_6.eq_1) := @swl _ _ o24_6.eq_1
def o24_7 : List SO := ((SO.mk (some 30) (.load 36 (.tmp 29)) none) :: (SO.mk (some 31) (.len 36 (.tmp 30)) none) :: (SO.mk (some 32) (.nilCheck (.tmp 26)) none) :: (SO.mk (some 33) (.faddr 58 (.tmp 32) 1) none) :: o24_6)
theorem v24_7 : type_of% (@swl _ _ o24_7.eq_1) := @swl _ _ o24_7.eq_1
def c24_8 : SC := (.seq (.reg [SO.mk (some 4) (.move (.const (Value.int .i64 0))) none]) (.keep [4] .ret))
theorem u24_8 : type_of% (@swc _ _ c24_8.eq_1) := @swc _ _ c24_8.eq_1
def c24_9 : SC := (.seq (.reg ((SO.mk (some 26) (.move (.tmp 0)) none) :: (SO.mk (some 27) (.move (.tmp 0)) none) :: (SO.mk (some 28) (.nilCheck (.tmp 27)) none) :: (SO.mk (some 29) (.faddr 58 (.tmp 28) 0) none) :: o24_7)) (.keep [] c24_8))
theorem u24_9 : type_of% (@swc _ _ c24_9.eq_1) := @swc _ _ c24_9.eq_1
def c24_10 : SC := (.seq (.seq (.reg [SO.mk (some 18) (.move (.tmp 0)) none, SO.mk (some 19) (.nilCheck (.tmp 18)) none, SO.mk (some 20) (.faddr 58 (.tmp 19) 2) none, SO.mk (some 21) (.load 33 (.tmp 20)) none, SO.mk (some 22) (.bin .eql 33 (.tmp 21) (.const (Value.int .i64 0))) none]) (.keep [22, 0] c24_5)) (.keep [0] c24_9))
theorem u24_10 : type_of% (@swc _ _ c24_10.eq_1) := @swc _ _ c24_10.eq_1
def c24_11 : SC := (.cond (.tmp 17) c24_10 .skip)
theorem u24_11 : type_of% (@swc _ _ c24_11.eq_1) := @swc _ _ c24_11.eq_1
def o24_12 : List SO := ((SO.mk (some 46) (.move (.tmp 1)) none) :: (SO.mk (some 47) (.bin .add 3 (.tmp 45) (.tmp 46)) none) :: (SO.mk (some 48) (.slice 36 (.tmp 37) (some (.tmp 41)) (some (.tmp 47))) none) :: [])
theorem v24_12 : type_of% (@swd _ _ o24_12.eq_1) := @swd _ _ o24_12.eq_1
def o24_13 : List SO := ((SO.mk (some 42) (.move (.tmp 0)) none) :: (SO.mk (some 43) (.nilCheck (.tmp 42)) none) :: (SO.mk (some 44) (.faddr 58 (.tmp 43) 1) none) :: (SO.mk (some 45) (.load 3 (.tmp 44)) none) :: o24_12)
theorem v24_13 : type_of% (@swd _ _ o24_13.eq_1) := @swd _ _ o24_13.eq_1
def o24_14 : List SO := ((SO.mk (some 38) (.move (.tmp 0)) none) :: (SO.mk (some 39) (.nilCheck (.tmp 38)) none) :: (SO.mk (some 40) (.faddr 58 (.tmp 39) 1) none) :: (SO.mk (some 41) (.load 3 (.tmp 40)) none) :: o24_13)
theorem v24_14 : type_of% (@swd _ _ o24_14.eq_1) := @swd _ _ o24_14.eq_1
def o24_15 : List SO := ((SO.mk (some 34) (.move (.tmp 0)) none) :: (SO.mk (some 35) (.nilCheck (.tmp 34)) none) :: (SO.mk (some 36) (.faddr 58 (.tmp 35) 0) none) :: (SO.mk (some 37) (.load 36 (.tmp 36)) none) :: o24_14)
theorem v24_15 : type_of% (@swd _ _ o24_15.eq_1) := @swd _ _ o24_15.eq_1
theorem m24_15 (B : Nat) : mkNames B o24_15 = [] := (rfl)
def o24_16 : List SO := ((SO.mk (some 58) (.faddr 58 (.tmp 57) 1) none) :: (SO.mk none (.store 3 (.tmp 58) (.tmp 56)) none) :: [])
theorem v24_16 : type_of% (@swl _ _ o24_16.eq_1) := @swl _ _ o24_16.eq_1
def o24_17 : List SO := ((SO.mk (some 54) (.load 3 (.tmp 53)) none) :: (SO.mk (some 55) (.move (.tmp 1)) none) :: (SO.mk (some 56) (.bin .add 3 (.tmp 54) (.tmp 55)) none) :: (SO.mk (some 57) (.nilCheck (.tmp 50)) none) :: o24_16)
theorem v24_17 : type_of% (@swl _ _ o24_17.eq_1) := @swl _ _ o24_17.eq_1
def c24_18 : SC := (.seq (.reg [SO.mk (some 59) (.move (.tmp 5)) none, SO.mk (some 4) (.move (.tmp 59)) none]) (.keep [4] .ret))
theorem u24_18 : type_of% (@swc _ _ c24_18.eq_1) := @swc _ _ c24_18.eq_1
def c24_19 : SC := (.seq (.reg ((SO.mk (some 50) (.move (.tmp 0)) none) :: (SO.mk (some 51) (.move (.tmp 0)) none) :: (SO.mk (some 52) (.nilCheck (.tmp 51)) none) :: (SO.mk (some 53) (.faddr 58 (.tmp 52) 1) none) :: o24_17)) (.keep [5] c24_18))
theorem u24_19 : type_of% (@swc _ _ c24_19.eq_1) := @swc _ _ c24_19.eq_1
def c24_20 : SC := (.seq (.dreg false o24_15 [SO.mk (some 49) (.call 43 [(.tmp 48)]) none, SO.mk (some 5) (.move (.tmp 49)) none]) (.keep [0, 1, 5] c24_19))
theorem u24_20 : type_of% (@swc _ _ c24_20.eq_1) := @swc _ _ c24_20.eq_1
def c24_21 : SC := (.seq (.seq (.dreg false o24_3 []) (.keep [17, 0, 1] c24_11)) (.keep [0, 1] c24_20))
theorem u24_21 : type_of% (@swc _ _ c24_21.eq_1) := @swc _ _ c24_21.eq_1
def c24 : SC := (.seq (.reg [SO.mk (some 4) (.move (.const (Value.int .i64 0))) none]) (.keep [0, 1] c24_21))
theorem c24_eq : annC Tryd.f24 = some c24 := by kernel_rfl
theorem r24 : Tryd.f24.results.toList = [.tmp 4] := by kernel_rfl
theorem e24 : enters Tryd.prog 24 = true := by kernel_rfl
end Go.Proofs.YtijpmidnclbhpaaDoor
namespace Go.Proofs.YtijpmidnclbhpaaDoor
open Go.RowKit
set_option maxHeartbeats 4000000
set_option maxRecDepth 20000
attribute [local irreducible] SW SWL SWLn SWD SEcall SEcallv SDv SE SO1 SOg ACalls ACallv Wk EndV
set_option linter.unusedSimpArgs false
set_option linter.unusedVariables false
def eyO (bb b : List UInt8) (e : Int) : AO := .box [.d (.ro (bb.map by_)), I ((bb.length : Int) - b.length), I e]
theorem eyO_allN (bb b : List UInt8) (e : Int) (q : Nat → Bool) : (eyO bb b e).allN q = true := rfl
theorem eyO_kill (bb b : List UInt8) (e : Int) (n : Nat) : (eyO bb b e).kill n = eyO bb b e := rfl
def Looks (P : Program) (f : FuncId) (args : List AV) (V : RdS → AV) (S : RdS → RdS) (pre : RdS → Prop) : Prop := ∀ (B : Nat) (σ : Sto) (n : Nat) (bb b : List UInt8) (e : Int), n < B → σ n = eyO bb b e → b <:+ bb → bb.length ≤ 2 ^ 47 → pre (b, e) → ACalls P f (.lp n 0 :: args) σ B [] (fun v σ' => v = V (b, e) ∧ σ' = sto [(n, eyO bb (S (b, e)).1 (S (b, e)).2)] σ)
theorem call_e0 {P : Program} {B : Nat} {T0 : List Nat} {r : Sto} {a : Fr} {d : Option Nat} {K : Fr → Loc → Prop} {f : FuncId} {args : List Operand} {vs : List AV} {V : RdS → AV} {S : RdS → RdS} {pc : RdS → Prop} {bb b : List UInt8} {e : Int} {n : Nat} {pre : Loc} (hn : n < B + 100000) (he : enters P f = true) (hR : Looks P f vs V S pc) (hv : (args.map fun x => (opd a x).2) = .lp n 0 :: vs) (hs : pc (b, e)) (hx : b <:+ bb) (hbb : bb.length ≤ 2 ^ 47) (hpre : ∀ p ∈ pre, (p.1 = n) = False) (hp : allP (args.map fun x => (opd a x).1)) (hF : Fr.below (B + 100000) a) (hL : Loc.below (B + 100000) ((n, eyO bb b e) :: pre)) (hk : K (putO d (V (b, e)) a) ((n, eyO bb (S (b, e)).1 (S (b, e)).2) :: pre)) : SEcall P B T0 r d K a ((n, eyO bb b e) :: pre) f args := by
  have e1 : sto ((n, eyO bb b e) :: pre) r = sto ((n, eyO bb b e) :: pre) r := sto1_swap (Q := []) (fun p hp => hpre p (List.mem_append_left (bs := pre) hp))
  have e2 : ∀ A, sto [(n, A)] (sto ((n, eyO bb b e) :: pre) r) = sto ((n, A) :: pre) r := fun A => by rw [e1]; exact sto1_over _ _ _ _ _
  unfold SEcall
  refine ⟨[], fun v' σ' => v' = V (b, e) ∧ σ' = sto [(n, eyO bb (S (b, e)).1 (S (b, e)).2)] (sto ((n, eyO bb b e) :: pre) r), a, _, Wk.refl _ _ _ _ _, he, (fun x hx => by cases hx), by rw [hv]; exact hR _ _ n bb b e hn (by rw [e1]; simp [sto]) hx hbb hs, hp, hF, hL, fun v' σ' ⟨h1, h2⟩ => ⟨(n, eyO bb (S (b, e)).1 (S (b, e)).2) :: pre, by rw [h2, e2], by rw [h1]; exact hk⟩⟩
theorem call_e1 {P : Program} {B : Nat} {T0 : List Nat} {r : Sto} {a : Fr} {d : Option Nat} {K : Fr → Loc → Prop} {f : FuncId} {args : List Operand} {vs : List AV} {V : RdS → AV} {S : RdS → RdS} {pc : RdS → Prop} {bb b : List UInt8} {e : Int} {n : Nat} {p1 : Nat × AO} {pre : Loc} (hn : n < B + 100000) (he : enters P f = true) (hR : Looks P f vs V S pc) (hv : (args.map fun x => (opd a x).2) = .lp n 0 :: vs) (hs : pc (b, e)) (hx : b <:+ bb) (hbb : bb.length ≤ 2 ^ 47) (hpre : ∀ p ∈ p1 :: pre, (p.1 = n) = False) (hp : allP (args.map fun x => (opd a x).1)) (hF : Fr.below (B + 100000) a) (hL : Loc.below (B + 100000) (p1 :: (n, eyO bb b e) :: pre)) (hk : K (putO d (V (b, e)) a) ((n, eyO bb (S (b, e)).1 (S (b, e)).2) :: p1 :: pre)) : SEcall P B T0 r d K a (p1 :: (n, eyO bb b e) :: pre) f args := by
  have e1 : sto (p1 :: (n, eyO bb b e) :: pre) r = sto ((n, eyO bb b e) :: p1 :: pre) r := sto1_swap (Q := [p1]) (fun p hp => hpre p (List.mem_append_left (bs := pre) hp))
  have e2 : ∀ A, sto [(n, A)] (sto (p1 :: (n, eyO bb b e) :: pre) r) = sto ((n, A) :: p1 :: pre) r := fun A => by rw [e1]; exact sto1_over _ _ _ _ _
  unfold SEcall
  refine ⟨[], fun v' σ' => v' = V (b, e) ∧ σ' = sto [(n, eyO bb (S (b, e)).1 (S (b, e)).2)] (sto (p1 :: (n, eyO bb b e) :: pre) r), a, _, Wk.refl _ _ _ _ _, he, (fun x hx => by cases hx), by rw [hv]; exact hR _ _ n bb b e hn (by rw [e1]; simp [sto]) hx hbb hs, hp, hF, hL, fun v' σ' ⟨h1, h2⟩ => ⟨(n, eyO bb (S (b, e)).1 (S (b, e)).2) :: p1 :: pre, by rw [h2, e2], by rw [h1]; exact hk⟩⟩
theorem call_e2 {P : Program} {B : Nat} {T0 : List Nat} {r : Sto} {a : Fr} {d : Option Nat} {K : Fr → Loc → Prop} {f : FuncId} {args : List Operand} {vs : List AV} {V : RdS → AV} {S : RdS → RdS} {pc : RdS → Prop} {bb b : List UInt8} {e : Int} {n : Nat} {p1 : Nat × AO} {p2 : Nat × AO} {pre : Loc} (hn : n < B + 100000) (he : enters P f = true) (hR : Looks P f vs V S pc) (hv : (args.map fun x => (opd a x).2) = .lp n 0 :: vs) (hs : pc (b, e)) (hx : b <:+ bb) (hbb : bb.length ≤ 2 ^ 47) (hpre : ∀ p ∈ p1 :: p2 :: pre, (p.1 = n) = False) (hp : allP (args.map fun x => (opd a x).1)) (hF : Fr.below (B + 100000) a) (hL : Loc.below (B + 100000) (p1 :: p2 :: (n, eyO bb b e) :: pre)) (hk : K (putO d (V (b, e)) a) ((n, eyO bb (S (b, e)).1 (S (b, e)).2) :: p1 :: p2 :: pre)) : SEcall P B T0 r d K a (p1 :: p2 :: (n, eyO bb b e) :: pre) f args := by
  have e1 : sto (p1 :: p2 :: (n, eyO bb b e) :: pre) r = sto ((n, eyO bb b e) :: p1 :: p2 :: pre) r := sto1_swap (Q := [p1, p2]) (fun p hp => hpre p (List.mem_append_left (bs := pre) hp))
  have e2 : ∀ A, sto [(n, A)] (sto (p1 :: p2 :: (n, eyO bb b e) :: pre) r) = sto ((n, A) :: p1 :: p2 :: pre) r := fun A => by rw [e1]; exact sto1_over _ _ _ _ _
  unfold SEcall
  refine ⟨[], fun v' σ' => v' = V (b, e) ∧ σ' = sto [(n, eyO bb (S (b, e)).1 (S (b, e)).2)] (sto (p1 :: p2 :: (n, eyO bb b e) :: pre) r), a, _, Wk.refl _ _ _ _ _, he, (fun x hx => by cases hx), by rw [hv]; exact hR _ _ n bb b e hn (by rw [e1]; simp [sto]) hx hbb hs, hp, hF, hL, fun v' σ' ⟨h1, h2⟩ => ⟨(n, eyO bb (S (b, e)).1 (S (b, e)).2) :: p1 :: p2 :: pre, by rw [h2, e2], by rw [h1]; exact hk⟩⟩
theorem suf_drop {b bb : List UInt8} (h : b <:+ bb) : List.drop ((bb.length : Int) - b.length).toNat bb = b := by
  obtain ⟨t, rfl⟩ := h
  rw [show (((t ++ b).length : Int) - b.length).toNat = t.length by rw [List.length_append]; omega, List.drop_left]
theorem takS_suf (s : RdS) (k : Nat) : (takS s k).1 <:+ s.1 := by
  unfold takS
  cases decide ((s.1.length : Int) < (k : Int))
  · exact List.drop_suffix _ _
  · exact List.nil_suffix
theorem textS_suf (s : RdS) : (textS s).1 <:+ s.1 := by
  unfold textS
  cases txBad s
  · exact (List.drop_suffix _ _).trans (takS_suf s 1)
  · exact (takS_suf _ _).trans (takS_suf s 1)
theorem bitS_suf (s : RdS) : (bitS s).1 <:+ s.1 := by
  unfold bitS
  cases (decide (takN s 1 > 1) && (takS s 1).2 == 0) <;> exact takS_suf s 1
theorem itS_suf (s : RdS) : ∀ k, (itS s k).1 <:+ s.1
  | 0 => takS_suf s 1
  | k + 1 => (takS_suf _ 1).trans (itS_suf s k)
theorem intsS_suf (s : RdS) : (intsS s).1 <:+ s.1 := itS_suf s _
theorem num_L (k : Nat) (hk8 : k ≤ 2 ^ 40) : Looks Tryd.prog 24 [I k] (fun s => I (takN s k)) (fun s => takS s k) (fun s => k ≤ 4 ∨ s.1.length < k) := by
  intro B σ n bb b e hn hσ hx hbb hp
  refine own_ofL [(n, eyO bb b e)] (hid1_sto hσ) hid1_closed follows Tryd.func24 c24_eq r24 (Nat.le_of_ble_eq_true rfl) fun hcl hsz => ?_
  clear hsz
  have y1 : ∀ s, (n = B + s) = False := fun s => by simp; omega
  have y2 : ∀ s, (B + s = n) = False := fun s => by simp; omega
  have y3 : (n < B) = True := eq_true hn
  have y4 : decide (n < B) = true := by simpa using hn
  have y5 : decide (n < B + 100000) = true := by simp; omega
  have hbl : b.length ≤ bb.length := hx.length_le
  have hd := suf_drop hx
  have w1 : IntKind.i64.wrap ((bb.length : Int) - ((bb.length : Int) - b.length)) = b.length := by rw [IntWalk.i64_in _ (by omega)]; omega
  have w2 : IntKind.i64.wrap ((bb.length : Int) - b.length + k) = (bb.length : Int) - b.length + k := IntWalk.i64_in _ (by omega)
  have w3 : ((bb.length : Int) - b.length + k).toNat - ((bb.length : Int) - b.length).toNat = k := by omega
  clear hσ
  cases hl : decide ((k : Int) > (b.length : Int))
  all_goals (try (
    have hk4 : k ≤ 4 := by simp at hl hp; omega
    have hkl : k ≤ b.length := by simp at hl; omega
    have hlt : (b.take k).length = k := by simp; omega
    have hsm := small_p (b.take k) (by omega)
    rw [hlt] at hsm))
  repeat' (first | (simp -implicitDefEqProofs only [*, contN, contC, Nat.reduceBEq, Bool.or_false, Bool.or_true, Bool.false_or, Bool.true_or, Bool.not_true, Bool.not_false, w_skip, w_ret, w_exit, w_reg, w_dreg, w_seq, SK_n, SK_r, SK_x, w_keep, w_block, w_cond, w_nil, w_cons, w_consg, w_nnil, w_ncons, w_dnil, w_dcons, w_dconsg, HK_app, HD_app, HQ_n, HQ_r, HQ_x, HQ_bn, HQ_br, HQ_bx, HQ_en, HQ_er, HQ_ex, CondB_true, CondB_false, SO1, w_sdv, SDe_alloc, SDe_box, SDe_bslice, SDe_app, true_imp_iff, false_imp_iff, and_false, false_and, not_false_eq_true, not_true_eq_false, addN, mkNames, killT, killD, killO, List.foldl_nil, List.foldl_cons, List.append_nil, List.nil_append, List.cons_append, GuardS_true, GuardS_false, GuardD_true, GuardD_false, DK_true, DK_false, lt_self_add, le_self_add, decide_true, decide_false, Bool.false_eq_true, Bool.true_eq_false, Nat.add_left_cancel_iff, SE, SEalloc, SEbox, SEstore, w_bs, SEbl, SEfz, SEbs0, fzName, osOf, AV.fz1, w_app, w_mk, aev, opd, Fr.get, putO, Fr.norm, List.map_cons, List.map_nil, with1, with2, onInt, AV.lit, entry, ↓reduceIte, Nat.reduceEqDiff, Nat.reduceAdd, reduceCtorEq, true_and, and_true, Option.map_some, Option.map_none, Option.bind_some, Option.bind_none, cond_true, cond_false, binV, unV, fieldV, loadV, sto, cellsAV, newF, newL, Fr.map, Loc.kill, Loc.set, AV.kill, AV.mapN, AV.mapNL, List.filter_nil, List.filter_cons, allP, EndV, retV, resV, resL, frz, dropL, AV.pick, nilV, tupV, imp_self, ne_eq, Int.cast_ofNat_Int, Int.reduceLT, Int.reduceToNat, List.getD_cons_zero, List.getD_cons_succ, bsliceV, buildV, afill, repl, chunk, rvs, AV.rv, RV.nrm, List.getElem?_nil, List.append_assoc, Nat.reduceMul, Nat.reducePow, Nat.zero_lt_succ, Nat.zero_add, Nat.add_zero, List.length_cons, List.length_nil, Nat.reduceLeDiff, Nat.le_refl, List.take_succ_cons, List.take_zero, List.drop_succ_cons, List.drop_zero, indexV, lenV, rowOf_mapD, rowOf_mapI, rowOf_mapA, List.length_map, Int.toNat_natCast, List.getElem?_cons_zero, List.getElem?_cons_succ, and_self, implies_true, if_true, if_false, HQ_zn, HQ_zr, HQ_wn, HQ_wr, AV.nz, AV.nzL, RV.nrm, SEbin, SEnil, nilK, srcV, dstV, appName, List.length_append, Nat.mul_one, take_map_len, take_map_app, List.getElem?_cons_zero, List.map_append, SEmkmap, SEmset, mgetV, kvOf, getM, setM, c24, r24, v24_1, v24_2, v24_3, m24_3, u24_4, u24_5, v24_6, v24_7, u24_8, u24_9, u24_10, u24_11, v24_12, v24_13, v24_14, v24_15, m24_15, v24_16, v24_17, u24_18, u24_19, u24_20, u24_21, ty58, ty36, ty3, ty33, ty5, aokB, aokD, aokA, eyO, y1, y2, y3, y4, y5, bnd, sliceV, Option.getD_some, Option.getD_none, Rows_byQ, bytes, ← List.map_take, ← List.map_drop, Nat.sub_zero]) | (with_reducible refine And.intro ?_ ?_) | (refine call_ro e43 ( hsm) rfl ?_ ?_ ?_ ?_) | (refine gcall_ro e43 ( hsm) rfl ?_ ?_ ?_ ?_) | (refine dcall_ro e43 ( hsm) rfl ?_ ?_ ?_ ?_) | (refine gdcall_ro rfl e43 ( hsm) rfl ?_ ?_ ?_ ?_) | (refine EndX.plain ?_) | (refine nil_split (fun hn => ?_) (fun hn => ?_)) | (refine gcall_no not_false ?_) | (refine gdcall_no not_false ?_) | (refine GuardS_of _ _ _ _ _ _ (fun hg => ?_) (fun hg => ?_)) | (refine GuardD_of _ _ _ _ (fun hg => ?_) (fun hg => ?_)) | (refine CondB_of _ _ _ _ _ _ _ ?_ (fun hg => ?_) (fun hg => ?_)))
  all_goals (try (first | ((first | unfold noN | unfold Fr.below | unfold Loc.below); simp [Fr.allN, AV.allN, AV.allNL, AO.allN]; done) | rfl | trivial | assumption | (intro row hrow; simp only [List.mem_map] at hrow; obtain ⟨x, _, rfl⟩ := hrow; rfl) | (refine Wk.keep hcl ?_ ?_ ?_; (focus (simp [Fr.get, aokB, aokD, aokA, eyO, y1, y2, y3, y4, y5, bnd, sliceV, Option.getD_some, Option.getD_none, Rows_byQ, bytes, ← List.map_take, ← List.map_drop, Nat.sub_zero] <;> fail)); (focus (simp [sto, aokB, aokD, aokA, eyO, y1, y2, y3, y4, y5, bnd, sliceV, Option.getD_some, Option.getD_none, Rows_byQ, bytes, ← List.map_take, ← List.map_drop, Nat.sub_zero] <;> fail)); (focus (simp <;> fail))) | (simp [allP, opd, Fr.get, Fr.below, Fr.allN, AV.allN, AV.allNL, Loc.below, AO.allN, noN, killO, killT, killD, mkNames, AO.kill, AV.kill, AV.mapN, AV.mapNL]; done) | (with_reducible exact ltD (by assumption)) | omega | (simp only [decide_eq_true_eq, decide_eq_false_iff_not] at *; omega)))
  all_goals first
    | (unfold Fr.below; simp [Fr.allN, AV.allN, AV.allNL, y5]; done)
    | (unfold Loc.below; simp [AO.allN, AV.allN, AV.allNL, y5]; done)
    | (have hl2 : decide ((b.length : Int) < (k : Int)) = false := hl
       unfold takN; simp only [hl2, cond_false]; done)
    | (have hl2 : decide ((b.length : Int) < (k : Int)) = true := hl
       unfold takN; simp only [hl2, cond_true]; done)
    | (have hl2 : decide ((b.length : Int) < (k : Int)) = false := hl
       funext x
       by_cases z1 : x = n
       · subst z1
         unfold takS
         simp only [hl2, cond_false, if_true, eyO, sto, List.length_drop]
         simp
         omega
       · simp [z1, hid1, sto])
    | (have hl2 : decide ((b.length : Int) < (k : Int)) = true := hl
       funext x
       by_cases z1 : x = n
       · subst z1
         unfold takS flt
         simp only [hl2, cond_true, if_true, eyO, sto, List.length_nil]
         simp [*]
       · simp [z1, hid1, sto])
end Go.Proofs.YtijpmidnclbhpaaDoor
