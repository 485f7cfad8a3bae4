/- hot.Pack and the reference's. -/
import Derived.Test.YtmkcamfanimdoaaHead
import Derived.Test.YtmkcamfanimdoaaConcat
import Derived.Test.YtmkcamfanimdoaaDevC
import Derived.Test.YtmkcamfanimdoaaCodePack
namespace Go.Proofs.Ytmkcamfanimdoaa
open Go.RowKit
set_option maxHeartbeats 4000000
set_option maxRecDepth 20000
attribute [local irreducible] SW SWL SWLn SWD SEcall SEcallv SDv SE SO1 SOg ACalls ACallv Wk EndV
set_option linter.unusedSimpArgs false
set_option linter.unusedVariables false
def pcRow (x : PieceD) : List RV := [.v (.int .i64 x.id), .v (.int .i64 x.pos), .v (.int .i64 x.size)]
instance : Inhabited PieceD := ⟨⟨0, 0, 0⟩⟩
/-- the bytes of the first k -/
def pkB (ids : List Int) (bs : List (List UInt8)) : Nat → List UInt8
  | 0 => []
  | k + 1 => pkB ids bs k ++ (headB ids[k]! bs[k]!.length ++ bs[k]!)
def pkP (at_ : Int) (ids : List Int) (bs : List (List UInt8)) : Nat → List PieceD
  | 0 => []
  | k + 1 => pkP at_ ids bs k ++ [⟨ids[k]!, at_ + (pkB ids bs k).length, bs[k]!.length⟩]
def pkF (ids : List Int) (bs : List (List UInt8)) : Nat → Int
  | 0 => 0
  | k + 1 => bif pkF ids bs k != 0 then pkF ids bs k else bif !inR ids[k]! 1 1048576 then 2 else bif decide ((bs[k]!.length : Int) > 600) then 1 else 0
theorem pkB0 (ids : List Int) (bs : List (List UInt8)) : pkB ids bs 0 = [] := rfl
theorem pkP0 (at_ : Int) (ids : List Int) (bs : List (List UInt8)) : pkP at_ ids bs 0 = [] := rfl
theorem pkP_len (at_ : Int) (ids : List Int) (bs : List (List UInt8)) : ∀ k, (pkP at_ ids bs k).length = k
  | 0 => rfl
  | k + 1 => by simp only [pkP, List.length_append, pkP_len at_ ids bs k, List.length_cons, List.length_nil]
theorem pkF_stop (ids : List Int) (bs : List (List UInt8)) {k : Nat} (h : pkF ids bs k ≠ 0) : ∀ n, pkF ids bs (k + n) = pkF ids bs k
  | 0 => rfl
  | n + 1 => by
    have ih := pkF_stop ids bs h n
    show (bif pkF ids bs (k + n) != 0 then pkF ids bs (k + n) else _) = _
    have : (pkF ids bs (k + n) != 0) = true := by rw [ih]; simpa using h
    rw [this, cond_true, ih]
theorem pkF_at (ids : List Int) (bs : List (List UInt8)) {k n : Nat} {e : Int} (hk : k < n) (h : pkF ids bs (k + 1) = e) (he : e ≠ 0) : pkF ids bs n = e := by
  have := pkF_stop ids bs (k := k + 1) (by rw [h]; exact he) (n - (k + 1))
  rw [show k + 1 + (n - (k + 1)) = n by omega] at this
  rw [this, h]
theorem pkB_le (ids : List Int) (bs : List (List UInt8)) : ∀ k, pkF ids bs k = 0 → (pkB ids bs k).length ≤ 606 * k
  | 0, _ => by simp [pkB]
  | k + 1, h => by
    cases hp : (pkF ids bs k != 0) with
    | true => simp only [pkF, hp, cond_true] at h; rw [h] at hp; simp at hp
    | false =>
      have h0 : pkF ids bs k = 0 := by simpa using hp
      have ih := pkB_le ids bs k h0
      simp only [pkF, hp, cond_false] at h
      cases h1 : inR ids[k]! 1 1048576 with
      | false => rw [h1] at h; simp at h
      | true =>
        cases h2 : decide ((bs[k]!.length : Int) > 600) with
        | true => rw [h1, h2] at h; simp at h
        | false =>
          have h2' : ¬ ((bs[k]!.length : Int) > 600) := of_decide_eq_false h2
          simp only [pkB, List.length_append, headB, List.length_cons, List.length_nil]
          omega
def packE (at_ : Int) (ids : List Int) (bs : List (List UInt8)) : Int := bif decide (at_ < 0) || decide (at_ > 4000) then 2 else bif (ids.length : Int) != bs.length then 4 else pkF ids bs ids.length
def packB (at_ : Int) (ids : List Int) (bs : List (List UInt8)) : List UInt8 := bif packE at_ ids bs == 0 then pkB ids bs ids.length else []
def packP (at_ : Int) (ids : List Int) (bs : List (List UInt8)) : List PieceD := bif packE at_ ids bs == 0 then pkP at_ ids bs ids.length else []
theorem pk_bound {ids : List Int} {bs : List (List UInt8)} {k : Nat} (hn : ids.length ≤ 2 ^ 20) (hk : k ≤ ids.length) (hF : pkF ids bs k = 0) (hb : decide ((bs[k]!.length : Int) > 600) = false) : [pkB ids bs k, headB ids[k]! bs[k]!.length, bs[k]!].flatten.length ≤ 2 ^ 47 := by
  have h1 := pkB_le ids bs k hF
  have h2 : ¬ ((bs[k]!.length : Int) > 600) := of_decide_eq_false hb
  simp only [List.flatten_cons, List.flatten_nil, List.length_append, List.length_nil, headB, List.length_cons]
  omega
theorem pkB_next (ids : List Int) (bs : List (List UInt8)) (k : Nat) : [pkB ids bs k, headB ids[k]! bs[k]!.length, bs[k]!].flatten = pkB ids bs (k + 1) := by
  simp only [List.flatten_cons, List.flatten_nil, List.append_nil, pkB]
theorem pkP_take (at_ : Int) (ids : List Int) (bs : List (List UInt8)) (k : Nat) : List.take (pkP at_ ids bs k).length ((pkP at_ ids bs k).map pcRow) = (pkP at_ ids bs k).map pcRow := List.take_of_length_le (by simp)
theorem pack_errS {B0 : List UInt8} {P0 : List PieceD} {E e' e : Int} {b : List UInt8} {p : List PieceD} (hB : B0 = bif E == 0 then b else []) (hP : P0 = bif E == 0 then p else []) (he : (e == 0) = false) (hE : E = e') (h : e' = e) : AV.tup [.d (.ro []), .d (.ro []), I e] = AV.tup [.d (.ro (B0.map by_)), .d (.ro (P0.map pcRow)), I e'] := by
  subst hE; subst h; rw [hB, hP, he]; rfl
theorem pack_okS {B0 : List UInt8} {P0 : List PieceD} {E e' : Int} {b : List UInt8} {p : List PieceD} (hB : B0 = bif E == 0 then b else []) (hP : P0 = bif E == 0 then p else []) (hE : E = e') (h : e' = 0) {x y : RV} (hx : x = .ro (b.map by_)) (hy : y = .ro (p.map pcRow)) : AV.tup [.d x, .d y, I 0] = AV.tup [.d (.ro (B0.map by_)), .d (.ro (P0.map pcRow)), I e'] := by
  subst hE; rw [hB, hP, hx, hy, h]; rfl
theorem inR_lo {x n : Int} (h : decide (x < 1) = true) : inR x 1 n = false := by
  have h' : x < 1 := of_decide_eq_true h
  unfold inR; rw [Bool.and_eq_false_iff]; exact .inl (by simp; omega)
theorem inR_hi {x : Int} (h : decide (x > 1048576) = true) : inR x 1 1048576 = false := by
  have h' : x > 1048576 := of_decide_eq_true h
  unfold inR; rw [Bool.and_eq_false_iff]; exact .inr (by simp; omega)
theorem inR_ok {x : Int} (h : decide (x < 1) = false) (h2 : decide (x > 1048576) = false) : inR x 1 1048576 = true := by
  have h' : ¬ x < 1 := of_decide_eq_false h
  have h2' : ¬ x > 1048576 := of_decide_eq_false h2
  unfold inR; rw [Bool.and_eq_true]; exact ⟨by simp; omega, by simp; omega⟩
theorem pkF2 {ids : List Int} {bs : List (List UInt8)} {k : Nat} (hF : pkF ids bs k = 0) (h : inR ids[k]! 1 1048576 = false) : pkF ids bs (k + 1) = 2 := by
  simp only [pkF, hF, h, bne_self_eq_false, cond_false, Bool.not_false, cond_true]
theorem pkF1 {ids : List Int} {bs : List (List UInt8)} {k : Nat} (hF : pkF ids bs k = 0) (h : inR ids[k]! 1 1048576 = true) (h2 : decide ((bs[k]!.length : Int) > 600) = true) : pkF ids bs (k + 1) = 1 := by
  simp only [pkF, hF, h, h2, bne_self_eq_false, cond_false, Bool.not_true, cond_true]
theorem pkF0 {ids : List Int} {bs : List (List UInt8)} {k : Nat} (hF : pkF ids bs k = 0) (h : inR ids[k]! 1 1048576 = true) (h2 : decide ((bs[k]!.length : Int) > 600) = false) : pkF ids bs (k + 1) = 0 := by
  simp only [pkF, hF, h, h2, bne_self_eq_false, cond_false, Bool.not_true]
theorem pack4 (at_ : Int) (ids : List Int) (bs : List (List UInt8)) : (decide (at_ < 0) = true ∧ inR at_ 0 4000 = false ∧ packE at_ ids bs = 2) ∨ (decide (at_ < 0) = false ∧ decide (at_ > 4000) = true ∧ inR at_ 0 4000 = false ∧ packE at_ ids bs = 2) ∨
    (decide (at_ < 0) = false ∧ decide (at_ > 4000) = false ∧ inR at_ 0 4000 = true ∧ ((ids.length : Int) != (bs.length : Int)) = true ∧ packE at_ ids bs = 4) ∨
    (decide (at_ < 0) = false ∧ decide (at_ > 4000) = false ∧ inR at_ 0 4000 = true ∧ bs.length = ids.length ∧ packE at_ ids bs = pkF ids bs ids.length) := by
  cases ha : decide (at_ < 0) with
  | true =>
    have h' : at_ < 0 := of_decide_eq_true ha
    exact .inl ⟨rfl, by unfold inR; rw [Bool.and_eq_false_iff]; exact .inl (by simp; omega), by simp only [packE, ha, Bool.true_or, cond_true]⟩
  | false =>
    have h' : ¬ at_ < 0 := of_decide_eq_false ha
    cases hb : decide (at_ > 4000) with
    | true =>
      have h2 : at_ > 4000 := of_decide_eq_true hb
      exact .inr (.inl ⟨rfl, rfl, by unfold inR; rw [Bool.and_eq_false_iff]; exact .inr (by simp; omega), by simp only [packE, ha, hb, Bool.false_or, cond_true]⟩)
    | false =>
      have h2 : ¬ at_ > 4000 := of_decide_eq_false hb
      have h3 : inR at_ 0 4000 = true := by unfold inR; rw [Bool.and_eq_true]; exact ⟨by simp; omega, by simp; omega⟩
      cases hc : ((ids.length : Int) != (bs.length : Int)) with
      | true => exact .inr (.inr (.inl ⟨rfl, rfl, h3, rfl, by simp only [packE, ha, hb, hc, Bool.false_or, cond_false, cond_true]⟩))
      | false =>
        have h4 : bs.length = ids.length := by simp at hc; omega
        exact .inr (.inr (.inr ⟨rfl, rfl, h3, h4, by simp only [packE, ha, hb, hc, Bool.false_or, cond_false]⟩))
theorem pack_p (at_ : Int) (ids : List Int) (bs : List (List UInt8)) (hn : ids.length ≤ 2 ^ 20) : Pure Try.prog 33 [I at_, .d (ints ids), .d (.ro (bs.map secRow))] (.tup [.d (bytes (packB at_ ids bs)), .d (.ro ((packP at_ ids bs).map pcRow)), I (packE at_ ids bs)]) := by
  refine pureZ_of follows Try.func33 c33_eq r33 (Nat.le_of_ble_eq_true rfl) fun B σ hcl hsz => ?_
  have hlb : bs.length ≤ 2 ^ 47 := by simpa using (show Sized (.ro (bs.map secRow)) from hsz (.d (.ro (bs.map secRow))) (by simp)).len
  clear hsz
  rcases pack4 at_ ids bs with ⟨ha, hi, he⟩ | ⟨ha, hb, hi, he⟩ | ⟨ha, hb, hi, hne, he⟩ | ⟨ha, hb, hi, hl, he⟩
  all_goals (try (
    have q1 : ∀ k : Nat, pkF ids bs k = 0 → k ≤ ids.length → IntKind.i64.wrap (at_ + ((pkB ids bs k).length : Int)) = at_ + ((pkB ids bs k).length : Int) := fun k h1 h2 => by
      have h3 := pkB_le ids bs k h1
      have ha' : ¬ at_ < 0 := of_decide_eq_false ha
      have hb' : ¬ at_ > 4000 := of_decide_eq_false hb
      exact IntWalk.i64_in _ (by omega)))
  repeat' (first | (simp -implicitDefEqProofs only [*, contN, contC, Nat.reduceBEq, Bool.or_false, Bool.or_true, Bool.false_or, Bool.true_or, Bool.not_true, Bool.not_false, w_skip, w_ret, w_exit, w_reg, w_dreg, w_seq, SK_n, SK_r, SK_x, w_keep, w_block, w_cond, w_nil, w_cons, w_consg, w_nnil, w_ncons, w_dnil, w_dcons, w_dconsg, HK_app, HD_app, HQ_n, HQ_r, HQ_x, HQ_bn, HQ_br, HQ_bx, HQ_en, HQ_er, HQ_ex, CondB_true, CondB_false, SO1, w_sdv, SDe_alloc, SDe_box, SDe_bslice, SDe_app, true_imp_iff, false_imp_iff, and_false, false_and, not_false_eq_true, not_true_eq_false, addN, mkNames, killT, killD, killO, List.foldl_nil, List.foldl_cons, List.append_nil, List.nil_append, List.cons_append, GuardS_true, GuardS_false, GuardD_true, GuardD_false, DK_true, DK_false, lt_self_add, le_self_add, decide_true, decide_false, Bool.false_eq_true, Bool.true_eq_false, Nat.add_left_cancel_iff, SE, SEalloc, SEbox, SEstore, w_bs, SEbl, SEfz, SEbs0, fzName, osOf, AV.fz1, w_app, w_mk, aev, opd, Fr.get, putO, Fr.norm, List.map_cons, List.map_nil, with1, with2, onInt, AV.lit, entry, ↓reduceIte, Nat.reduceEqDiff, Nat.reduceAdd, reduceCtorEq, true_and, and_true, Option.map_some, Option.map_none, Option.bind_some, Option.bind_none, cond_true, cond_false, binV, unV, fieldV, loadV, sto, cellsAV, newF, newL, Fr.map, Loc.kill, Loc.set, AO.kill, AV.kill, AV.mapN, AV.mapNL, List.filter_nil, List.filter_cons, allP, EndV, retV, resV, resL, frz, dropL, AV.pick, nilV, tupV, imp_self, ne_eq, Int.cast_ofNat_Int, Int.reduceLT, Int.reduceToNat, List.getD_cons_zero, List.getD_cons_succ, bsliceV, buildV, afill, repl, chunk, rvs, AV.rv, RV.nrm, List.getElem?_nil, List.append_assoc, Nat.reduceMul, Nat.reducePow, Nat.zero_lt_succ, Nat.zero_add, Nat.add_zero, List.length_cons, List.length_nil, Nat.reduceLeDiff, Nat.le_refl, List.take_succ_cons, List.take_zero, List.drop_succ_cons, List.drop_zero, indexV, lenV, rowOf_mapD, rowOf_mapI, rowOf_mapA, List.length_map, Int.toNat_natCast, List.getElem?_cons_zero, List.getElem?_cons_succ, and_self, implies_true, if_true, if_false, HQ_zn, HQ_zr, HQ_wn, HQ_wr, AV.nz, AV.nzL, RV.nrm, SEbin, SEnil, nilK, srcV, dstV, appName, List.length_append, Nat.mul_one, take_map_len, take_map_app, List.getElem?_cons_zero, List.map_append, c33, r33, v33_1, u33_2, u33_3, u33_4, u33_5, v33_6, u33_7, u33_8, v33_9, u33_10, u33_11, v33_12, v33_13, v33_14, v33_15, v33_16, v33_17, v33_18, m33_18, u33_19, u33_20, u33_21, u33_22, u33_23, u33_24, u33_25, u33_26, u33_27, u33_28, u33_29, u33_30, u33_31, u33_32, u33_33, ty3, ty41, ty31, ty42, ty61, ty43, ty5, ints, int_, bytes, secRow, AV.nz, RV.nrm, pkB_next, pkP_take, pkB0, pkP0, bne_self_eq_false]) | (with_reducible refine And.intro ?_ ?_) | (refine call_ro e82 ( head_p ids[k]! bs[k]!.length) rfl ?_ ?_ ?_ ?_) | (refine gcall_ro e82 ( head_p ids[k]! bs[k]!.length) rfl ?_ ?_ ?_ ?_) | (refine dcall_ro e82 ( head_p ids[k]! bs[k]!.length) rfl ?_ ?_ ?_ ?_) | (refine gdcall_ro rfl e82 ( head_p ids[k]! bs[k]!.length) rfl ?_ ?_ ?_ ?_) | (refine call_ro e81 ( concat_p [pkB ids bs k, headB ids[k]! bs[k]!.length, bs[k]!] (pk_bound hn hk hF (by assumption))) rfl ?_ ?_ ?_ ?_) | (refine gcall_ro e81 ( concat_p [pkB ids bs k, headB ids[k]! bs[k]!.length, bs[k]!] (pk_bound hn hk hF (by assumption))) rfl ?_ ?_ ?_ ?_) | (refine dcall_ro e81 ( concat_p [pkB ids bs k, headB ids[k]! bs[k]!.length, bs[k]!] (pk_bound hn hk hF (by assumption))) rfl ?_ ?_ ?_ ?_) | (refine gdcall_ro rfl e81 ( concat_p [pkB ids bs k, headB ids[k]! bs[k]!.length, bs[k]!] (pk_bound hn hk hF (by assumption))) rfl ?_ ?_ ?_ ?_) | (refine loop_nat (ids.length) (fun k => pkF ids bs k = 0) (fun k => [(24, .d (ints ids)), (0, I at_), (2, .d (.ro (bs.map secRow))), (25, I ids.length), (26, I k), (9, .d (bytes (pkB ids bs k))), (10, .os (B + 56) (pkP at_ ids bs k).length)]) (fun k => [(B + 56, .arr 3 61 ((pkP at_ ids bs k).map pcRow))]) ?_ (Wk.trans (Wk.trans (Wk.nameF (s := 10) (n := B + 56) (k := 3) (E := 61) rfl (by omega) (.inl (by omega)) (fun m => AO.kill_below (q := fun m => decide (m < B)) (by simp) _ (hcl m).1)) (Wk.nz _ _ _ _ _)) (Wk.keep hcl ?_ ?_ ?_)) fun k hk hF => ?_; rotate_left 1; (focus (simp [Fr.get, newF, Fr.map, AV.kill, AV.mapN, ints, int_, bytes, secRow, AV.nz, RV.nrm, pkB_next, pkP_take, pkB0, pkP0, bne_self_eq_false] <;> fail)); (focus (simp [sto, newL, Loc.kill, Loc.set, AO.kill, AV.kill, AV.mapN, ints, int_, bytes, secRow, AV.nz, RV.nrm, pkB_next, pkP_take, pkB0, pkP0, bne_self_eq_false] <;> fail)); (focus (simp [newL, Loc.kill, Loc.set, ints, int_, bytes, secRow, AV.nz, RV.nrm, pkB_next, pkP_take, pkB0, pkP0, bne_self_eq_false] <;> fail)); (try have hw : IntKind.i64.wrap ((k : Int) + 1) = (k : Int) + 1 := IntWalk.i64_in _ (by omega))) | (refine EndX.plain ?_) | (refine nil_split (fun hn => ?_) (fun hn => ?_)) | (refine gcall_no not_false ?_) | (refine gdcall_no not_false ?_) | (refine GuardS_of _ _ _ _ _ _ (fun hg => ?_) (fun hg => ?_)) | (refine GuardD_of _ _ _ _ (fun hg => ?_) (fun hg => ?_)) | (refine CondB_of _ _ _ _ _ _ _ ?_ (fun hg => ?_) (fun hg => ?_)))
  all_goals (try (first | ((first | unfold noN | unfold Fr.below | unfold Loc.below); simp [Fr.allN, AV.allN, AV.allNL, AO.allN]; done) | rfl | trivial | assumption | (intro row hrow; simp only [List.mem_map] at hrow; obtain ⟨x, _, rfl⟩ := hrow; rfl) | (refine Wk.keep hcl ?_ ?_ ?_; (focus (simp [Fr.get, ints, int_, bytes, secRow, AV.nz, RV.nrm, pkB_next, pkP_take, pkB0, pkP0, bne_self_eq_false] <;> fail)); (focus (simp [sto, ints, int_, bytes, secRow, AV.nz, RV.nrm, pkB_next, pkP_take, pkB0, pkP0, bne_self_eq_false] <;> fail)); (focus (simp <;> fail))) | (simp [allP, opd, Fr.get, Fr.below, Fr.allN, AV.allN, AV.allNL, Loc.below, AO.allN, noN, killO, killT, killD, mkNames, AO.kill, AV.kill, AV.mapN, AV.mapNL]; done) | (with_reducible exact ltD (by assumption)) | omega | (simp only [decide_eq_true_eq, decide_eq_false_iff_not] at *; omega)))
  all_goals first
    | exact pack_errS rfl rfl rfl he rfl
    | (refine pack_errS rfl rfl rfl he (pkF_at ids bs (k := k) (ltD (by assumption)) (pkF2 hF (by first | assumption | exact inR_lo (by assumption) | exact inR_hi (by assumption))) (by decide)))
    | (refine pack_errS rfl rfl rfl he (pkF_at ids bs (k := k) (ltD (by assumption)) (pkF1 hF (by first | assumption | exact inR_ok (by assumption) (by assumption)) (by assumption)) (by decide)))
    | exact pkF0 hF (by first | assumption | exact inR_ok (by assumption) (by assumption)) (by assumption)
    | (simp only [pkP_len]; omega)
    | (refine Wk.keep hcl (by simp [Fr.get, pkP_len]) (by simp [sto, pkP, pcRow]) (by simp))
    | (have hk' : k = ids.length := by simp at hg; omega
       subst hk'
       exact pack_okS rfl rfl he hF rfl rfl)
end Go.Proofs.Ytmkcamfanimdoaa
