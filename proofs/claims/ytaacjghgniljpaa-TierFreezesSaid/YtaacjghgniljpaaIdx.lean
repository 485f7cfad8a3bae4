/- Places in lists. -/
import Derived.Test.YtaacjghgniljpaaStD
import Derived.Test.YtaacjghgniljpaaTypes
namespace Go.Proofs.Ytaacjghgniljpaa
open Go.RowKit
set_option maxRecDepth 100000
def o83_1 : List SO := ((SO.mk (some 15) (.load 3 (.tmp 14)) none) :: (SO.mk (some 16) (.bin .eql 3 (.tmp 11) (.tmp 15)) none) :: [])
theorem v83_1 : type_of% (@swl _ _ o83_1.eq_1) := @swl _ _ o83_1.eq_1
def c83_2 : SC := (.seq (.reg [SO.mk (some 17) (.move (.tmp 5)) none, SO.mk (some 4) (.move (.tmp 17)) none]) (.keep [4] .ret))
theorem u83_2 : type_of% (@swc _ _ c83_2.eq_1) := @swc _ _ c83_2.eq_1
def c83_3 : SC := (.cond (.tmp 16) c83_2 .skip)
theorem u83_3 : type_of% (@swc _ _ c83_3.eq_1) := @swc _ _ c83_3.eq_1
def c83_4 : SC := (.seq (.reg ((SO.mk (some 11) (.move (.tmp 1)) none) :: (SO.mk (some 12) (.move (.tmp 0)) none) :: (SO.mk (some 13) (.move (.tmp 5)) none) :: (SO.mk (some 14) (.iaddr 26 (.tmp 12) (.tmp 13)) none) :: o83_1)) (.keep [16, 5, 8, 7, 0, 1] c83_3))
theorem u83_4 : type_of% (@swc _ _ c83_4.eq_1) := @swc _ _ c83_4.eq_1
def c83_5 : SC := (.reg [SO.mk (some 18) (.bin .add 3 (.tmp 8) (.const (Value.int .i64 1))) none, SO.mk (some 8) (.move (.tmp 18)) none])
theorem u83_5 : type_of% (@swc _ _ c83_5.eq_1) := @swc _ _ c83_5.eq_1
def c83_6 : SC := (.seq (.block 1 (.seq (.reg [SO.mk (some 10) (.move (.tmp 8)) none, SO.mk (some 5) (.move (.tmp 10)) none]) (.keep [5, 8, 7, 0, 1] c83_4))) (.keep [8, 7, 0, 1] c83_5))
theorem u83_6 : type_of% (@swc _ _ c83_6.eq_1) := @swc _ _ c83_6.eq_1
def c83_7 : SC := (.seq (.cond (.tmp 9) .skip (.exit 0)) (.keep [8, 7, 0, 1] c83_6))
theorem u83_7 : type_of% (@swc _ _ c83_7.eq_1) := @swc _ _ c83_7.eq_1
def c83_8 : SC := (.seq (.reg [SO.mk (some 9) (.bin .lss 3 (.tmp 8) (.tmp 7)) none]) (.keep [9, 1, 0, 7, 8] c83_7))
theorem u83_8 : type_of% (@swc _ _ c83_8.eq_1) := @swc _ _ c83_8.eq_1
def c83_9 : SC := (.block 0 (.loop (.keep [1, 0, 7, 8] c83_8)))
theorem u83_9 : type_of% (@swc _ _ c83_9.eq_1) := @swc _ _ c83_9.eq_1
def c83_10 : SC := (.seq (.reg [SO.mk (some 4) (.move (.const (Value.int .i64 (-1)))) none]) (.keep [4] .ret))
theorem u83_10 : type_of% (@swc _ _ c83_10.eq_1) := @swc _ _ c83_10.eq_1
def c83_11 : SC := (.seq (.seq (.reg [SO.mk (some 6) (.move (.tmp 0)) none, SO.mk (some 7) (.len 26 (.tmp 6)) none, SO.mk (some 8) (.move (.const (Value.int .i64 0))) none]) (.keep [1, 0, 7, 8] c83_9)) (.keep [] c83_10))
theorem u83_11 : type_of% (@swc _ _ c83_11.eq_1) := @swc _ _ c83_11.eq_1
def c83 : SC := (.seq (.reg [SO.mk (some 4) (.move (.const (Value.int .i64 0))) none]) (.keep [1, 0] c83_11))
theorem c83_eq : annC Try.f83 = some c83 := by kernel_rfl
theorem r83 : Try.f83.results.toList = [.tmp 4] := by kernel_rfl
theorem e83 : enters Try.prog 83 = true := by kernel_rfl
def c53_1 : SC := (.seq (.reg [SO.mk (some 5) (.move (.tmp 0)) none, SO.mk (some 6) (.move (.tmp 1)) none, SO.mk (some 7) (.call 83 [(.tmp 5), (.tmp 6)]) none, SO.mk (some 8) (.bin .geq 3 (.tmp 7) (.const (Value.int .i64 0))) none, SO.mk (some 4) (.move (.tmp 8)) none]) (.keep [4] .ret))
theorem u53_1 : type_of% (@swc _ _ c53_1.eq_1) := @swc _ _ c53_1.eq_1
def c53 : SC := (.seq (.reg [SO.mk (some 4) (.move (.const (Value.bool false))) none]) (.keep [0, 1] c53_1))
theorem c53_eq : annC Try.f53 = some c53 := by kernel_rfl
theorem r53 : Try.f53.results.toList = [.tmp 4] := by kernel_rfl
theorem e53 : enters Try.prog 53 = true := by kernel_rfl
def c55_1 : SC := (.cond (.tmp 10) .skip (.exit 0))
theorem u55_1 : type_of% (@swc _ _ c55_1.eq_1) := @swc _ _ c55_1.eq_1
def o55_2 : List SO := ((SO.mk (some 17) (.load 3 (.tmp 16)) none) :: (SO.mk (some 18) (.move (.tmp 1)) none) :: (SO.mk (some 19) (.bin .eql 3 (.tmp 17) (.tmp 18)) none) :: [])
theorem v55_2 : type_of% (@swl _ _ o55_2.eq_1) := @swl _ _ o55_2.eq_1
def c55_3 : SC := (.seq (.reg [SO.mk (some 4) (.move (.const (Value.bool true))) none]) (.keep [4] .ret))
theorem u55_3 : type_of% (@swc _ _ c55_3.eq_1) := @swc _ _ c55_3.eq_1
def c55_4 : SC := (.cond (.tmp 19) c55_3 .skip)
theorem u55_4 : type_of% (@swc _ _ c55_4.eq_1) := @swc _ _ c55_4.eq_1
def c55_5 : SC := (.reg [SO.mk (some 11) (.move (.tmp 5)) none, SO.mk (some 12) (.bin .add 3 (.tmp 11) (.const (Value.int .i64 1))) none, SO.mk (some 5) (.move (.tmp 12)) none])
theorem u55_5 : type_of% (@swc _ _ c55_5.eq_1) := @swc _ _ c55_5.eq_1
def c55_6 : SC := (.seq (.block 1 (.seq (.reg ((SO.mk (some 13) (.faddr 28 (.tmp 2) 6) none) :: (SO.mk (some 14) (.load 26 (.tmp 13)) none) :: (SO.mk (some 15) (.move (.tmp 5)) none) :: (SO.mk (some 16) (.iaddr 26 (.tmp 14) (.tmp 15)) none) :: o55_2)) (.keep [19, 5, 1, 2] c55_4))) (.keep [5, 1, 2] c55_5))
theorem u55_6 : type_of% (@swc _ _ c55_6.eq_1) := @swc _ _ c55_6.eq_1
def c55_7 : SC := (.seq (.seq (.reg [SO.mk (some 6) (.move (.tmp 5)) none, SO.mk (some 7) (.faddr 28 (.tmp 2) 6) none, SO.mk (some 8) (.load 26 (.tmp 7)) none, SO.mk (some 9) (.len 26 (.tmp 8)) none, SO.mk (some 10) (.bin .lss 3 (.tmp 6) (.tmp 9)) none]) (.keep [10, 2, 1, 5] c55_1)) (.keep [5, 1, 2] c55_6))
theorem u55_7 : type_of% (@swc _ _ c55_7.eq_1) := @swc _ _ c55_7.eq_1
def c55_8 : SC := (.block 0 (.loop (.keep [2, 1, 5] c55_7)))
theorem u55_8 : type_of% (@swc _ _ c55_8.eq_1) := @swc _ _ c55_8.eq_1
def c55_9 : SC := (.seq (.reg [SO.mk (some 4) (.move (.const (Value.bool false))) none]) (.keep [4] .ret))
theorem u55_9 : type_of% (@swc _ _ c55_9.eq_1) := @swc _ _ c55_9.eq_1
def c55_10 : SC := (.seq (.seq (.reg [SO.mk (some 5) (.move (.const (Value.int .i64 0))) none]) (.keep [2, 1, 5] c55_8)) (.keep [] c55_9))
theorem u55_10 : type_of% (@swc _ _ c55_10.eq_1) := @swc _ _ c55_10.eq_1
def c55 : SC := (.seq (.reg [SO.mk (some 2) (.box 28 (.tmp 0)) none, SO.mk (some 4) (.move (.const (Value.bool false))) none]) (.keep [2, 1] c55_10))
theorem c55_eq : annC Try.f55 = some c55 := by kernel_rfl
theorem r55 : Try.f55.results.toList = [.tmp 4] := by kernel_rfl
theorem e55 : enters Try.prog 55 = true := by kernel_rfl
def c44_1 : SC := (.cond (.tmp 10) .skip (.exit 0))
theorem u44_1 : type_of% (@swc _ _ c44_1.eq_1) := @swc _ _ c44_1.eq_1
def o44_2 : List SO := ((SO.mk (some 17) (.faddr 64 (.tmp 16) 0) none) :: (SO.mk (some 18) (.load 9 (.tmp 17)) none) :: (SO.mk (some 19) (.move (.tmp 1)) none) :: (SO.mk (some 20) (.bin .eql 9 (.tmp 18) (.tmp 19)) none) :: [])
theorem v44_2 : type_of% (@swl _ _ o44_2.eq_1) := @swl _ _ o44_2.eq_1
def c44_3 : SC := (.seq (.reg [SO.mk (some 21) (.move (.tmp 5)) none, SO.mk (some 4) (.move (.tmp 21)) none]) (.keep [4] .ret))
theorem u44_3 : type_of% (@swc _ _ c44_3.eq_1) := @swc _ _ c44_3.eq_1
def c44_4 : SC := (.cond (.tmp 20) c44_3 .skip)
theorem u44_4 : type_of% (@swc _ _ c44_4.eq_1) := @swc _ _ c44_4.eq_1
def c44_5 : SC := (.reg [SO.mk (some 11) (.move (.tmp 5)) none, SO.mk (some 12) (.bin .add 3 (.tmp 11) (.const (Value.int .i64 1))) none, SO.mk (some 5) (.move (.tmp 12)) none])
theorem u44_5 : type_of% (@swc _ _ c44_5.eq_1) := @swc _ _ c44_5.eq_1
def c44_6 : SC := (.seq (.block 1 (.seq (.reg ((SO.mk (some 13) (.faddr 28 (.tmp 2) 2) none) :: (SO.mk (some 14) (.load 22 (.tmp 13)) none) :: (SO.mk (some 15) (.move (.tmp 5)) none) :: (SO.mk (some 16) (.iaddr 22 (.tmp 14) (.tmp 15)) none) :: o44_2)) (.keep [20, 5, 1, 2] c44_4))) (.keep [5, 1, 2] c44_5))
theorem u44_6 : type_of% (@swc _ _ c44_6.eq_1) := @swc _ _ c44_6.eq_1
def c44_7 : SC := (.seq (.seq (.reg [SO.mk (some 6) (.move (.tmp 5)) none, SO.mk (some 7) (.faddr 28 (.tmp 2) 2) none, SO.mk (some 8) (.load 22 (.tmp 7)) none, SO.mk (some 9) (.len 22 (.tmp 8)) none, SO.mk (some 10) (.bin .lss 3 (.tmp 6) (.tmp 9)) none]) (.keep [10, 2, 1, 5] c44_1)) (.keep [5, 1, 2] c44_6))
theorem u44_7 : type_of% (@swc _ _ c44_7.eq_1) := @swc _ _ c44_7.eq_1
def c44_8 : SC := (.block 0 (.loop (.keep [2, 1, 5] c44_7)))
theorem u44_8 : type_of% (@swc _ _ c44_8.eq_1) := @swc _ _ c44_8.eq_1
def c44_9 : SC := (.seq (.reg [SO.mk (some 4) (.move (.const (Value.int .i64 (-1)))) none]) (.keep [4] .ret))
theorem u44_9 : type_of% (@swc _ _ c44_9.eq_1) := @swc _ _ c44_9.eq_1
def c44_10 : SC := (.seq (.seq (.reg [SO.mk (some 5) (.move (.const (Value.int .i64 0))) none]) (.keep [2, 1, 5] c44_8)) (.keep [] c44_9))
theorem u44_10 : type_of% (@swc _ _ c44_10.eq_1) := @swc _ _ c44_10.eq_1
def c44 : SC := (.seq (.reg [SO.mk (some 2) (.box 28 (.tmp 0)) none, SO.mk (some 4) (.move (.const (Value.int .i64 0))) none]) (.keep [2, 1] c44_10))
theorem c44_eq : annC Try.f44 = some c44 := by kernel_rfl
theorem r44 : Try.f44.results.toList = [.tmp 4] := by kernel_rfl
theorem e44 : enters Try.prog 44 = true := by kernel_rfl
def c47_1 : SC := (.cond (.tmp 10) .skip (.exit 0))
theorem u47_1 : type_of% (@swc _ _ c47_1.eq_1) := @swc _ _ c47_1.eq_1
def o47_2 : List SO := ((SO.mk (some 17) (.faddr 48 (.tmp 16) 0) none) :: (SO.mk (some 18) (.load 3 (.tmp 17)) none) :: (SO.mk (some 19) (.move (.tmp 1)) none) :: (SO.mk (some 20) (.bin .eql 3 (.tmp 18) (.tmp 19)) none) :: [])
theorem v47_2 : type_of% (@swl _ _ o47_2.eq_1) := @swl _ _ o47_2.eq_1
def c47_3 : SC := (.seq (.reg [SO.mk (some 21) (.move (.tmp 5)) none, SO.mk (some 4) (.move (.tmp 21)) none]) (.keep [4] .ret))
theorem u47_3 : type_of% (@swc _ _ c47_3.eq_1) := @swc _ _ c47_3.eq_1
def c47_4 : SC := (.cond (.tmp 20) c47_3 .skip)
theorem u47_4 : type_of% (@swc _ _ c47_4.eq_1) := @swc _ _ c47_4.eq_1
def c47_5 : SC := (.reg [SO.mk (some 11) (.move (.tmp 5)) none, SO.mk (some 12) (.bin .add 3 (.tmp 11) (.const (Value.int .i64 1))) none, SO.mk (some 5) (.move (.tmp 12)) none])
theorem u47_5 : type_of% (@swc _ _ c47_5.eq_1) := @swc _ _ c47_5.eq_1
def c47_6 : SC := (.seq (.block 1 (.seq (.reg ((SO.mk (some 13) (.faddr 28 (.tmp 2) 3) none) :: (SO.mk (some 14) (.load 23 (.tmp 13)) none) :: (SO.mk (some 15) (.move (.tmp 5)) none) :: (SO.mk (some 16) (.iaddr 23 (.tmp 14) (.tmp 15)) none) :: o47_2)) (.keep [20, 5, 1, 2] c47_4))) (.keep [5, 1, 2] c47_5))
theorem u47_6 : type_of% (@swc _ _ c47_6.eq_1) := @swc _ _ c47_6.eq_1
def c47_7 : SC := (.seq (.seq (.reg [SO.mk (some 6) (.move (.tmp 5)) none, SO.mk (some 7) (.faddr 28 (.tmp 2) 3) none, SO.mk (some 8) (.load 23 (.tmp 7)) none, SO.mk (some 9) (.len 23 (.tmp 8)) none, SO.mk (some 10) (.bin .lss 3 (.tmp 6) (.tmp 9)) none]) (.keep [10, 2, 1, 5] c47_1)) (.keep [5, 1, 2] c47_6))
theorem u47_7 : type_of% (@swc _ _ c47_7.eq_1) := @swc _ _ c47_7.eq_1
def c47_8 : SC := (.block 0 (.loop (.keep [2, 1, 5] c47_7)))
theorem u47_8 : type_of% (@swc _ _ c47_8.eq_1) := @swc _ _ c47_8.eq_1
def c47_9 : SC := (.seq (.reg [SO.mk (some 4) (.move (.const (Value.int .i64 (-1)))) none]) (.keep [4] .ret))
theorem u47_9 : type_of% (@swc _ _ c47_9.eq_1) := @swc _ _ c47_9.eq_1
def c47_10 : SC := (.seq (.seq (.reg [SO.mk (some 5) (.move (.const (Value.int .i64 0))) none]) (.keep [2, 1, 5] c47_8)) (.keep [] c47_9))
theorem u47_10 : type_of% (@swc _ _ c47_10.eq_1) := @swc _ _ c47_10.eq_1
def c47 : SC := (.seq (.reg [SO.mk (some 2) (.box 28 (.tmp 0)) none, SO.mk (some 4) (.move (.const (Value.int .i64 0))) none]) (.keep [2, 1] c47_10))
theorem c47_eq : annC Try.f47 = some c47 := by kernel_rfl
theorem r47 : Try.f47.results.toList = [.tmp 4] := by kernel_rfl
theorem e47 : enters Try.prog 47 = true := by kernel_rfl
end Go.Proofs.Ytaacjghgniljpaa
namespace Go.Proofs.Ytaacjghgniljpaa
open Go.RowKit
set_option maxHeartbeats 4000000
set_option maxRecDepth 20000
attribute [local irreducible] SW SWL SWLn SWD SEcall SEcallv SDv SE SO1 SOg ACalls ACallv Wk EndV
set_option linter.unusedSimpArgs false
set_option linter.unusedVariables false
def idxD (n : Nat) (p : Nat → Bool) : Int := match (List.range n).find? p with
  | some k => k
  | none => -1
theorem idxD_some {n k : Nat} {p : Nat → Bool} (hk : decide ((k : Int) < (n : Int)) = true) (hp : p k = true) (hF : ∀ i, i < k → p i = false) : idxD n p = k := by
  have hk : k < n := by have := of_decide_eq_true hk; omega
  unfold idxD
  have : (List.range n).find? p = some k := by
    rw [List.find?_eq_some_iff_getElem]
    refine ⟨hp, k, by simpa using hk, by simp, fun j hj => ?_⟩
    simp [hF j hj]
  rw [this]
theorem idxD_none {n k : Nat} {p : Nat → Bool} (hk : decide ((k : Int) < (n : Int)) = false) (hF : ∀ i, i < k → p i = false) : idxD n p = -1 := by
  have hk : n ≤ k := by have := of_decide_eq_false hk; omega
  unfold idxD
  have : (List.range n).find? p = none := by
    rw [List.find?_eq_none]
    intro x hx
    have := List.mem_range.1 hx
    rw [hF x (by omega)]; decide
  rw [this]
theorem idxD_lt {n : Nat} {p : Nat → Bool} : idxD n p < n := by
  unfold idxD
  split
  · rename_i k h
    have := List.mem_range.1 (List.mem_of_find?_eq_some h); omega
  · omega
theorem idxD_ge {n : Nat} {p : Nat → Bool} : idxD n p ≥ 0 ↔ ∃ k, k < n ∧ p k = true := by
  unfold idxD
  split
  · rename_i k h
    exact ⟨fun _ => ⟨k, List.mem_range.1 (List.mem_of_find?_eq_some h), List.find?_some h⟩, fun _ => by omega⟩
  · rename_i h
    rw [List.find?_eq_none] at h
    refine ⟨fun h => by omega, fun ⟨k, h1, h2⟩ => ?_⟩
    exact absurd h2 (h k (List.mem_range.2 h1))
theorem idxD_at {n : Nat} {p : Nat → Bool} {k : Nat} (h : idxD n p = k) : k < n ∧ p k = true ∧ ∀ i, i < k → p i = false := by
  unfold idxD at h
  split at h
  · rename_i j e
    have : j = k := by omega
    subst this
    refine ⟨List.mem_range.1 (List.mem_of_find?_eq_some e), List.find?_some e, fun i hi => ?_⟩
    rw [List.find?_eq_some_iff_getElem] at e
    obtain ⟨_, m, hm, he, hall⟩ := e
    simp at he
    have := hall i (by omega)
    simpa using this
  · omega
theorem allN' {p : Nat → Bool} {k : Nat} (hF : ∀ i, i < k → p i = false) (h : p k = false) : ∀ i, i < k + 1 → p i = false := fun i hi => by
  rcases Nat.lt_succ_iff_lt_or_eq.1 hi with h' | rfl
  · exact hF i h'
  · exact h
def pI (l : List Int) (v : Int) (k : Nat) : Bool := v == l[k]!
def pG (l : List Int) (v : Int) (k : Nat) : Bool := l[k]! == v
def pB (l : List BktD) (s : ByteArray) (k : Nat) : Bool := l[k]!.name.toList == s.toList
def pV (l : List VerD) (v : Int) (k : Nat) : Bool := l[k]!.id == v
theorem index_p (l : List Int) (v : Int) : Pure Try.prog 83 [.d (ints l), I v] (I (idxD l.length (pI l v))) := by
  refine pure_of follows Try.func83 c83_eq r83 (Nat.le_of_ble_eq_true rfl) fun B σ hcl hsz => ?_
  have hlen : l.length ≤ 2 ^ 47 := by simpa using (show Sized (ints l) from hsz (.d (ints l)) (by simp)).len
  clear hsz
  repeat' (first | (simp -implicitDefEqProofs only [*, contN, contC, Nat.reduceBEq, Bool.or_false, Bool.or_true, Bool.false_or, Bool.true_or, Bool.not_true, Bool.not_false, w_skip, w_ret, w_exit, w_reg, w_dreg, w_seq, SK_n, SK_r, SK_x, w_keep, w_block, w_cond, w_nil, w_cons, w_consg, w_nnil, w_ncons, w_dnil, w_dcons, w_dconsg, HK_app, HD_app, HQ_n, HQ_r, HQ_x, HQ_bn, HQ_br, HQ_bx, HQ_en, HQ_er, HQ_ex, CondB_true, CondB_false, SO1, w_sdv, SDe_alloc, SDe_box, SDe_bslice, SDe_app, true_imp_iff, false_imp_iff, and_false, false_and, not_false_eq_true, not_true_eq_false, addN, mkNames, killT, killD, killO, List.foldl_nil, List.foldl_cons, List.append_nil, List.nil_append, List.cons_append, GuardS_true, GuardS_false, GuardD_true, GuardD_false, DK_true, DK_false, lt_self_add, le_self_add, decide_true, decide_false, Bool.false_eq_true, Bool.true_eq_false, Nat.add_left_cancel_iff, SE, SEalloc, SEbox, SEstore, w_bs, SEbl, SEfz, SEbs0, fzName, osOf, AV.fz1, w_app, w_mk, aev, opd, Fr.get, putO, Fr.norm, List.map_cons, List.map_nil, with1, with2, onInt, AV.lit, entry, ↓reduceIte, Nat.reduceEqDiff, Nat.reduceAdd, reduceCtorEq, true_and, and_true, Option.map_some, Option.map_none, Option.bind_some, Option.bind_none, cond_true, cond_false, binV, unV, fieldV, loadV, sto, cellsAV, newF, newL, Fr.map, Loc.kill, Loc.set, AO.kill, AV.kill, AV.mapN, AV.mapNL, List.filter_nil, List.filter_cons, allP, EndV, retV, resV, resL, frz, dropL, AV.pick, nilV, tupV, imp_self, ne_eq, Int.cast_ofNat_Int, Int.reduceLT, Int.reduceToNat, List.getD_cons_zero, List.getD_cons_succ, bsliceV, buildV, afill, repl, chunk, rvs, AV.rv, RV.nrm, List.getElem?_nil, List.append_assoc, Nat.reduceMul, Nat.reducePow, Nat.zero_lt_succ, Nat.zero_add, Nat.add_zero, List.length_cons, List.length_nil, Nat.reduceLeDiff, Nat.le_refl, List.take_succ_cons, List.take_zero, List.drop_succ_cons, List.drop_zero, indexV, lenV, rowOf_mapD, rowOf_mapI, rowOf_mapA, List.length_map, Int.toNat_natCast, List.getElem?_cons_zero, List.getElem?_cons_succ, and_self, implies_true, if_true, if_false, HQ_zn, HQ_zr, HQ_wn, HQ_wr, AV.nz, AV.nzL, RV.nrm, SEbin, SEnil, nilK, srcV, dstV, appName, List.length_append, Nat.mul_one, take_map_len, take_map_app, List.getElem?_cons_zero, List.map_append, SEmkmap, SEmset, mgetV, kvOf, getM, setM, c83, r83, v83_1, u83_2, u83_3, u83_4, u83_5, u83_6, u83_7, u83_8, u83_9, u83_10, u83_11, ty26, ty3, ints, int_]) | (with_reducible refine And.intro ?_ ?_) | (refine loop_nat (l.length) (fun k => ∀ i, i < k → pI l v i = false) (fun k => [(0, .d (ints l)), (1, I v), (7, I l.length), (8, I k)]) (fun k => []) ?_ (Wk.keep hcl ?_ ?_ ?_) fun k hk hF => ?_; rotate_left 1; (focus (simp [Fr.get, newF, Fr.map, AV.kill, AV.mapN, ints, int_] <;> fail)); (focus (simp [sto, newL, Loc.kill, Loc.set, AO.kill, AV.kill, AV.mapN, ints, int_] <;> fail)); (focus (simp [newL, Loc.kill, Loc.set, ints, int_] <;> fail)); (try have hw : IntKind.i64.wrap ((k : Int) + 1) = (k : Int) + 1 := IntWalk.i64_in _ (by omega))) | (refine EndX.plain ?_) | (refine nil_split (fun hn => ?_) (fun hn => ?_)) | (refine gcall_no not_false ?_) | (refine gdcall_no not_false ?_) | (refine GuardS_of _ _ _ _ _ _ (fun hg => ?_) (fun hg => ?_)) | (refine GuardD_of _ _ _ _ (fun hg => ?_) (fun hg => ?_)) | (refine CondB_of _ _ _ _ _ _ _ ?_ (fun hg => ?_) (fun hg => ?_)))
  all_goals (try (first | ((first | unfold noN | unfold Fr.below | unfold Loc.below); simp [Fr.allN, AV.allN, AV.allNL, AO.allN]; done) | rfl | trivial | assumption | (intro row hrow; simp only [List.mem_map] at hrow; obtain ⟨x, _, rfl⟩ := hrow; rfl) | (refine Wk.keep hcl ?_ ?_ ?_; (focus (simp [Fr.get, ints, int_] <;> fail)); (focus (simp [sto, ints, int_] <;> fail)); (focus (simp <;> fail))) | (simp [allP, opd, Fr.get, Fr.below, Fr.allN, AV.allN, AV.allNL, Loc.below, AO.allN, noN, killO, killT, killD, mkNames, AO.kill, AV.kill, AV.mapN, AV.mapNL]; done) | (with_reducible exact ltD (by assumption)) | omega | (simp only [decide_eq_true_eq, decide_eq_false_iff_not] at *; omega)))
  all_goals first
    | (rw [idxD_some (p := pI l v) (k := k) (by assumption) (by assumption) hF]; done)
    | (rw [idxD_none (p := pI l v) (k := k) (by assumption) hF]; done)
    | exact allN' hF (by assumption)
theorem contains_p (l : List Int) (v : Int) : Pure Try.prog 53 [.d (ints l), I v] (Bo (decide (idxD l.length (pI l v) ≥ 0))) := by
  refine pure_of follows Try.func53 c53_eq r53 (Nat.le_of_ble_eq_true rfl) fun B σ hcl hsz => ?_
  clear hsz
  repeat' (first | (simp -implicitDefEqProofs only [*, contN, contC, Nat.reduceBEq, Bool.or_false, Bool.or_true, Bool.false_or, Bool.true_or, Bool.not_true, Bool.not_false, w_skip, w_ret, w_exit, w_reg, w_dreg, w_seq, SK_n, SK_r, SK_x, w_keep, w_block, w_cond, w_nil, w_cons, w_consg, w_nnil, w_ncons, w_dnil, w_dcons, w_dconsg, HK_app, HD_app, HQ_n, HQ_r, HQ_x, HQ_bn, HQ_br, HQ_bx, HQ_en, HQ_er, HQ_ex, CondB_true, CondB_false, SO1, w_sdv, SDe_alloc, SDe_box, SDe_bslice, SDe_app, true_imp_iff, false_imp_iff, and_false, false_and, not_false_eq_true, not_true_eq_false, addN, mkNames, killT, killD, killO, List.foldl_nil, List.foldl_cons, List.append_nil, List.nil_append, List.cons_append, GuardS_true, GuardS_false, GuardD_true, GuardD_false, DK_true, DK_false, lt_self_add, le_self_add, decide_true, decide_false, Bool.false_eq_true, Bool.true_eq_false, Nat.add_left_cancel_iff, SE, SEalloc, SEbox, SEstore, w_bs, SEbl, SEfz, SEbs0, fzName, osOf, AV.fz1, w_app, w_mk, aev, opd, Fr.get, putO, Fr.norm, List.map_cons, List.map_nil, with1, with2, onInt, AV.lit, entry, ↓reduceIte, Nat.reduceEqDiff, Nat.reduceAdd, reduceCtorEq, true_and, and_true, Option.map_some, Option.map_none, Option.bind_some, Option.bind_none, cond_true, cond_false, binV, unV, fieldV, loadV, sto, cellsAV, newF, newL, Fr.map, Loc.kill, Loc.set, AO.kill, AV.kill, AV.mapN, AV.mapNL, List.filter_nil, List.filter_cons, allP, EndV, retV, resV, resL, frz, dropL, AV.pick, nilV, tupV, imp_self, ne_eq, Int.cast_ofNat_Int, Int.reduceLT, Int.reduceToNat, List.getD_cons_zero, List.getD_cons_succ, bsliceV, buildV, afill, repl, chunk, rvs, AV.rv, RV.nrm, List.getElem?_nil, List.append_assoc, Nat.reduceMul, Nat.reducePow, Nat.zero_lt_succ, Nat.zero_add, Nat.add_zero, List.length_cons, List.length_nil, Nat.reduceLeDiff, Nat.le_refl, List.take_succ_cons, List.take_zero, List.drop_succ_cons, List.drop_zero, indexV, lenV, rowOf_mapD, rowOf_mapI, rowOf_mapA, List.length_map, Int.toNat_natCast, List.getElem?_cons_zero, List.getElem?_cons_succ, and_self, implies_true, if_true, if_false, HQ_zn, HQ_zr, HQ_wn, HQ_wr, AV.nz, AV.nzL, RV.nrm, SEbin, SEnil, nilK, srcV, dstV, appName, List.length_append, Nat.mul_one, take_map_len, take_map_app, List.getElem?_cons_zero, List.map_append, SEmkmap, SEmset, mgetV, kvOf, getM, setM, c53, r53, u53_1, ty3]) | (with_reducible refine And.intro ?_ ?_) | (refine call_ro e83 ( index_p l v) rfl ?_ ?_ ?_ ?_) | (refine gcall_ro e83 ( index_p l v) rfl ?_ ?_ ?_ ?_) | (refine dcall_ro e83 ( index_p l v) rfl ?_ ?_ ?_ ?_) | (refine gdcall_ro rfl e83 ( index_p l v) rfl ?_ ?_ ?_ ?_) | (refine EndX.plain ?_) | (refine nil_split (fun hn => ?_) (fun hn => ?_)) | (refine gcall_no not_false ?_) | (refine gdcall_no not_false ?_) | (refine GuardS_of _ _ _ _ _ _ (fun hg => ?_) (fun hg => ?_)) | (refine GuardD_of _ _ _ _ (fun hg => ?_) (fun hg => ?_)) | (refine CondB_of _ _ _ _ _ _ _ ?_ (fun hg => ?_) (fun hg => ?_)))
  all_goals (try (first | ((first | unfold noN | unfold Fr.below | unfold Loc.below); simp [Fr.allN, AV.allN, AV.allNL, AO.allN]; done) | rfl | trivial | assumption | (intro row hrow; simp only [List.mem_map] at hrow; obtain ⟨x, _, rfl⟩ := hrow; rfl) | (refine Wk.keep hcl ?_ ?_ ?_; (focus (simp [Fr.get] <;> fail)); (focus (simp [sto] <;> fail)); (focus (simp <;> fail))) | (simp [allP, opd, Fr.get, Fr.below, Fr.allN, AV.allN, AV.allNL, Loc.below, AO.allN, noN, killO, killT, killD, mkNames, AO.kill, AV.kill, AV.mapN, AV.mapNL]; done) | (with_reducible exact ltD (by assumption)) | omega | (simp only [decide_eq_true_eq, decide_eq_false_iff_not] at *; omega)))
theorem gone_p (s : SttD) (v : Int) : Pure Try.prog 55 [s.av, I v] (Bo (decide (idxD s.gone.length (pG s.gone v) ≥ 0))) := by
  refine pure_of follows Try.func55 c55_eq r55 (Nat.le_of_ble_eq_true rfl) fun B σ hcl hsz => ?_
  obtain ⟨z1, z2, z3, z4, z5⟩ := st_sz5 (hsz s.av (by simp))
  clear hsz
  repeat' (first | (simp -implicitDefEqProofs only [*, contN, contC, Nat.reduceBEq, Bool.or_false, Bool.or_true, Bool.false_or, Bool.true_or, Bool.not_true, Bool.not_false, w_skip, w_ret, w_exit, w_reg, w_dreg, w_seq, SK_n, SK_r, SK_x, w_keep, w_block, w_cond, w_nil, w_cons, w_consg, w_nnil, w_ncons, w_dnil, w_dcons, w_dconsg, HK_app, HD_app, HQ_n, HQ_r, HQ_x, HQ_bn, HQ_br, HQ_bx, HQ_en, HQ_er, HQ_ex, CondB_true, CondB_false, SO1, w_sdv, SDe_alloc, SDe_box, SDe_bslice, SDe_app, true_imp_iff, false_imp_iff, and_false, false_and, not_false_eq_true, not_true_eq_false, addN, mkNames, killT, killD, killO, List.foldl_nil, List.foldl_cons, List.append_nil, List.nil_append, List.cons_append, GuardS_true, GuardS_false, GuardD_true, GuardD_false, DK_true, DK_false, lt_self_add, le_self_add, decide_true, decide_false, Bool.false_eq_true, Bool.true_eq_false, Nat.add_left_cancel_iff, SE, SEalloc, SEbox, SEstore, w_bs, SEbl, SEfz, SEbs0, fzName, osOf, AV.fz1, w_app, w_mk, aev, opd, Fr.get, putO, Fr.norm, List.map_cons, List.map_nil, with1, with2, onInt, AV.lit, entry, ↓reduceIte, Nat.reduceEqDiff, Nat.reduceAdd, reduceCtorEq, true_and, and_true, Option.map_some, Option.map_none, Option.bind_some, Option.bind_none, cond_true, cond_false, binV, unV, fieldV, loadV, sto, cellsAV, newF, newL, Fr.map, Loc.kill, Loc.set, AO.kill, AV.kill, AV.mapN, AV.mapNL, List.filter_nil, List.filter_cons, allP, EndV, retV, resV, resL, frz, dropL, AV.pick, nilV, tupV, imp_self, ne_eq, Int.cast_ofNat_Int, Int.reduceLT, Int.reduceToNat, List.getD_cons_zero, List.getD_cons_succ, bsliceV, buildV, afill, repl, chunk, rvs, AV.rv, RV.nrm, List.getElem?_nil, List.append_assoc, Nat.reduceMul, Nat.reducePow, Nat.zero_lt_succ, Nat.zero_add, Nat.add_zero, List.length_cons, List.length_nil, Nat.reduceLeDiff, Nat.le_refl, List.take_succ_cons, List.take_zero, List.drop_succ_cons, List.drop_zero, indexV, lenV, rowOf_mapD, rowOf_mapI, rowOf_mapA, List.length_map, Int.toNat_natCast, List.getElem?_cons_zero, List.getElem?_cons_succ, and_self, implies_true, if_true, if_false, HQ_zn, HQ_zr, HQ_wn, HQ_wr, AV.nz, AV.nzL, RV.nrm, SEbin, SEnil, nilK, srcV, dstV, appName, List.length_append, Nat.mul_one, take_map_len, take_map_app, List.getElem?_cons_zero, List.map_append, SEmkmap, SEmset, mgetV, kvOf, getM, setM, c55, r55, u55_1, v55_2, u55_3, u55_4, u55_5, u55_6, u55_7, u55_8, u55_9, u55_10, ty28, ty26, ty3, SttD.av, SttD.cells, ints, int_]) | (with_reducible refine And.intro ?_ ?_) | (refine loop_nat (s.gone.length) (fun k => ∀ i, i < k → pG s.gone v i = false) (fun k => [(2, .lp (B + 2) 0), (1, I v), (5, I k)]) (fun k => [(B + 2, .box s.cells)]) ?_ (Wk.keep hcl ?_ ?_ ?_) fun k hk hF => ?_; rotate_left 1; (focus (simp [Fr.get, newF, Fr.map, AV.kill, AV.mapN, SttD.av, SttD.cells, ints, int_] <;> fail)); (focus (simp [sto, newL, Loc.kill, Loc.set, AO.kill, AV.kill, AV.mapN, SttD.av, SttD.cells, ints, int_] <;> fail)); (focus (simp [newL, Loc.kill, Loc.set, SttD.av, SttD.cells, ints, int_] <;> fail)); (try have hw : IntKind.i64.wrap ((k : Int) + 1) = (k : Int) + 1 := IntWalk.i64_in _ (by omega))) | (refine EndX.plain ?_) | (refine nil_split (fun hn => ?_) (fun hn => ?_)) | (refine gcall_no not_false ?_) | (refine gdcall_no not_false ?_) | (refine GuardS_of _ _ _ _ _ _ (fun hg => ?_) (fun hg => ?_)) | (refine GuardD_of _ _ _ _ (fun hg => ?_) (fun hg => ?_)) | (refine CondB_of _ _ _ _ _ _ _ ?_ (fun hg => ?_) (fun hg => ?_)))
  all_goals (try (first | ((first | unfold noN | unfold Fr.below | unfold Loc.below); simp [Fr.allN, AV.allN, AV.allNL, AO.allN]; done) | rfl | trivial | assumption | (intro row hrow; simp only [List.mem_map] at hrow; obtain ⟨x, _, rfl⟩ := hrow; rfl) | (refine Wk.keep hcl ?_ ?_ ?_; (focus (simp [Fr.get, SttD.av, SttD.cells, ints, int_] <;> fail)); (focus (simp [sto, SttD.av, SttD.cells, ints, int_] <;> fail)); (focus (simp <;> fail))) | (simp [allP, opd, Fr.get, Fr.below, Fr.allN, AV.allN, AV.allNL, Loc.below, AO.allN, noN, killO, killT, killD, mkNames, AO.kill, AV.kill, AV.mapN, AV.mapNL]; done) | (with_reducible exact ltD (by assumption)) | omega | (simp only [decide_eq_true_eq, decide_eq_false_iff_not] at *; omega)))
  all_goals first
    | (rw [idxD_some (p := pG s.gone v) (k := k) (by assumption) (by assumption) hF, decide_eq_true (by omega)]; done)
    | (rw [idxD_none (p := pG s.gone v) (k := k) (by assumption) hF]; rfl)
    | exact allN' hF (by assumption)
theorem bucketAt_p (s : SttD) (v : ByteArray) : Pure Try.prog 44 [s.av, .d (.v (.string v))] (I (idxD s.bkts.length (pB s.bkts v))) := by
  refine pure_of follows Try.func44 c44_eq r44 (Nat.le_of_ble_eq_true rfl) fun B σ hcl hsz => ?_
  obtain ⟨z1, z2, z3, z4, z5⟩ := st_sz5 (hsz s.av (by simp))
  clear hsz
  repeat' (first | (simp -implicitDefEqProofs only [*, contN, contC, Nat.reduceBEq, Bool.or_false, Bool.or_true, Bool.false_or, Bool.true_or, Bool.not_true, Bool.not_false, w_skip, w_ret, w_exit, w_reg, w_dreg, w_seq, SK_n, SK_r, SK_x, w_keep, w_block, w_cond, w_nil, w_cons, w_consg, w_nnil, w_ncons, w_dnil, w_dcons, w_dconsg, HK_app, HD_app, HQ_n, HQ_r, HQ_x, HQ_bn, HQ_br, HQ_bx, HQ_en, HQ_er, HQ_ex, CondB_true, CondB_false, SO1, w_sdv, SDe_alloc, SDe_box, SDe_bslice, SDe_app, true_imp_iff, false_imp_iff, and_false, false_and, not_false_eq_true, not_true_eq_false, addN, mkNames, killT, killD, killO, List.foldl_nil, List.foldl_cons, List.append_nil, List.nil_append, List.cons_append, GuardS_true, GuardS_false, GuardD_true, GuardD_false, DK_true, DK_false, lt_self_add, le_self_add, decide_true, decide_false, Bool.false_eq_true, Bool.true_eq_false, Nat.add_left_cancel_iff, SE, SEalloc, SEbox, SEstore, w_bs, SEbl, SEfz, SEbs0, fzName, osOf, AV.fz1, w_app, w_mk, aev, opd, Fr.get, putO, Fr.norm, List.map_cons, List.map_nil, with1, with2, onInt, AV.lit, entry, ↓reduceIte, Nat.reduceEqDiff, Nat.reduceAdd, reduceCtorEq, true_and, and_true, Option.map_some, Option.map_none, Option.bind_some, Option.bind_none, cond_true, cond_false, binV, unV, fieldV, loadV, sto, cellsAV, newF, newL, Fr.map, Loc.kill, Loc.set, AO.kill, AV.kill, AV.mapN, AV.mapNL, List.filter_nil, List.filter_cons, allP, EndV, retV, resV, resL, frz, dropL, AV.pick, nilV, tupV, imp_self, ne_eq, Int.cast_ofNat_Int, Int.reduceLT, Int.reduceToNat, List.getD_cons_zero, List.getD_cons_succ, bsliceV, buildV, afill, repl, chunk, rvs, AV.rv, RV.nrm, List.getElem?_nil, List.append_assoc, Nat.reduceMul, Nat.reducePow, Nat.zero_lt_succ, Nat.zero_add, Nat.add_zero, List.length_cons, List.length_nil, Nat.reduceLeDiff, Nat.le_refl, List.take_succ_cons, List.take_zero, List.drop_succ_cons, List.drop_zero, indexV, lenV, rowOf_mapD, rowOf_mapI, rowOf_mapA, List.length_map, Int.toNat_natCast, List.getElem?_cons_zero, List.getElem?_cons_succ, and_self, implies_true, if_true, if_false, HQ_zn, HQ_zr, HQ_wn, HQ_wr, AV.nz, AV.nzL, RV.nrm, SEbin, SEnil, nilK, srcV, dstV, appName, List.length_append, Nat.mul_one, take_map_len, take_map_app, List.getElem?_cons_zero, List.map_append, SEmkmap, SEmset, mgetV, kvOf, getM, setM, c44, r44, u44_1, v44_2, u44_3, u44_4, u44_5, u44_6, u44_7, u44_8, u44_9, u44_10, ty28, ty22, ty3, ty64, ty9, SttD.av, SttD.cells, BktD.row, ints, int_]) | (with_reducible refine And.intro ?_ ?_) | (refine loop_nat (s.bkts.length) (fun k => ∀ i, i < k → pB s.bkts v i = false) (fun k => [(2, .lp (B + 2) 0), (1, .d (.v (.string v))), (5, I k)]) (fun k => [(B + 2, .box s.cells)]) ?_ (Wk.keep hcl ?_ ?_ ?_) fun k hk hF => ?_; rotate_left 1; (focus (simp [Fr.get, newF, Fr.map, AV.kill, AV.mapN, SttD.av, SttD.cells, BktD.row, ints, int_] <;> fail)); (focus (simp [sto, newL, Loc.kill, Loc.set, AO.kill, AV.kill, AV.mapN, SttD.av, SttD.cells, BktD.row, ints, int_] <;> fail)); (focus (simp [newL, Loc.kill, Loc.set, SttD.av, SttD.cells, BktD.row, ints, int_] <;> fail)); (try have hw : IntKind.i64.wrap ((k : Int) + 1) = (k : Int) + 1 := IntWalk.i64_in _ (by omega))) | (refine EndX.plain ?_) | (refine nil_split (fun hn => ?_) (fun hn => ?_)) | (refine gcall_no not_false ?_) | (refine gdcall_no not_false ?_) | (refine GuardS_of _ _ _ _ _ _ (fun hg => ?_) (fun hg => ?_)) | (refine GuardD_of _ _ _ _ (fun hg => ?_) (fun hg => ?_)) | (refine CondB_of _ _ _ _ _ _ _ ?_ (fun hg => ?_) (fun hg => ?_)))
  all_goals (try (first | ((first | unfold noN | unfold Fr.below | unfold Loc.below); simp [Fr.allN, AV.allN, AV.allNL, AO.allN]; done) | rfl | trivial | assumption | (intro row hrow; simp only [List.mem_map] at hrow; obtain ⟨x, _, rfl⟩ := hrow; rfl) | (refine Wk.keep hcl ?_ ?_ ?_; (focus (simp [Fr.get, SttD.av, SttD.cells, BktD.row, ints, int_] <;> fail)); (focus (simp [sto, SttD.av, SttD.cells, BktD.row, ints, int_] <;> fail)); (focus (simp <;> fail))) | (simp [allP, opd, Fr.get, Fr.below, Fr.allN, AV.allN, AV.allNL, Loc.below, AO.allN, noN, killO, killT, killD, mkNames, AO.kill, AV.kill, AV.mapN, AV.mapNL]; done) | (with_reducible exact ltD (by assumption)) | omega | (simp only [decide_eq_true_eq, decide_eq_false_iff_not] at *; omega)))
  all_goals first
    | (rw [idxD_some (p := pB s.bkts v) (k := k) (by assumption) (by assumption) hF]; done)
    | (rw [idxD_none (p := pB s.bkts v) (k := k) (by assumption) hF]; done)
    | exact allN' hF (by assumption)
theorem versionAt_p (s : SttD) (v : Int) : Pure Try.prog 47 [s.av, I v] (I (idxD s.vers.length (pV s.vers v))) := by
  refine pure_of follows Try.func47 c47_eq r47 (Nat.le_of_ble_eq_true rfl) fun B σ hcl hsz => ?_
  obtain ⟨z1, z2, z3, z4, z5⟩ := st_sz5 (hsz s.av (by simp))
  clear hsz
  repeat' (first | (simp -implicitDefEqProofs only [*, contN, contC, Nat.reduceBEq, Bool.or_false, Bool.or_true, Bool.false_or, Bool.true_or, Bool.not_true, Bool.not_false, w_skip, w_ret, w_exit, w_reg, w_dreg, w_seq, SK_n, SK_r, SK_x, w_keep, w_block, w_cond, w_nil, w_cons, w_consg, w_nnil, w_ncons, w_dnil, w_dcons, w_dconsg, HK_app, HD_app, HQ_n, HQ_r, HQ_x, HQ_bn, HQ_br, HQ_bx, HQ_en, HQ_er, HQ_ex, CondB_true, CondB_false, SO1, w_sdv, SDe_alloc, SDe_box, SDe_bslice, SDe_app, true_imp_iff, false_imp_iff, and_false, false_and, not_false_eq_true, not_true_eq_false, addN, mkNames, killT, killD, killO, List.foldl_nil, List.foldl_cons, List.append_nil, List.nil_append, List.cons_append, GuardS_true, GuardS_false, GuardD_true, GuardD_false, DK_true, DK_false, lt_self_add, le_self_add, decide_true, decide_false, Bool.false_eq_true, Bool.true_eq_false, Nat.add_left_cancel_iff, SE, SEalloc, SEbox, SEstore, w_bs, SEbl, SEfz, SEbs0, fzName, osOf, AV.fz1, w_app, w_mk, aev, opd, Fr.get, putO, Fr.norm, List.map_cons, List.map_nil, with1, with2, onInt, AV.lit, entry, ↓reduceIte, Nat.reduceEqDiff, Nat.reduceAdd, reduceCtorEq, true_and, and_true, Option.map_some, Option.map_none, Option.bind_some, Option.bind_none, cond_true, cond_false, binV, unV, fieldV, loadV, sto, cellsAV, newF, newL, Fr.map, Loc.kill, Loc.set, AO.kill, AV.kill, AV.mapN, AV.mapNL, List.filter_nil, List.filter_cons, allP, EndV, retV, resV, resL, frz, dropL, AV.pick, nilV, tupV, imp_self, ne_eq, Int.cast_ofNat_Int, Int.reduceLT, Int.reduceToNat, List.getD_cons_zero, List.getD_cons_succ, bsliceV, buildV, afill, repl, chunk, rvs, AV.rv, RV.nrm, List.getElem?_nil, List.append_assoc, Nat.reduceMul, Nat.reducePow, Nat.zero_lt_succ, Nat.zero_add, Nat.add_zero, List.length_cons, List.length_nil, Nat.reduceLeDiff, Nat.le_refl, List.take_succ_cons, List.take_zero, List.drop_succ_cons, List.drop_zero, indexV, lenV, rowOf_mapD, rowOf_mapI, rowOf_mapA, List.length_map, Int.toNat_natCast, List.getElem?_cons_zero, List.getElem?_cons_succ, and_self, implies_true, if_true, if_false, HQ_zn, HQ_zr, HQ_wn, HQ_wr, AV.nz, AV.nzL, RV.nrm, SEbin, SEnil, nilK, srcV, dstV, appName, List.length_append, Nat.mul_one, take_map_len, take_map_app, List.getElem?_cons_zero, List.map_append, SEmkmap, SEmset, mgetV, kvOf, getM, setM, c47, r47, u47_1, v47_2, u47_3, u47_4, u47_5, u47_6, u47_7, u47_8, u47_9, u47_10, ty28, ty23, ty3, ty48, SttD.av, SttD.cells, VerD.row, ints, int_]) | (with_reducible refine And.intro ?_ ?_) | (refine loop_nat (s.vers.length) (fun k => ∀ i, i < k → pV s.vers v i = false) (fun k => [(2, .lp (B + 2) 0), (1, I v), (5, I k)]) (fun k => [(B + 2, .box s.cells)]) ?_ (Wk.keep hcl ?_ ?_ ?_) fun k hk hF => ?_; rotate_left 1; (focus (simp [Fr.get, newF, Fr.map, AV.kill, AV.mapN, SttD.av, SttD.cells, VerD.row, ints, int_] <;> fail)); (focus (simp [sto, newL, Loc.kill, Loc.set, AO.kill, AV.kill, AV.mapN, SttD.av, SttD.cells, VerD.row, ints, int_] <;> fail)); (focus (simp [newL, Loc.kill, Loc.set, SttD.av, SttD.cells, VerD.row, ints, int_] <;> fail)); (try have hw : IntKind.i64.wrap ((k : Int) + 1) = (k : Int) + 1 := IntWalk.i64_in _ (by omega))) | (refine EndX.plain ?_) | (refine nil_split (fun hn => ?_) (fun hn => ?_)) | (refine gcall_no not_false ?_) | (refine gdcall_no not_false ?_) | (refine GuardS_of _ _ _ _ _ _ (fun hg => ?_) (fun hg => ?_)) | (refine GuardD_of _ _ _ _ (fun hg => ?_) (fun hg => ?_)) | (refine CondB_of _ _ _ _ _ _ _ ?_ (fun hg => ?_) (fun hg => ?_)))
  all_goals (try (first | ((first | unfold noN | unfold Fr.below | unfold Loc.below); simp [Fr.allN, AV.allN, AV.allNL, AO.allN]; done) | rfl | trivial | assumption | (intro row hrow; simp only [List.mem_map] at hrow; obtain ⟨x, _, rfl⟩ := hrow; rfl) | (refine Wk.keep hcl ?_ ?_ ?_; (focus (simp [Fr.get, SttD.av, SttD.cells, VerD.row, ints, int_] <;> fail)); (focus (simp [sto, SttD.av, SttD.cells, VerD.row, ints, int_] <;> fail)); (focus (simp <;> fail))) | (simp [allP, opd, Fr.get, Fr.below, Fr.allN, AV.allN, AV.allNL, Loc.below, AO.allN, noN, killO, killT, killD, mkNames, AO.kill, AV.kill, AV.mapN, AV.mapNL]; done) | (with_reducible exact ltD (by assumption)) | omega | (simp only [decide_eq_true_eq, decide_eq_false_iff_not] at *; omega)))
  all_goals first
    | (rw [idxD_some (p := pV s.vers v) (k := k) (by assumption) (by assumption) hF]; done)
    | (rw [idxD_none (p := pV s.vers v) (k := k) (by assumption) hF]; done)
    | exact allN' hF (by assumption)
end Go.Proofs.Ytaacjghgniljpaa
