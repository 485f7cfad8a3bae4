/- Places in lists. -/
import Derived.Test.YteaojhieghakfaaStD
import Derived.Test.YteaojhieghakfaaTypes
namespace Go.Proofs.Yteaojhieghakfaa
open Go.RowKit
set_option maxRecDepth 100000
def o42_1 : List SO := ((SO.mk (some 15) (.load 3 (.tmp 14)) none) :: (SO.mk (some 16) (.bin .eql 3 (.tmp 11) (.tmp 15)) none) :: [])
theorem v42_1 : type_of% (@swl _ _ o42_1.eq_1) := @swl _ _ o42_1.eq_1
def c42_2 : SC := (.seq (.reg [SO.mk (some 17) (.move (.tmp 5)) none, SO.mk (some 4) (.move (.tmp 17)) none]) (.keep [4] .ret))
theorem u42_2 : type_of% (@swc _ _ c42_2.eq_1) := @swc _ _ c42_2.eq_1
def c42_3 : SC := (.cond (.tmp 16) c42_2 .skip)
theorem u42_3 : type_of% (@swc _ _ c42_3.eq_1) := @swc _ _ c42_3.eq_1
def c42_4 : SC := (.seq (.reg ((SO.mk (some 11) (.move (.tmp 1)) none) :: (SO.mk (some 12) (.move (.tmp 0)) none) :: (SO.mk (some 13) (.move (.tmp 5)) none) :: (SO.mk (some 14) (.iaddr 28 (.tmp 12) (.tmp 13)) none) :: o42_1)) (.keep [16, 5, 8, 7, 0, 1] c42_3))
theorem u42_4 : type_of% (@swc _ _ c42_4.eq_1) := @swc _ _ c42_4.eq_1
def c42_5 : SC := (.reg [SO.mk (some 18) (.bin .add 3 (.tmp 8) (.const (Value.int .i64 1))) none, SO.mk (some 8) (.move (.tmp 18)) none])
theorem u42_5 : type_of% (@swc _ _ c42_5.eq_1) := @swc _ _ c42_5.eq_1
def c42_6 : SC := (.seq (.block 1 (.seq (.reg [SO.mk (some 10) (.move (.tmp 8)) none, SO.mk (some 5) (.move (.tmp 10)) none]) (.keep [5, 8, 7, 0, 1] c42_4))) (.keep [8, 7, 0, 1] c42_5))
theorem u42_6 : type_of% (@swc _ _ c42_6.eq_1) := @swc _ _ c42_6.eq_1
def c42_7 : SC := (.seq (.cond (.tmp 9) .skip (.exit 0)) (.keep [8, 7, 0, 1] c42_6))
theorem u42_7 : type_of% (@swc _ _ c42_7.eq_1) := @swc _ _ c42_7.eq_1
def c42_8 : SC := (.seq (.reg [SO.mk (some 9) (.bin .lss 3 (.tmp 8) (.tmp 7)) none]) (.keep [9, 1, 0, 7, 8] c42_7))
theorem u42_8 : type_of% (@swc _ _ c42_8.eq_1) := @swc _ _ c42_8.eq_1
def c42_9 : SC := (.block 0 (.loop (.keep [1, 0, 7, 8] c42_8)))
theorem u42_9 : type_of% (@swc _ _ c42_9.eq_1) := @swc _ _ c42_9.eq_1
def c42_10 : SC := (.seq (.reg [SO.mk (some 4) (.move (.const (Value.int .i64 (-1)))) none]) (.keep [4] .ret))
theorem u42_10 : type_of% (@swc _ _ c42_10.eq_1) := @swc _ _ c42_10.eq_1
def c42_11 : SC := (.seq (.seq (.reg [SO.mk (some 6) (.move (.tmp 0)) none, SO.mk (some 7) (.len 28 (.tmp 6)) none, SO.mk (some 8) (.move (.const (Value.int .i64 0))) none]) (.keep [1, 0, 7, 8] c42_9)) (.keep [] c42_10))
theorem u42_11 : type_of% (@swc _ _ c42_11.eq_1) := @swc _ _ c42_11.eq_1
def c42 : SC := (.seq (.reg [SO.mk (some 4) (.move (.const (Value.int .i64 0))) none]) (.keep [1, 0] c42_11))
theorem c42_eq : annC Try.f42 = some c42 := by kernel_rfl
theorem r42 : Try.f42.results.toList = [.tmp 4] := by kernel_rfl
theorem e42 : enters Try.prog 42 = true := by kernel_rfl
def c23_1 : SC := (.seq (.reg [SO.mk (some 5) (.move (.tmp 0)) none, SO.mk (some 6) (.move (.tmp 1)) none, SO.mk (some 7) (.call 42 [(.tmp 5), (.tmp 6)]) none, SO.mk (some 8) (.bin .geq 3 (.tmp 7) (.const (Value.int .i64 0))) none, SO.mk (some 4) (.move (.tmp 8)) none]) (.keep [4] .ret))
theorem u23_1 : type_of% (@swc _ _ c23_1.eq_1) := @swc _ _ c23_1.eq_1
def c23 : SC := (.seq (.reg [SO.mk (some 4) (.move (.const (Value.bool false))) none]) (.keep [0, 1] c23_1))
theorem c23_eq : annC Try.f23 = some c23 := by kernel_rfl
theorem r23 : Try.f23.results.toList = [.tmp 4] := by kernel_rfl
theorem e23 : enters Try.prog 23 = true := by kernel_rfl
def c27_1 : SC := (.cond (.tmp 10) .skip (.exit 0))
theorem u27_1 : type_of% (@swc _ _ c27_1.eq_1) := @swc _ _ c27_1.eq_1
def o27_2 : List SO := ((SO.mk (some 17) (.load 3 (.tmp 16)) none) :: (SO.mk (some 18) (.move (.tmp 1)) none) :: (SO.mk (some 19) (.bin .eql 3 (.tmp 17) (.tmp 18)) none) :: [])
theorem v27_2 : type_of% (@swl _ _ o27_2.eq_1) := @swl _ _ o27_2.eq_1
def c27_3 : SC := (.seq (.reg [SO.mk (some 4) (.move (.const (Value.bool true))) none]) (.keep [4] .ret))
theorem u27_3 : type_of% (@swc _ _ c27_3.eq_1) := @swc _ _ c27_3.eq_1
def c27_4 : SC := (.cond (.tmp 19) c27_3 .skip)
theorem u27_4 : type_of% (@swc _ _ c27_4.eq_1) := @swc _ _ c27_4.eq_1
def c27_5 : SC := (.reg [SO.mk (some 11) (.move (.tmp 5)) none, SO.mk (some 12) (.bin .add 3 (.tmp 11) (.const (Value.int .i64 1))) none, SO.mk (some 5) (.move (.tmp 12)) none])
theorem u27_5 : type_of% (@swc _ _ c27_5.eq_1) := @swc _ _ c27_5.eq_1
def c27_6 : SC := (.seq (.block 1 (.seq (.reg ((SO.mk (some 13) (.faddr 30 (.tmp 2) 6) none) :: (SO.mk (some 14) (.load 28 (.tmp 13)) none) :: (SO.mk (some 15) (.move (.tmp 5)) none) :: (SO.mk (some 16) (.iaddr 28 (.tmp 14) (.tmp 15)) none) :: o27_2)) (.keep [19, 5, 1, 2] c27_4))) (.keep [5, 1, 2] c27_5))
theorem u27_6 : type_of% (@swc _ _ c27_6.eq_1) := @swc _ _ c27_6.eq_1
def c27_7 : SC := (.seq (.seq (.reg [SO.mk (some 6) (.move (.tmp 5)) none, SO.mk (some 7) (.faddr 30 (.tmp 2) 6) none, SO.mk (some 8) (.load 28 (.tmp 7)) none, SO.mk (some 9) (.len 28 (.tmp 8)) none, SO.mk (some 10) (.bin .lss 3 (.tmp 6) (.tmp 9)) none]) (.keep [10, 2, 1, 5] c27_1)) (.keep [5, 1, 2] c27_6))
theorem u27_7 : type_of% (@swc _ _ c27_7.eq_1) := @swc _ _ c27_7.eq_1
def c27_8 : SC := (.block 0 (.loop (.keep [2, 1, 5] c27_7)))
theorem u27_8 : type_of% (@swc _ _ c27_8.eq_1) := @swc _ _ c27_8.eq_1
def c27_9 : SC := (.seq (.reg [SO.mk (some 4) (.move (.const (Value.bool false))) none]) (.keep [4] .ret))
theorem u27_9 : type_of% (@swc _ _ c27_9.eq_1) := @swc _ _ c27_9.eq_1
def c27_10 : SC := (.seq (.seq (.reg [SO.mk (some 5) (.move (.const (Value.int .i64 0))) none]) (.keep [2, 1, 5] c27_8)) (.keep [] c27_9))
theorem u27_10 : type_of% (@swc _ _ c27_10.eq_1) := @swc _ _ c27_10.eq_1
def c27 : SC := (.seq (.reg [SO.mk (some 2) (.box 30 (.tmp 0)) none, SO.mk (some 4) (.move (.const (Value.bool false))) none]) (.keep [2, 1] c27_10))
theorem c27_eq : annC Try.f27 = some c27 := by kernel_rfl
theorem r27 : Try.f27.results.toList = [.tmp 4] := by kernel_rfl
theorem e27 : enters Try.prog 27 = true := by kernel_rfl
def c46_1 : SC := (.cond (.tmp 10) .skip (.exit 0))
theorem u46_1 : type_of% (@swc _ _ c46_1.eq_1) := @swc _ _ c46_1.eq_1
def o46_2 : List SO := ((SO.mk (some 17) (.faddr 78 (.tmp 16) 0) none) :: (SO.mk (some 18) (.load 9 (.tmp 17)) none) :: (SO.mk (some 19) (.move (.tmp 1)) none) :: (SO.mk (some 20) (.bin .eql 9 (.tmp 18) (.tmp 19)) none) :: [])
theorem v46_2 : type_of% (@swl _ _ o46_2.eq_1) := @swl _ _ o46_2.eq_1
def c46_3 : SC := (.seq (.reg [SO.mk (some 21) (.move (.tmp 5)) none, SO.mk (some 4) (.move (.tmp 21)) none]) (.keep [4] .ret))
theorem u46_3 : type_of% (@swc _ _ c46_3.eq_1) := @swc _ _ c46_3.eq_1
def c46_4 : SC := (.cond (.tmp 20) c46_3 .skip)
theorem u46_4 : type_of% (@swc _ _ c46_4.eq_1) := @swc _ _ c46_4.eq_1
def c46_5 : SC := (.reg [SO.mk (some 11) (.move (.tmp 5)) none, SO.mk (some 12) (.bin .add 3 (.tmp 11) (.const (Value.int .i64 1))) none, SO.mk (some 5) (.move (.tmp 12)) none])
theorem u46_5 : type_of% (@swc _ _ c46_5.eq_1) := @swc _ _ c46_5.eq_1
def c46_6 : SC := (.seq (.block 1 (.seq (.reg ((SO.mk (some 13) (.faddr 30 (.tmp 2) 2) none) :: (SO.mk (some 14) (.load 24 (.tmp 13)) none) :: (SO.mk (some 15) (.move (.tmp 5)) none) :: (SO.mk (some 16) (.iaddr 24 (.tmp 14) (.tmp 15)) none) :: o46_2)) (.keep [20, 5, 1, 2] c46_4))) (.keep [5, 1, 2] c46_5))
theorem u46_6 : type_of% (@swc _ _ c46_6.eq_1) := @swc _ _ c46_6.eq_1
def c46_7 : SC := (.seq (.seq (.reg [SO.mk (some 6) (.move (.tmp 5)) none, SO.mk (some 7) (.faddr 30 (.tmp 2) 2) none, SO.mk (some 8) (.load 24 (.tmp 7)) none, SO.mk (some 9) (.len 24 (.tmp 8)) none, SO.mk (some 10) (.bin .lss 3 (.tmp 6) (.tmp 9)) none]) (.keep [10, 2, 1, 5] c46_1)) (.keep [5, 1, 2] c46_6))
theorem u46_7 : type_of% (@swc _ _ c46_7.eq_1) := @swc _ _ c46_7.eq_1
def c46_8 : SC := (.block 0 (.loop (.keep [2, 1, 5] c46_7)))
theorem u46_8 : type_of% (@swc _ _ c46_8.eq_1) := @swc _ _ c46_8.eq_1
def c46_9 : SC := (.seq (.reg [SO.mk (some 4) (.move (.const (Value.int .i64 (-1)))) none]) (.keep [4] .ret))
theorem u46_9 : type_of% (@swc _ _ c46_9.eq_1) := @swc _ _ c46_9.eq_1
def c46_10 : SC := (.seq (.seq (.reg [SO.mk (some 5) (.move (.const (Value.int .i64 0))) none]) (.keep [2, 1, 5] c46_8)) (.keep [] c46_9))
theorem u46_10 : type_of% (@swc _ _ c46_10.eq_1) := @swc _ _ c46_10.eq_1
def c46 : SC := (.seq (.reg [SO.mk (some 2) (.box 30 (.tmp 0)) none, SO.mk (some 4) (.move (.const (Value.int .i64 0))) none]) (.keep [2, 1] c46_10))
theorem c46_eq : annC Try.f46 = some c46 := by kernel_rfl
theorem r46 : Try.f46.results.toList = [.tmp 4] := by kernel_rfl
theorem e46 : enters Try.prog 46 = true := by kernel_rfl
def c49_1 : SC := (.cond (.tmp 10) .skip (.exit 0))
theorem u49_1 : type_of% (@swc _ _ c49_1.eq_1) := @swc _ _ c49_1.eq_1
def o49_2 : List SO := ((SO.mk (some 17) (.faddr 57 (.tmp 16) 0) none) :: (SO.mk (some 18) (.load 3 (.tmp 17)) none) :: (SO.mk (some 19) (.move (.tmp 1)) none) :: (SO.mk (some 20) (.bin .eql 3 (.tmp 18) (.tmp 19)) none) :: [])
theorem v49_2 : type_of% (@swl _ _ o49_2.eq_1) := @swl _ _ o49_2.eq_1
def c49_3 : SC := (.seq (.reg [SO.mk (some 21) (.move (.tmp 5)) none, SO.mk (some 4) (.move (.tmp 21)) none]) (.keep [4] .ret))
theorem u49_3 : type_of% (@swc _ _ c49_3.eq_1) := @swc _ _ c49_3.eq_1
def c49_4 : SC := (.cond (.tmp 20) c49_3 .skip)
theorem u49_4 : type_of% (@swc _ _ c49_4.eq_1) := @swc _ _ c49_4.eq_1
def c49_5 : SC := (.reg [SO.mk (some 11) (.move (.tmp 5)) none, SO.mk (some 12) (.bin .add 3 (.tmp 11) (.const (Value.int .i64 1))) none, SO.mk (some 5) (.move (.tmp 12)) none])
theorem u49_5 : type_of% (@swc _ _ c49_5.eq_1) := @swc _ _ c49_5.eq_1
def c49_6 : SC := (.seq (.block 1 (.seq (.reg ((SO.mk (some 13) (.faddr 30 (.tmp 2) 3) none) :: (SO.mk (some 14) (.load 25 (.tmp 13)) none) :: (SO.mk (some 15) (.move (.tmp 5)) none) :: (SO.mk (some 16) (.iaddr 25 (.tmp 14) (.tmp 15)) none) :: o49_2)) (.keep [20, 5, 1, 2] c49_4))) (.keep [5, 1, 2] c49_5))
theorem u49_6 : type_of% (@swc _ _ c49_6.eq_1) := @swc _ _ c49_6.eq_1
def c49_7 : SC := (.seq (.seq (.reg [SO.mk (some 6) (.move (.tmp 5)) none, SO.mk (some 7) (.faddr 30 (.tmp 2) 3) none, SO.mk (some 8) (.load 25 (.tmp 7)) none, SO.mk (some 9) (.len 25 (.tmp 8)) none, SO.mk (some 10) (.bin .lss 3 (.tmp 6) (.tmp 9)) none]) (.keep [10, 2, 1, 5] c49_1)) (.keep [5, 1, 2] c49_6))
theorem u49_7 : type_of% (@swc _ _ c49_7.eq_1) := @swc _ _ c49_7.eq_1
def c49_8 : SC := (.block 0 (.loop (.keep [2, 1, 5] c49_7)))
theorem u49_8 : type_of% (@swc _ _ c49_8.eq_1) := @swc _ _ c49_8.eq_1
def c49_9 : SC := (.seq (.reg [SO.mk (some 4) (.move (.const (Value.int .i64 (-1)))) none]) (.keep [4] .ret))
theorem u49_9 : type_of% (@swc _ _ c49_9.eq_1) := @swc _ _ c49_9.eq_1
def c49_10 : SC := (.seq (.seq (.reg [SO.mk (some 5) (.move (.const (Value.int .i64 0))) none]) (.keep [2, 1, 5] c49_8)) (.keep [] c49_9))
theorem u49_10 : type_of% (@swc _ _ c49_10.eq_1) := @swc _ _ c49_10.eq_1
def c49 : SC := (.seq (.reg [SO.mk (some 2) (.box 30 (.tmp 0)) none, SO.mk (some 4) (.move (.const (Value.int .i64 0))) none]) (.keep [2, 1] c49_10))
theorem c49_eq : annC Try.f49 = some c49 := by kernel_rfl
theorem r49 : Try.f49.results.toList = [.tmp 4] := by kernel_rfl
theorem e49 : enters Try.prog 49 = true := by kernel_rfl
end Go.Proofs.Yteaojhieghakfaa
namespace Go.Proofs.Yteaojhieghakfaa
open Go.RowKit
set_option maxHeartbeats 4000000
set_option maxRecDepth 20000
attribute [local irreducible] SW SWL SWLn SWD SEcall SEcallv SDv SE SO1 SOg ACalls ACallv Wk EndV
set_option linter.unusedSimpArgs false
set_option linter.unusedVariables false
def idxD (n : Nat) (p : Nat → Bool) : Int := match (List.range n).find? p with
  | some k => k
  | none => -1
theorem idxD_some {n k : Nat} {p : Nat → Bool} (hk : decide ((k : Int) < (n : Int)) = true) (hp : p k = true) (hF : ∀ i, i < k → p i = false) : idxD n p = k := by
  have hk : k < n := by have := of_decide_eq_true hk; omega
  unfold idxD
  have : (List.range n).find? p = some k := by
    rw [List.find?_eq_some_iff_getElem]
    refine ⟨hp, k, by simpa using hk, by simp, fun j hj => ?_⟩
    simp [hF j hj]
  rw [this]
theorem idxD_none {n k : Nat} {p : Nat → Bool} (hk : decide ((k : Int) < (n : Int)) = false) (hF : ∀ i, i < k → p i = false) : idxD n p = -1 := by
  have hk : n ≤ k := by have := of_decide_eq_false hk; omega
  unfold idxD
  have : (List.range n).find? p = none := by
    rw [List.find?_eq_none]
    intro x hx
    have := List.mem_range.1 hx
    rw [hF x (by omega)]; decide
  rw [this]
theorem idxD_lt {n : Nat} {p : Nat → Bool} : idxD n p < n := by
  unfold idxD
  split
  · rename_i k h
    have := List.mem_range.1 (List.mem_of_find?_eq_some h); omega
  · omega
theorem idxD_ge {n : Nat} {p : Nat → Bool} : idxD n p ≥ 0 ↔ ∃ k, k < n ∧ p k = true := by
  unfold idxD
  split
  · rename_i k h
    exact ⟨fun _ => ⟨k, List.mem_range.1 (List.mem_of_find?_eq_some h), List.find?_some h⟩, fun _ => by omega⟩
  · rename_i h
    rw [List.find?_eq_none] at h
    refine ⟨fun h => by omega, fun ⟨k, h1, h2⟩ => ?_⟩
    exact absurd h2 (h k (List.mem_range.2 h1))
theorem allN' {p : Nat → Bool} {k : Nat} (hF : ∀ i, i < k → p i = false) (h : p k = false) : ∀ i, i < k + 1 → p i = false := fun i hi => by
  rcases Nat.lt_succ_iff_lt_or_eq.1 hi with h' | rfl
  · exact hF i h'
  · exact h
def pI (l : List Int) (v : Int) (k : Nat) : Bool := v == l[k]!
def pG (l : List Int) (v : Int) (k : Nat) : Bool := l[k]! == v
def pB (l : List BktD) (s : ByteArray) (k : Nat) : Bool := l[k]!.name.toList == s.toList
def pV (l : List VerD) (v : Int) (k : Nat) : Bool := l[k]!.id == v
theorem index_p (l : List Int) (v : Int) : Pure Try.prog 42 [.d (ints l), I v] (I (idxD l.length (pI l v))) := by
  refine pure_of follows Try.func42 c42_eq r42 (Nat.le_of_ble_eq_true rfl) fun B σ hcl hsz => ?_
  have hlen : l.length ≤ 2 ^ 47 := by simpa using (show Sized (ints l) from hsz (.d (ints l)) (by simp)).len
  clear hsz
  repeat' (first | (simp -implicitDefEqProofs only [*, contN, contC, Nat.reduceBEq, Bool.or_false, Bool.or_true, Bool.false_or, Bool.true_or, Bool.not_true, Bool.not_false, w_skip, w_ret, w_exit, w_reg, w_dreg, w_seq, SK_n, SK_r, SK_x, w_keep, w_block, w_cond, w_nil, w_cons, w_consg, w_nnil, w_ncons, w_dnil, w_dcons, w_dconsg, HK_app, HD_app, HQ_n, HQ_r, HQ_x, HQ_bn, HQ_br, HQ_bx, HQ_en, HQ_er, HQ_ex, CondB_true, CondB_false, SO1, w_sdv, SDe_alloc, SDe_box, SDe_bslice, SDe_app, true_imp_iff, false_imp_iff, and_false, false_and, not_false_eq_true, not_true_eq_false, addN, mkNames, killT, killD, killO, List.foldl_nil, List.foldl_cons, List.append_nil, List.nil_append, List.cons_append, GuardS_true, GuardS_false, GuardD_true, GuardD_false, DK_true, DK_false, lt_self_add, le_self_add, decide_true, decide_false, Bool.false_eq_true, Bool.true_eq_false, Nat.add_left_cancel_iff, SE, SEalloc, SEbox, SEstore, w_bs, SEbl, SEfz, SEbs0, fzName, osOf, AV.fz1, w_app, w_mk, aev, opd, Fr.get, putO, Fr.norm, List.map_cons, List.map_nil, with1, with2, onInt, AV.lit, entry, ↓reduceIte, Nat.reduceEqDiff, Nat.reduceAdd, reduceCtorEq, true_and, and_true, Option.map_some, Option.map_none, Option.bind_some, Option.bind_none, cond_true, cond_false, binV, unV, fieldV, loadV, sto, cellsAV, newF, newL, Fr.map, Loc.kill, Loc.set, AO.kill, AV.kill, AV.mapN, AV.mapNL, List.filter_nil, List.filter_cons, allP, EndV, retV, resV, resL, frz, dropL, AV.pick, nilV, tupV, imp_self, ne_eq, Int.cast_ofNat_Int, Int.reduceLT, Int.reduceToNat, List.getD_cons_zero, List.getD_cons_succ, bsliceV, buildV, afill, repl, chunk, rvs, AV.rv, RV.nrm, List.getElem?_nil, List.append_assoc, Nat.reduceMul, Nat.reducePow, Nat.zero_lt_succ, Nat.zero_add, Nat.add_zero, List.length_cons, List.length_nil, Nat.reduceLeDiff, Nat.le_refl, List.take_succ_cons, List.take_zero, List.drop_succ_cons, List.drop_zero, indexV, lenV, rowOf_mapD, rowOf_mapI, rowOf_mapA, List.length_map, Int.toNat_natCast, List.getElem?_cons_zero, List.getElem?_cons_succ, and_self, implies_true, if_true, if_false, HQ_zn, HQ_zr, HQ_wn, HQ_wr, AV.nz, AV.nzL, RV.nrm, SEbin, SEnil, nilK, srcV, dstV, appName, List.length_append, Nat.mul_one, take_map_len, take_map_app, List.getElem?_cons_zero, List.map_append, SEmkmap, SEmset, mgetV, kvOf, getM, setM, c42, r42, v42_1, u42_2, u42_3, u42_4, u42_5, u42_6, u42_7, u42_8, u42_9, u42_10, u42_11, ty28, ty3, ints, int_]) | (with_reducible refine And.intro ?_ ?_) | (refine loop_nat (l.length) (fun k => ∀ i, i < k → pI l v i = false) (fun k => [(0, .d (ints l)), (1, I v), (7, I l.length), (8, I k)]) (fun k => []) ?_ (Wk.keep hcl ?_ ?_ ?_) fun k hk hF => ?_; rotate_left 1; (focus (simp [Fr.get, newF, Fr.map, AV.kill, AV.mapN, ints, int_] <;> fail)); (focus (simp [sto, newL, Loc.kill, Loc.set, AO.kill, AV.kill, AV.mapN, ints, int_] <;> fail)); (focus (simp [newL, Loc.kill, Loc.set, ints, int_] <;> fail)); (try have hw : IntKind.i64.wrap ((k : Int) + 1) = (k : Int) + 1 := IntWalk.i64_in _ (by omega))) | (refine EndX.plain ?_) | (refine nil_split (fun hn => ?_) (fun hn => ?_)) | (refine gcall_no not_false ?_) | (refine gdcall_no not_false ?_) | (refine GuardS_of _ _ _ _ _ _ (fun hg => ?_) (fun hg => ?_)) | (refine GuardD_of _ _ _ _ (fun hg => ?_) (fun hg => ?_)) | (refine CondB_of _ _ _ _ _ _ _ ?_ (fun hg => ?_) (fun hg => ?_)))
  all_goals (try (first | ((first | unfold noN | unfold Fr.below | unfold Loc.below); simp [Fr.allN, AV.allN, AV.allNL, AO.allN]; done) | rfl | trivial | assumption | (intro row hrow; simp only [List.mem_map] at hrow; obtain ⟨x, _, rfl⟩ := hrow; rfl) | (refine Wk.keep hcl ?_ ?_ ?_; (focus (simp [Fr.get, ints, int_] <;> fail)); (focus (simp [sto, ints, int_] <;> fail)); (focus (simp <;> fail))) | (simp [allP, opd, Fr.get, Fr.below, Fr.allN, AV.allN, AV.allNL, Loc.below, AO.allN, noN, killO, killT, killD, mkNames, AO.kill, AV.kill, AV.mapN, AV.mapNL]; done) | (with_reducible exact ltD (by assumption)) | omega | (simp only [decide_eq_true_eq, decide_eq_false_iff_not] at *; omega)))
  all_goals first
    | (rw [idxD_some (p := pI l v) (k := k) (by assumption) (by assumption) hF]; done)
    | (rw [idxD_none (p := pI l v) (k := k) (by assumption) hF]; done)
    | exact allN' hF (by assumption)
theorem contains_p (l : List Int) (v : Int) : Pure Try.prog 23 [.d (ints l), I v] (Bo (decide (idxD l.length (pI l v) ≥ 0))) := by
  refine pure_of follows Try.func23 c23_eq r23 (Nat.le_of_ble_eq_true rfl) fun B σ hcl hsz => ?_
  clear hsz
  repeat' (first | (simp -implicitDefEqProofs only [*, contN, contC, Nat.reduceBEq, Bool.or_false, Bool.or_true, Bool.false_or, Bool.true_or, Bool.not_true, Bool.not_false, w_skip, w_ret, w_exit, w_reg, w_dreg, w_seq, SK_n, SK_r, SK_x, w_keep, w_block, w_cond, w_nil, w_cons, w_consg, w_nnil, w_ncons, w_dnil, w_dcons, w_dconsg, HK_app, HD_app, HQ_n, HQ_r, HQ_x, HQ_bn, HQ_br, HQ_bx, HQ_en, HQ_er, HQ_ex, CondB_true, CondB_false, SO1, w_sdv, SDe_alloc, SDe_box, SDe_bslice, SDe_app, true_imp_iff, false_imp_iff, and_false, false_and, not_false_eq_true, not_true_eq_false, addN, mkNames, killT, killD, killO, List.foldl_nil, List.foldl_cons, List.append_nil, List.nil_append, List.cons_append, GuardS_true, GuardS_false, GuardD_true, GuardD_false, DK_true, DK_false, lt_self_add, le_self_add, decide_true, decide_false, Bool.false_eq_true, Bool.true_eq_false, Nat.add_left_cancel_iff, SE, SEalloc, SEbox, SEstore, w_bs, SEbl, SEfz, SEbs0, fzName, osOf, AV.fz1, w_app, w_mk, aev, opd, Fr.get, putO, Fr.norm, List.map_cons, List.map_nil, with1, with2, onInt, AV.lit, entry, ↓reduceIte, Nat.reduceEqDiff, Nat.reduceAdd, reduceCtorEq, true_and, and_true, Option.map_some, Option.map_none, Option.bind_some, Option.bind_none, cond_true, cond_false, binV, unV, fieldV, loadV, sto, cellsAV, newF, newL, Fr.map, Loc.kill, Loc.set, AO.kill, AV.kill, AV.mapN, AV.mapNL, List.filter_nil, List.filter_cons, allP, EndV, retV, resV, resL, frz, dropL, AV.pick, nilV, tupV, imp_self, ne_eq, Int.cast_ofNat_Int, Int.reduceLT, Int.reduceToNat, List.getD_cons_zero, List.getD_cons_succ, bsliceV, buildV, afill, repl, chunk, rvs, AV.rv, RV.nrm, List.getElem?_nil, List.append_assoc, Nat.reduceMul, Nat.reducePow, Nat.zero_lt_succ, Nat.zero_add, Nat.add_zero, List.length_cons, List.length_nil, Nat.reduceLeDiff, Nat.le_refl, List.take_succ_cons, List.take_zero, List.drop_succ_cons, List.drop_zero, indexV, lenV, rowOf_mapD, rowOf_mapI, rowOf_mapA, List.length_map, Int.toNat_natCast, List.getElem?_cons_zero, List.getElem?_cons_succ, and_self, implies_true, if_true, if_false, HQ_zn, HQ_zr, HQ_wn, HQ_wr, AV.nz, AV.nzL, RV.nrm, SEbin, SEnil, nilK, srcV, dstV, appName, List.length_append, Nat.mul_one, take_map_len, take_map_app, List.getElem?_cons_zero, List.map_append, SEmkmap, SEmset, mgetV, kvOf, getM, setM, c23, r23, u23_1, ty3]) | (with_reducible refine And.intro ?_ ?_) | (refine call_ro e42 ( index_p l v) rfl ?_ ?_ ?_ ?_) | (refine gcall_ro e42 ( index_p l v) rfl ?_ ?_ ?_ ?_) | (refine dcall_ro e42 ( index_p l v) rfl ?_ ?_ ?_ ?_) | (refine gdcall_ro rfl e42 ( index_p l v) rfl ?_ ?_ ?_ ?_) | (refine EndX.plain ?_) | (refine nil_split (fun hn => ?_) (fun hn => ?_)) | (refine gcall_no not_false ?_) | (refine gdcall_no not_false ?_) | (refine GuardS_of _ _ _ _ _ _ (fun hg => ?_) (fun hg => ?_)) | (refine GuardD_of _ _ _ _ (fun hg => ?_) (fun hg => ?_)) | (refine CondB_of _ _ _ _ _ _ _ ?_ (fun hg => ?_) (fun hg => ?_)))
  all_goals (try (first | ((first | unfold noN | unfold Fr.below | unfold Loc.below); simp [Fr.allN, AV.allN, AV.allNL, AO.allN]; done) | rfl | trivial | assumption | (intro row hrow; simp only [List.mem_map] at hrow; obtain ⟨x, _, rfl⟩ := hrow; rfl) | (refine Wk.keep hcl ?_ ?_ ?_; (focus (simp [Fr.get] <;> fail)); (focus (simp [sto] <;> fail)); (focus (simp <;> fail))) | (simp [allP, opd, Fr.get, Fr.below, Fr.allN, AV.allN, AV.allNL, Loc.below, AO.allN, noN, killO, killT, killD, mkNames, AO.kill, AV.kill, AV.mapN, AV.mapNL]; done) | (with_reducible exact ltD (by assumption)) | omega | (simp only [decide_eq_true_eq, decide_eq_false_iff_not] at *; omega)))
theorem gone_p (s : SttD) (v : Int) : Pure Try.prog 27 [s.av, I v] (Bo (decide (idxD s.gone.length (pG s.gone v) ≥ 0))) := by
  refine pure_of follows Try.func27 c27_eq r27 (Nat.le_of_ble_eq_true rfl) fun B σ hcl hsz => ?_
  obtain ⟨z1, z2, z3, z4, z5⟩ := st_sz5 (hsz s.av (by simp))
  clear hsz
  repeat' (first | (simp -implicitDefEqProofs only [*, contN, contC, Nat.reduceBEq, Bool.or_false, Bool.or_true, Bool.false_or, Bool.true_or, Bool.not_true, Bool.not_false, w_skip, w_ret, w_exit, w_reg, w_dreg, w_seq, SK_n, SK_r, SK_x, w_keep, w_block, w_cond, w_nil, w_cons, w_consg, w_nnil, w_ncons, w_dnil, w_dcons, w_dconsg, HK_app, HD_app, HQ_n, HQ_r, HQ_x, HQ_bn, HQ_br, HQ_bx, HQ_en, HQ_er, HQ_ex, CondB_true, CondB_false, SO1, w_sdv, SDe_alloc, SDe_box, SDe_bslice, SDe_app, true_imp_iff, false_imp_iff, and_false, false_and, not_false_eq_true, not_true_eq_false, addN, mkNames, killT, killD, killO, List.foldl_nil, List.foldl_cons, List.append_nil, List.nil_append, List.cons_append, GuardS_true, GuardS_false, GuardD_true, GuardD_false, DK_true, DK_false, lt_self_add, le_self_add, decide_true, decide_false, Bool.false_eq_true, Bool.true_eq_false, Nat.add_left_cancel_iff, SE, SEalloc, SEbox, SEstore, w_bs, SEbl, SEfz, SEbs0, fzName, osOf, AV.fz1, w_app, w_mk, aev, opd, Fr.get, putO, Fr.norm, List.map_cons, List.map_nil, with1, with2, onInt, AV.lit, entry, ↓reduceIte, Nat.reduceEqDiff, Nat.reduceAdd, reduceCtorEq, true_and, and_true, Option.map_some, Option.map_none, Option.bind_some, Option.bind_none, cond_true, cond_false, binV, unV, fieldV, loadV, sto, cellsAV, newF, newL, Fr.map, Loc.kill, Loc.set, AO.kill, AV.kill, AV.mapN, AV.mapNL, List.filter_nil, List.filter_cons, allP, EndV, retV, resV, resL, frz, dropL, AV.pick, nilV, tupV, imp_self, ne_eq, Int.cast_ofNat_Int, Int.reduceLT, Int.reduceToNat, List.getD_cons_zero, List.getD_cons_succ, bsliceV, buildV, afill, repl, chunk, rvs, AV.rv, RV.nrm, List.getElem?_nil, List.append_assoc, Nat.reduceMul, Nat.reducePow, Nat.zero_lt_succ, Nat.zero_add, Nat.add_zero, List.length_cons, List.length_nil, Nat.reduceLeDiff, Nat.le_refl, List.take_succ_cons, List.take_zero, List.drop_succ_cons, List.drop_zero, indexV, lenV, rowOf_mapD, rowOf_mapI, rowOf_mapA, List.length_map, Int.toNat_natCast, List.getElem?_cons_zero, List.getElem?_cons_succ, and_self, implies_true, if_true, if_false, HQ_zn, HQ_zr, HQ_wn, HQ_wr, AV.nz, AV.nzL, RV.nrm, SEbin, SEnil, nilK, srcV, dstV, appName, List.length_append, Nat.mul_one, take_map_len, take_map_app, List.getElem?_cons_zero, List.map_append, SEmkmap, SEmset, mgetV, kvOf, getM, setM, c27, r27, u27_1, v27_2, u27_3, u27_4, u27_5, u27_6, u27_7, u27_8, u27_9, u27_10, ty30, ty28, ty3, SttD.av, SttD.cells, ints, int_]) | (with_reducible refine And.intro ?_ ?_) | (refine loop_nat (s.gone.length) (fun k => ∀ i, i < k → pG s.gone v i = false) (fun k => [(2, .lp (B + 2) 0), (1, I v), (5, I k)]) (fun k => [(B + 2, .box s.cells)]) ?_ (Wk.keep hcl ?_ ?_ ?_) fun k hk hF => ?_; rotate_left 1; (focus (simp [Fr.get, newF, Fr.map, AV.kill, AV.mapN, SttD.av, SttD.cells, ints, int_] <;> fail)); (focus (simp [sto, newL, Loc.kill, Loc.set, AO.kill, AV.kill, AV.mapN, SttD.av, SttD.cells, ints, int_] <;> fail)); (focus (simp [newL, Loc.kill, Loc.set, SttD.av, SttD.cells, ints, int_] <;> fail)); (try have hw : IntKind.i64.wrap ((k : Int) + 1) = (k : Int) + 1 := IntWalk.i64_in _ (by omega))) | (refine EndX.plain ?_) | (refine nil_split (fun hn => ?_) (fun hn => ?_)) | (refine gcall_no not_false ?_) | (refine gdcall_no not_false ?_) | (refine GuardS_of _ _ _ _ _ _ (fun hg => ?_) (fun hg => ?_)) | (refine GuardD_of _ _ _ _ (fun hg => ?_) (fun hg => ?_)) | (refine CondB_of _ _ _ _ _ _ _ ?_ (fun hg => ?_) (fun hg => ?_)))
  all_goals (try (first | ((first | unfold noN | unfold Fr.below | unfold Loc.below); simp [Fr.allN, AV.allN, AV.allNL, AO.allN]; done) | rfl | trivial | assumption | (intro row hrow; simp only [List.mem_map] at hrow; obtain ⟨x, _, rfl⟩ := hrow; rfl) | (refine Wk.keep hcl ?_ ?_ ?_; (focus (simp [Fr.get, SttD.av, SttD.cells, ints, int_] <;> fail)); (focus (simp [sto, SttD.av, SttD.cells, ints, int_] <;> fail)); (focus (simp <;> fail))) | (simp [allP, opd, Fr.get, Fr.below, Fr.allN, AV.allN, AV.allNL, Loc.below, AO.allN, noN, killO, killT, killD, mkNames, AO.kill, AV.kill, AV.mapN, AV.mapNL]; done) | (with_reducible exact ltD (by assumption)) | omega | (simp only [decide_eq_true_eq, decide_eq_false_iff_not] at *; omega)))
  all_goals first
    | (rw [idxD_some (p := pG s.gone v) (k := k) (by assumption) (by assumption) hF, decide_eq_true (by omega)]; done)
    | (rw [idxD_none (p := pG s.gone v) (k := k) (by assumption) hF]; rfl)
    | exact allN' hF (by assumption)
theorem bucketAt_p (s : SttD) (v : ByteArray) : Pure Try.prog 46 [s.av, .d (.v (.string v))] (I (idxD s.bkts.length (pB s.bkts v))) := by
  refine pure_of follows Try.func46 c46_eq r46 (Nat.le_of_ble_eq_true rfl) fun B σ hcl hsz => ?_
  obtain ⟨z1, z2, z3, z4, z5⟩ := st_sz5 (hsz s.av (by simp))
  clear hsz
  repeat' (first | (simp -implicitDefEqProofs only [*, contN, contC, Nat.reduceBEq, Bool.or_false, Bool.or_true, Bool.false_or, Bool.true_or, Bool.not_true, Bool.not_false, w_skip, w_ret, w_exit, w_reg, w_dreg, w_seq, SK_n, SK_r, SK_x, w_keep, w_block, w_cond, w_nil, w_cons, w_consg, w_nnil, w_ncons, w_dnil, w_dcons, w_dconsg, HK_app, HD_app, HQ_n, HQ_r, HQ_x, HQ_bn, HQ_br, HQ_bx, HQ_en, HQ_er, HQ_ex, CondB_true, CondB_false, SO1, w_sdv, SDe_alloc, SDe_box, SDe_bslice, SDe_app, true_imp_iff, false_imp_iff, and_false, false_and, not_false_eq_true, not_true_eq_false, addN, mkNames, killT, killD, killO, List.foldl_nil, List.foldl_cons, List.append_nil, List.nil_append, List.cons_append, GuardS_true, GuardS_false, GuardD_true, GuardD_false, DK_true, DK_false, lt_self_add, le_self_add, decide_true, decide_false, Bool.false_eq_true, Bool.true_eq_false, Nat.add_left_cancel_iff, SE, SEalloc, SEbox, SEstore, w_bs, SEbl, SEfz, SEbs0, fzName, osOf, AV.fz1, w_app, w_mk, aev, opd, Fr.get, putO, Fr.norm, List.map_cons, List.map_nil, with1, with2, onInt, AV.lit, entry, ↓reduceIte, Nat.reduceEqDiff, Nat.reduceAdd, reduceCtorEq, true_and, and_true, Option.map_some, Option.map_none, Option.bind_some, Option.bind_none, cond_true, cond_false, binV, unV, fieldV, loadV, sto, cellsAV, newF, newL, Fr.map, Loc.kill, Loc.set, AO.kill, AV.kill, AV.mapN, AV.mapNL, List.filter_nil, List.filter_cons, allP, EndV, retV, resV, resL, frz, dropL, AV.pick, nilV, tupV, imp_self, ne_eq, Int.cast_ofNat_Int, Int.reduceLT, Int.reduceToNat, List.getD_cons_zero, List.getD_cons_succ, bsliceV, buildV, afill, repl, chunk, rvs, AV.rv, RV.nrm, List.getElem?_nil, List.append_assoc, Nat.reduceMul, Nat.reducePow, Nat.zero_lt_succ, Nat.zero_add, Nat.add_zero, List.length_cons, List.length_nil, Nat.reduceLeDiff, Nat.le_refl, List.take_succ_cons, List.take_zero, List.drop_succ_cons, List.drop_zero, indexV, lenV, rowOf_mapD, rowOf_mapI, rowOf_mapA, List.length_map, Int.toNat_natCast, List.getElem?_cons_zero, List.getElem?_cons_succ, and_self, implies_true, if_true, if_false, HQ_zn, HQ_zr, HQ_wn, HQ_wr, AV.nz, AV.nzL, RV.nrm, SEbin, SEnil, nilK, srcV, dstV, appName, List.length_append, Nat.mul_one, take_map_len, take_map_app, List.getElem?_cons_zero, List.map_append, SEmkmap, SEmset, mgetV, kvOf, getM, setM, c46, r46, u46_1, v46_2, u46_3, u46_4, u46_5, u46_6, u46_7, u46_8, u46_9, u46_10, ty30, ty24, ty3, ty78, ty9, SttD.av, SttD.cells, BktD.row, ints, int_]) | (with_reducible refine And.intro ?_ ?_) | (refine loop_nat (s.bkts.length) (fun k => ∀ i, i < k → pB s.bkts v i = false) (fun k => [(2, .lp (B + 2) 0), (1, .d (.v (.string v))), (5, I k)]) (fun k => [(B + 2, .box s.cells)]) ?_ (Wk.keep hcl ?_ ?_ ?_) fun k hk hF => ?_; rotate_left 1; (focus (simp [Fr.get, newF, Fr.map, AV.kill, AV.mapN, SttD.av, SttD.cells, BktD.row, ints, int_] <;> fail)); (focus (simp [sto, newL, Loc.kill, Loc.set, AO.kill, AV.kill, AV.mapN, SttD.av, SttD.cells, BktD.row, ints, int_] <;> fail)); (focus (simp [newL, Loc.kill, Loc.set, SttD.av, SttD.cells, BktD.row, ints, int_] <;> fail)); (try have hw : IntKind.i64.wrap ((k : Int) + 1) = (k : Int) + 1 := IntWalk.i64_in _ (by omega))) | (refine EndX.plain ?_) | (refine nil_split (fun hn => ?_) (fun hn => ?_)) | (refine gcall_no not_false ?_) | (refine gdcall_no not_false ?_) | (refine GuardS_of _ _ _ _ _ _ (fun hg => ?_) (fun hg => ?_)) | (refine GuardD_of _ _ _ _ (fun hg => ?_) (fun hg => ?_)) | (refine CondB_of _ _ _ _ _ _ _ ?_ (fun hg => ?_) (fun hg => ?_)))
  all_goals (try (first | ((first | unfold noN | unfold Fr.below | unfold Loc.below); simp [Fr.allN, AV.allN, AV.allNL, AO.allN]; done) | rfl | trivial | assumption | (intro row hrow; simp only [List.mem_map] at hrow; obtain ⟨x, _, rfl⟩ := hrow; rfl) | (refine Wk.keep hcl ?_ ?_ ?_; (focus (simp [Fr.get, SttD.av, SttD.cells, BktD.row, ints, int_] <;> fail)); (focus (simp [sto, SttD.av, SttD.cells, BktD.row, ints, int_] <;> fail)); (focus (simp <;> fail))) | (simp [allP, opd, Fr.get, Fr.below, Fr.allN, AV.allN, AV.allNL, Loc.below, AO.allN, noN, killO, killT, killD, mkNames, AO.kill, AV.kill, AV.mapN, AV.mapNL]; done) | (with_reducible exact ltD (by assumption)) | omega | (simp only [decide_eq_true_eq, decide_eq_false_iff_not] at *; omega)))
  all_goals first
    | (rw [idxD_some (p := pB s.bkts v) (k := k) (by assumption) (by assumption) hF]; done)
    | (rw [idxD_none (p := pB s.bkts v) (k := k) (by assumption) hF]; done)
    | exact allN' hF (by assumption)
theorem versionAt_p (s : SttD) (v : Int) : Pure Try.prog 49 [s.av, I v] (I (idxD s.vers.length (pV s.vers v))) := by
  refine pure_of follows Try.func49 c49_eq r49 (Nat.le_of_ble_eq_true rfl) fun B σ hcl hsz => ?_
  obtain ⟨z1, z2, z3, z4, z5⟩ := st_sz5 (hsz s.av (by simp))
  clear hsz
  repeat' (first | (simp -implicitDefEqProofs only [*, contN, contC, Nat.reduceBEq, Bool.or_false, Bool.or_true, Bool.false_or, Bool.true_or, Bool.not_true, Bool.not_false, w_skip, w_ret, w_exit, w_reg, w_dreg, w_seq, SK_n, SK_r, SK_x, w_keep, w_block, w_cond, w_nil, w_cons, w_consg, w_nnil, w_ncons, w_dnil, w_dcons, w_dconsg, HK_app, HD_app, HQ_n, HQ_r, HQ_x, HQ_bn, HQ_br, HQ_bx, HQ_en, HQ_er, HQ_ex, CondB_true, CondB_false, SO1, w_sdv, SDe_alloc, SDe_box, SDe_bslice, SDe_app, true_imp_iff, false_imp_iff, and_false, false_and, not_false_eq_true, not_true_eq_false, addN, mkNames, killT, killD, killO, List.foldl_nil, List.foldl_cons, List.append_nil, List.nil_append, List.cons_append, GuardS_true, GuardS_false, GuardD_true, GuardD_false, DK_true, DK_false, lt_self_add, le_self_add, decide_true, decide_false, Bool.false_eq_true, Bool.true_eq_false, Nat.add_left_cancel_iff, SE, SEalloc, SEbox, SEstore, w_bs, SEbl, SEfz, SEbs0, fzName, osOf, AV.fz1, w_app, w_mk, aev, opd, Fr.get, putO, Fr.norm, List.map_cons, List.map_nil, with1, with2, onInt, AV.lit, entry, ↓reduceIte, Nat.reduceEqDiff, Nat.reduceAdd, reduceCtorEq, true_and, and_true, Option.map_some, Option.map_none, Option.bind_some, Option.bind_none, cond_true, cond_false, binV, unV, fieldV, loadV, sto, cellsAV, newF, newL, Fr.map, Loc.kill, Loc.set, AO.kill, AV.kill, AV.mapN, AV.mapNL, List.filter_nil, List.filter_cons, allP, EndV, retV, resV, resL, frz, dropL, AV.pick, nilV, tupV, imp_self, ne_eq, Int.cast_ofNat_Int, Int.reduceLT, Int.reduceToNat, List.getD_cons_zero, List.getD_cons_succ, bsliceV, buildV, afill, repl, chunk, rvs, AV.rv, RV.nrm, List.getElem?_nil, List.append_assoc, Nat.reduceMul, Nat.reducePow, Nat.zero_lt_succ, Nat.zero_add, Nat.add_zero, List.length_cons, List.length_nil, Nat.reduceLeDiff, Nat.le_refl, List.take_succ_cons, List.take_zero, List.drop_succ_cons, List.drop_zero, indexV, lenV, rowOf_mapD, rowOf_mapI, rowOf_mapA, List.length_map, Int.toNat_natCast, List.getElem?_cons_zero, List.getElem?_cons_succ, and_self, implies_true, if_true, if_false, HQ_zn, HQ_zr, HQ_wn, HQ_wr, AV.nz, AV.nzL, RV.nrm, SEbin, SEnil, nilK, srcV, dstV, appName, List.length_append, Nat.mul_one, take_map_len, take_map_app, List.getElem?_cons_zero, List.map_append, SEmkmap, SEmset, mgetV, kvOf, getM, setM, c49, r49, u49_1, v49_2, u49_3, u49_4, u49_5, u49_6, u49_7, u49_8, u49_9, u49_10, ty30, ty25, ty3, ty57, SttD.av, SttD.cells, VerD.row, ints, int_]) | (with_reducible refine And.intro ?_ ?_) | (refine loop_nat (s.vers.length) (fun k => ∀ i, i < k → pV s.vers v i = false) (fun k => [(2, .lp (B + 2) 0), (1, I v), (5, I k)]) (fun k => [(B + 2, .box s.cells)]) ?_ (Wk.keep hcl ?_ ?_ ?_) fun k hk hF => ?_; rotate_left 1; (focus (simp [Fr.get, newF, Fr.map, AV.kill, AV.mapN, SttD.av, SttD.cells, VerD.row, ints, int_] <;> fail)); (focus (simp [sto, newL, Loc.kill, Loc.set, AO.kill, AV.kill, AV.mapN, SttD.av, SttD.cells, VerD.row, ints, int_] <;> fail)); (focus (simp [newL, Loc.kill, Loc.set, SttD.av, SttD.cells, VerD.row, ints, int_] <;> fail)); (try have hw : IntKind.i64.wrap ((k : Int) + 1) = (k : Int) + 1 := IntWalk.i64_in _ (by omega))) | (refine EndX.plain ?_) | (refine nil_split (fun hn => ?_) (fun hn => ?_)) | (refine gcall_no not_false ?_) | (refine gdcall_no not_false ?_) | (refine GuardS_of _ _ _ _ _ _ (fun hg => ?_) (fun hg => ?_)) | (refine GuardD_of _ _ _ _ (fun hg => ?_) (fun hg => ?_)) | (refine CondB_of _ _ _ _ _ _ _ ?_ (fun hg => ?_) (fun hg => ?_)))
  all_goals (try (first | ((first | unfold noN | unfold Fr.below | unfold Loc.below); simp [Fr.allN, AV.allN, AV.allNL, AO.allN]; done) | rfl | trivial | assumption | (intro row hrow; simp only [List.mem_map] at hrow; obtain ⟨x, _, rfl⟩ := hrow; rfl) | (refine Wk.keep hcl ?_ ?_ ?_; (focus (simp [Fr.get, SttD.av, SttD.cells, VerD.row, ints, int_] <;> fail)); (focus (simp [sto, SttD.av, SttD.cells, VerD.row, ints, int_] <;> fail)); (focus (simp <;> fail))) | (simp [allP, opd, Fr.get, Fr.below, Fr.allN, AV.allN, AV.allNL, Loc.below, AO.allN, noN, killO, killT, killD, mkNames, AO.kill, AV.kill, AV.mapN, AV.mapNL]; done) | (with_reducible exact ltD (by assumption)) | omega | (simp only [decide_eq_true_eq, decide_eq_false_iff_not] at *; omega)))
  all_goals first
    | (rw [idxD_some (p := pV s.vers v) (k := k) (by assumption) (by assumption) hF]; done)
    | (rw [idxD_none (p := pV s.vers v) (k := k) (by assumption) hF]; done)
    | exact allN' hF (by assumption)
end Go.Proofs.Yteaojhieghakfaa
