/- Places in lists. -/
import Derived.Test.YtobbkfldjemgkaaStD
import Derived.Test.YtobbkfldjemgkaaTypes
namespace Go.Proofs.Ytobbkfldjemgkaa
open Go.RowKit
set_option maxRecDepth 100000
def o28_1 : List SO := ((SO.mk (some 15) (.load 3 (.tmp 14)) none) :: (SO.mk (some 16) (.bin .eql 3 (.tmp 11) (.tmp 15)) none) :: [])
theorem v28_1 : type_of% (@swl _ _ o28_1.eq_1) := @swl _ _ o28_1.eq_1
def c28_2 : SC := (.seq (.reg [SO.mk (some 17) (.move (.tmp 5)) none, SO.mk (some 4) (.move (.tmp 17)) none]) (.keep [4] .ret))
theorem u28_2 : type_of% (@swc _ _ c28_2.eq_1) := @swc _ _ c28_2.eq_1
def c28_3 : SC := (.cond (.tmp 16) c28_2 .skip)
theorem u28_3 : type_of% (@swc _ _ c28_3.eq_1) := @swc _ _ c28_3.eq_1
def c28_4 : SC := (.seq (.reg ((SO.mk (some 11) (.move (.tmp 1)) none) :: (SO.mk (some 12) (.move (.tmp 0)) none) :: (SO.mk (some 13) (.move (.tmp 5)) none) :: (SO.mk (some 14) (.iaddr 28 (.tmp 12) (.tmp 13)) none) :: o28_1)) (.keep [16, 5, 8, 7, 0, 1] c28_3))
theorem u28_4 : type_of% (@swc _ _ c28_4.eq_1) := @swc _ _ c28_4.eq_1
def c28_5 : SC := (.reg [SO.mk (some 18) (.bin .add 3 (.tmp 8) (.const (Value.int .i64 1))) none, SO.mk (some 8) (.move (.tmp 18)) none])
theorem u28_5 : type_of% (@swc _ _ c28_5.eq_1) := @swc _ _ c28_5.eq_1
def c28_6 : SC := (.seq (.block 1 (.seq (.reg [SO.mk (some 10) (.move (.tmp 8)) none, SO.mk (some 5) (.move (.tmp 10)) none]) (.keep [5, 8, 7, 0, 1] c28_4))) (.keep [8, 7, 0, 1] c28_5))
theorem u28_6 : type_of% (@swc _ _ c28_6.eq_1) := @swc _ _ c28_6.eq_1
def c28_7 : SC := (.seq (.cond (.tmp 9) .skip (.exit 0)) (.keep [8, 7, 0, 1] c28_6))
theorem u28_7 : type_of% (@swc _ _ c28_7.eq_1) := @swc _ _ c28_7.eq_1
def c28_8 : SC := (.seq (.reg [SO.mk (some 9) (.bin .lss 3 (.tmp 8) (.tmp 7)) none]) (.keep [9, 1, 0, 7, 8] c28_7))
theorem u28_8 : type_of% (@swc _ _ c28_8.eq_1) := @swc _ _ c28_8.eq_1
def c28_9 : SC := (.block 0 (.loop (.keep [1, 0, 7, 8] c28_8)))
theorem u28_9 : type_of% (@swc _ _ c28_9.eq_1) := @swc _ _ c28_9.eq_1
def c28_10 : SC := (.seq (.reg [SO.mk (some 4) (.move (.const (Value.int .i64 (-1)))) none]) (.keep [4] .ret))
theorem u28_10 : type_of% (@swc _ _ c28_10.eq_1) := @swc _ _ c28_10.eq_1
def c28_11 : SC := (.seq (.seq (.reg [SO.mk (some 6) (.move (.tmp 0)) none, SO.mk (some 7) (.len 28 (.tmp 6)) none, SO.mk (some 8) (.move (.const (Value.int .i64 0))) none]) (.keep [1, 0, 7, 8] c28_9)) (.keep [] c28_10))
theorem u28_11 : type_of% (@swc _ _ c28_11.eq_1) := @swc _ _ c28_11.eq_1
def c28 : SC := (.seq (.reg [SO.mk (some 4) (.move (.const (Value.int .i64 0))) none]) (.keep [1, 0] c28_11))
theorem c28_eq : annC Try.f28 = some c28 := by kernel_rfl
theorem r28 : Try.f28.results.toList = [.tmp 4] := by kernel_rfl
theorem e28 : enters Try.prog 28 = true := by kernel_rfl
def c14_1 : SC := (.seq (.reg [SO.mk (some 5) (.move (.tmp 0)) none, SO.mk (some 6) (.move (.tmp 1)) none, SO.mk (some 7) (.call 28 [(.tmp 5), (.tmp 6)]) none, SO.mk (some 8) (.bin .geq 3 (.tmp 7) (.const (Value.int .i64 0))) none, SO.mk (some 4) (.move (.tmp 8)) none]) (.keep [4] .ret))
theorem u14_1 : type_of% (@swc _ _ c14_1.eq_1) := @swc _ _ c14_1.eq_1
def c14 : SC := (.seq (.reg [SO.mk (some 4) (.move (.const (Value.bool false))) none]) (.keep [0, 1] c14_1))
theorem c14_eq : annC Try.f14 = some c14 := by kernel_rfl
theorem r14 : Try.f14.results.toList = [.tmp 4] := by kernel_rfl
theorem e14 : enters Try.prog 14 = true := by kernel_rfl
def c18_1 : SC := (.cond (.tmp 10) .skip (.exit 0))
theorem u18_1 : type_of% (@swc _ _ c18_1.eq_1) := @swc _ _ c18_1.eq_1
def o18_2 : List SO := ((SO.mk (some 17) (.load 3 (.tmp 16)) none) :: (SO.mk (some 18) (.move (.tmp 1)) none) :: (SO.mk (some 19) (.bin .eql 3 (.tmp 17) (.tmp 18)) none) :: [])
theorem v18_2 : type_of% (@swl _ _ o18_2.eq_1) := @swl _ _ o18_2.eq_1
def c18_3 : SC := (.seq (.reg [SO.mk (some 4) (.move (.const (Value.bool true))) none]) (.keep [4] .ret))
theorem u18_3 : type_of% (@swc _ _ c18_3.eq_1) := @swc _ _ c18_3.eq_1
def c18_4 : SC := (.cond (.tmp 19) c18_3 .skip)
theorem u18_4 : type_of% (@swc _ _ c18_4.eq_1) := @swc _ _ c18_4.eq_1
def c18_5 : SC := (.reg [SO.mk (some 11) (.move (.tmp 5)) none, SO.mk (some 12) (.bin .add 3 (.tmp 11) (.const (Value.int .i64 1))) none, SO.mk (some 5) (.move (.tmp 12)) none])
theorem u18_5 : type_of% (@swc _ _ c18_5.eq_1) := @swc _ _ c18_5.eq_1
def c18_6 : SC := (.seq (.block 1 (.seq (.reg ((SO.mk (some 13) (.faddr 30 (.tmp 2) 6) none) :: (SO.mk (some 14) (.load 28 (.tmp 13)) none) :: (SO.mk (some 15) (.move (.tmp 5)) none) :: (SO.mk (some 16) (.iaddr 28 (.tmp 14) (.tmp 15)) none) :: o18_2)) (.keep [19, 5, 1, 2] c18_4))) (.keep [5, 1, 2] c18_5))
theorem u18_6 : type_of% (@swc _ _ c18_6.eq_1) := @swc _ _ c18_6.eq_1
def c18_7 : SC := (.seq (.seq (.reg [SO.mk (some 6) (.move (.tmp 5)) none, SO.mk (some 7) (.faddr 30 (.tmp 2) 6) none, SO.mk (some 8) (.load 28 (.tmp 7)) none, SO.mk (some 9) (.len 28 (.tmp 8)) none, SO.mk (some 10) (.bin .lss 3 (.tmp 6) (.tmp 9)) none]) (.keep [10, 2, 1, 5] c18_1)) (.keep [5, 1, 2] c18_6))
theorem u18_7 : type_of% (@swc _ _ c18_7.eq_1) := @swc _ _ c18_7.eq_1
def c18_8 : SC := (.block 0 (.loop (.keep [2, 1, 5] c18_7)))
theorem u18_8 : type_of% (@swc _ _ c18_8.eq_1) := @swc _ _ c18_8.eq_1
def c18_9 : SC := (.seq (.reg [SO.mk (some 4) (.move (.const (Value.bool false))) none]) (.keep [4] .ret))
theorem u18_9 : type_of% (@swc _ _ c18_9.eq_1) := @swc _ _ c18_9.eq_1
def c18_10 : SC := (.seq (.seq (.reg [SO.mk (some 5) (.move (.const (Value.int .i64 0))) none]) (.keep [2, 1, 5] c18_8)) (.keep [] c18_9))
theorem u18_10 : type_of% (@swc _ _ c18_10.eq_1) := @swc _ _ c18_10.eq_1
def c18 : SC := (.seq (.reg [SO.mk (some 2) (.box 30 (.tmp 0)) none, SO.mk (some 4) (.move (.const (Value.bool false))) none]) (.keep [2, 1] c18_10))
theorem c18_eq : annC Try.f18 = some c18 := by kernel_rfl
theorem r18 : Try.f18.results.toList = [.tmp 4] := by kernel_rfl
theorem e18 : enters Try.prog 18 = true := by kernel_rfl
def c32_1 : SC := (.cond (.tmp 10) .skip (.exit 0))
theorem u32_1 : type_of% (@swc _ _ c32_1.eq_1) := @swc _ _ c32_1.eq_1
def o32_2 : List SO := ((SO.mk (some 17) (.faddr 63 (.tmp 16) 0) none) :: (SO.mk (some 18) (.load 9 (.tmp 17)) none) :: (SO.mk (some 19) (.move (.tmp 1)) none) :: (SO.mk (some 20) (.bin .eql 9 (.tmp 18) (.tmp 19)) none) :: [])
theorem v32_2 : type_of% (@swl _ _ o32_2.eq_1) := @swl _ _ o32_2.eq_1
def c32_3 : SC := (.seq (.reg [SO.mk (some 21) (.move (.tmp 5)) none, SO.mk (some 4) (.move (.tmp 21)) none]) (.keep [4] .ret))
theorem u32_3 : type_of% (@swc _ _ c32_3.eq_1) := @swc _ _ c32_3.eq_1
def c32_4 : SC := (.cond (.tmp 20) c32_3 .skip)
theorem u32_4 : type_of% (@swc _ _ c32_4.eq_1) := @swc _ _ c32_4.eq_1
def c32_5 : SC := (.reg [SO.mk (some 11) (.move (.tmp 5)) none, SO.mk (some 12) (.bin .add 3 (.tmp 11) (.const (Value.int .i64 1))) none, SO.mk (some 5) (.move (.tmp 12)) none])
theorem u32_5 : type_of% (@swc _ _ c32_5.eq_1) := @swc _ _ c32_5.eq_1
def c32_6 : SC := (.seq (.block 1 (.seq (.reg ((SO.mk (some 13) (.faddr 30 (.tmp 2) 2) none) :: (SO.mk (some 14) (.load 24 (.tmp 13)) none) :: (SO.mk (some 15) (.move (.tmp 5)) none) :: (SO.mk (some 16) (.iaddr 24 (.tmp 14) (.tmp 15)) none) :: o32_2)) (.keep [20, 5, 1, 2] c32_4))) (.keep [5, 1, 2] c32_5))
theorem u32_6 : type_of% (@swc _ _ c32_6.eq_1) := @swc _ _ c32_6.eq_1
def c32_7 : SC := (.seq (.seq (.reg [SO.mk (some 6) (.move (.tmp 5)) none, SO.mk (some 7) (.faddr 30 (.tmp 2) 2) none, SO.mk (some 8) (.load 24 (.tmp 7)) none, SO.mk (some 9) (.len 24 (.tmp 8)) none, SO.mk (some 10) (.bin .lss 3 (.tmp 6) (.tmp 9)) none]) (.keep [10, 2, 1, 5] c32_1)) (.keep [5, 1, 2] c32_6))
theorem u32_7 : type_of% (@swc _ _ c32_7.eq_1) := @swc _ _ c32_7.eq_1
def c32_8 : SC := (.block 0 (.loop (.keep [2, 1, 5] c32_7)))
theorem u32_8 : type_of% (@swc _ _ c32_8.eq_1) := @swc _ _ c32_8.eq_1
def c32_9 : SC := (.seq (.reg [SO.mk (some 4) (.move (.const (Value.int .i64 (-1)))) none]) (.keep [4] .ret))
theorem u32_9 : type_of% (@swc _ _ c32_9.eq_1) := @swc _ _ c32_9.eq_1
def c32_10 : SC := (.seq (.seq (.reg [SO.mk (some 5) (.move (.const (Value.int .i64 0))) none]) (.keep [2, 1, 5] c32_8)) (.keep [] c32_9))
theorem u32_10 : type_of% (@swc _ _ c32_10.eq_1) := @swc _ _ c32_10.eq_1
def c32 : SC := (.seq (.reg [SO.mk (some 2) (.box 30 (.tmp 0)) none, SO.mk (some 4) (.move (.const (Value.int .i64 0))) none]) (.keep [2, 1] c32_10))
theorem c32_eq : annC Try.f32 = some c32 := by kernel_rfl
theorem r32 : Try.f32.results.toList = [.tmp 4] := by kernel_rfl
theorem e32 : enters Try.prog 32 = true := by kernel_rfl
def c35_1 : SC := (.cond (.tmp 10) .skip (.exit 0))
theorem u35_1 : type_of% (@swc _ _ c35_1.eq_1) := @swc _ _ c35_1.eq_1
def o35_2 : List SO := ((SO.mk (some 17) (.faddr 37 (.tmp 16) 0) none) :: (SO.mk (some 18) (.load 3 (.tmp 17)) none) :: (SO.mk (some 19) (.move (.tmp 1)) none) :: (SO.mk (some 20) (.bin .eql 3 (.tmp 18) (.tmp 19)) none) :: [])
theorem v35_2 : type_of% (@swl _ _ o35_2.eq_1) := @swl _ _ o35_2.eq_1
def c35_3 : SC := (.seq (.reg [SO.mk (some 21) (.move (.tmp 5)) none, SO.mk (some 4) (.move (.tmp 21)) none]) (.keep [4] .ret))
theorem u35_3 : type_of% (@swc _ _ c35_3.eq_1) := @swc _ _ c35_3.eq_1
def c35_4 : SC := (.cond (.tmp 20) c35_3 .skip)
theorem u35_4 : type_of% (@swc _ _ c35_4.eq_1) := @swc _ _ c35_4.eq_1
def c35_5 : SC := (.reg [SO.mk (some 11) (.move (.tmp 5)) none, SO.mk (some 12) (.bin .add 3 (.tmp 11) (.const (Value.int .i64 1))) none, SO.mk (some 5) (.move (.tmp 12)) none])
theorem u35_5 : type_of% (@swc _ _ c35_5.eq_1) := @swc _ _ c35_5.eq_1
def c35_6 : SC := (.seq (.block 1 (.seq (.reg ((SO.mk (some 13) (.faddr 30 (.tmp 2) 3) none) :: (SO.mk (some 14) (.load 25 (.tmp 13)) none) :: (SO.mk (some 15) (.move (.tmp 5)) none) :: (SO.mk (some 16) (.iaddr 25 (.tmp 14) (.tmp 15)) none) :: o35_2)) (.keep [20, 5, 1, 2] c35_4))) (.keep [5, 1, 2] c35_5))
theorem u35_6 : type_of% (@swc _ _ c35_6.eq_1) := @swc _ _ c35_6.eq_1
def c35_7 : SC := (.seq (.seq (.reg [SO.mk (some 6) (.move (.tmp 5)) none, SO.mk (some 7) (.faddr 30 (.tmp 2) 3) none, SO.mk (some 8) (.load 25 (.tmp 7)) none, SO.mk (some 9) (.len 25 (.tmp 8)) none, SO.mk (some 10) (.bin .lss 3 (.tmp 6) (.tmp 9)) none]) (.keep [10, 2, 1, 5] c35_1)) (.keep [5, 1, 2] c35_6))
theorem u35_7 : type_of% (@swc _ _ c35_7.eq_1) := @swc _ _ c35_7.eq_1
def c35_8 : SC := (.block 0 (.loop (.keep [2, 1, 5] c35_7)))
theorem u35_8 : type_of% (@swc _ _ c35_8.eq_1) := @swc _ _ c35_8.eq_1
def c35_9 : SC := (.seq (.reg [SO.mk (some 4) (.move (.const (Value.int .i64 (-1)))) none]) (.keep [4] .ret))
theorem u35_9 : type_of% (@swc _ _ c35_9.eq_1) := @swc _ _ c35_9.eq_1
def c35_10 : SC := (.seq (.seq (.reg [SO.mk (some 5) (.move (.const (Value.int .i64 0))) none]) (.keep [2, 1, 5] c35_8)) (.keep [] c35_9))
theorem u35_10 : type_of% (@swc _ _ c35_10.eq_1) := @swc _ _ c35_10.eq_1
def c35 : SC := (.seq (.reg [SO.mk (some 2) (.box 30 (.tmp 0)) none, SO.mk (some 4) (.move (.const (Value.int .i64 0))) none]) (.keep [2, 1] c35_10))
theorem c35_eq : annC Try.f35 = some c35 := by kernel_rfl
theorem r35 : Try.f35.results.toList = [.tmp 4] := by kernel_rfl
theorem e35 : enters Try.prog 35 = true := by kernel_rfl
end Go.Proofs.Ytobbkfldjemgkaa
namespace Go.Proofs.Ytobbkfldjemgkaa
open Go.RowKit
set_option maxHeartbeats 4000000
set_option maxRecDepth 20000
attribute [local irreducible] SW SWL SWLn SWD SEcall SEcallv SDv SE SO1 SOg ACalls ACallv Wk EndV
set_option linter.unusedSimpArgs false
set_option linter.unusedVariables false
def idxD (n : Nat) (p : Nat → Bool) : Int := match (List.range n).find? p with
  | some k => k
  | none => -1
theorem idxD_some {n k : Nat} {p : Nat → Bool} (hk : decide ((k : Int) < (n : Int)) = true) (hp : p k = true) (hF : ∀ i, i < k → p i = false) : idxD n p = k := by
  have hk : k < n := by have := of_decide_eq_true hk; omega
  unfold idxD
  have : (List.range n).find? p = some k := by
    rw [List.find?_eq_some_iff_getElem]
    refine ⟨hp, k, by simpa using hk, by simp, fun j hj => ?_⟩
    simp [hF j hj]
  rw [this]
theorem idxD_none {n k : Nat} {p : Nat → Bool} (hk : decide ((k : Int) < (n : Int)) = false) (hF : ∀ i, i < k → p i = false) : idxD n p = -1 := by
  have hk : n ≤ k := by have := of_decide_eq_false hk; omega
  unfold idxD
  have : (List.range n).find? p = none := by
    rw [List.find?_eq_none]
    intro x hx
    have := List.mem_range.1 hx
    rw [hF x (by omega)]; decide
  rw [this]
theorem idxD_lt {n : Nat} {p : Nat → Bool} : idxD n p < n := by
  unfold idxD
  split
  · rename_i k h
    have := List.mem_range.1 (List.mem_of_find?_eq_some h); omega
  · omega
theorem idxD_ge {n : Nat} {p : Nat → Bool} : idxD n p ≥ 0 ↔ ∃ k, k < n ∧ p k = true := by
  unfold idxD
  split
  · rename_i k h
    exact ⟨fun _ => ⟨k, List.mem_range.1 (List.mem_of_find?_eq_some h), List.find?_some h⟩, fun _ => by omega⟩
  · rename_i h
    rw [List.find?_eq_none] at h
    refine ⟨fun h => by omega, fun ⟨k, h1, h2⟩ => ?_⟩
    exact absurd h2 (h k (List.mem_range.2 h1))
theorem allN' {p : Nat → Bool} {k : Nat} (hF : ∀ i, i < k → p i = false) (h : p k = false) : ∀ i, i < k + 1 → p i = false := fun i hi => by
  rcases Nat.lt_succ_iff_lt_or_eq.1 hi with h' | rfl
  · exact hF i h'
  · exact h
def pI (l : List Int) (v : Int) (k : Nat) : Bool := v == l[k]!
def pG (l : List Int) (v : Int) (k : Nat) : Bool := l[k]! == v
def pB (l : List BktD) (s : ByteArray) (k : Nat) : Bool := l[k]!.name.toList == s.toList
def pV (l : List VerD) (v : Int) (k : Nat) : Bool := l[k]!.id == v
theorem index_p (l : List Int) (v : Int) : Pure Try.prog 28 [.d (ints l), I v] (I (idxD l.length (pI l v))) := by
  refine pure_of follows Try.func28 c28_eq r28 (Nat.le_of_ble_eq_true rfl) fun B σ hcl hsz => ?_
  have hlen : l.length ≤ 2 ^ 47 := by simpa using (show Sized (ints l) from hsz (.d (ints l)) (by simp)).len
  clear hsz
  repeat' (first | (simp -implicitDefEqProofs only [*, contN, contC, Nat.reduceBEq, Bool.or_false, Bool.or_true, Bool.false_or, Bool.true_or, Bool.not_true, Bool.not_false, w_skip, w_ret, w_exit, w_reg, w_dreg, w_seq, SK_n, SK_r, SK_x, w_keep, w_block, w_cond, w_nil, w_cons, w_consg, w_nnil, w_ncons, w_dnil, w_dcons, w_dconsg, HK_app, HD_app, HQ_n, HQ_r, HQ_x, HQ_bn, HQ_br, HQ_bx, HQ_en, HQ_er, HQ_ex, CondB_true, CondB_false, SO1, w_sdv, SDe_alloc, SDe_box, SDe_bslice, SDe_app, true_imp_iff, false_imp_iff, and_false, false_and, not_false_eq_true, not_true_eq_false, addN, mkNames, killT, killD, killO, List.foldl_nil, List.foldl_cons, List.append_nil, List.nil_append, List.cons_append, GuardS_true, GuardS_false, GuardD_true, GuardD_false, DK_true, DK_false, lt_self_add, le_self_add, decide_true, decide_false, Bool.false_eq_true, Bool.true_eq_false, Nat.add_left_cancel_iff, SE, SEalloc, SEbox, SEstore, w_bs, SEbl, SEfz, SEbs0, fzName, osOf, AV.fz1, w_app, w_mk, aev, opd, Fr.get, putO, Fr.norm, List.map_cons, List.map_nil, with1, with2, onInt, AV.lit, entry, ↓reduceIte, Nat.reduceEqDiff, Nat.reduceAdd, reduceCtorEq, true_and, and_true, Option.map_some, Option.map_none, Option.bind_some, Option.bind_none, cond_true, cond_false, binV, unV, fieldV, loadV, sto, cellsAV, newF, newL, Fr.map, Loc.kill, Loc.set, AO.kill, AV.kill, AV.mapN, AV.mapNL, List.filter_nil, List.filter_cons, allP, EndV, retV, resV, resL, frz, dropL, AV.pick, nilV, tupV, imp_self, ne_eq, Int.cast_ofNat_Int, Int.reduceLT, Int.reduceToNat, List.getD_cons_zero, List.getD_cons_succ, bsliceV, buildV, afill, repl, chunk, rvs, AV.rv, RV.nrm, List.getElem?_nil, List.append_assoc, Nat.reduceMul, Nat.reducePow, Nat.zero_lt_succ, Nat.zero_add, Nat.add_zero, List.length_cons, List.length_nil, Nat.reduceLeDiff, Nat.le_refl, List.take_succ_cons, List.take_zero, List.drop_succ_cons, List.drop_zero, indexV, lenV, rowOf_mapD, rowOf_mapI, rowOf_mapA, List.length_map, Int.toNat_natCast, List.getElem?_cons_zero, List.getElem?_cons_succ, and_self, implies_true, if_true, if_false, HQ_zn, HQ_zr, HQ_wn, HQ_wr, AV.nz, AV.nzL, RV.nrm, SEbin, SEnil, nilK, srcV, dstV, appName, List.length_append, Nat.mul_one, take_map_len, take_map_app, List.getElem?_cons_zero, List.map_append, SEmkmap, SEmset, mgetV, kvOf, getM, setM, c28, r28, v28_1, u28_2, u28_3, u28_4, u28_5, u28_6, u28_7, u28_8, u28_9, u28_10, u28_11, ty28, ty3, ints, int_]) | (with_reducible refine And.intro ?_ ?_) | (refine loop_nat (l.length) (fun k => ∀ i, i < k → pI l v i = false) (fun k => [(0, .d (ints l)), (1, I v), (7, I l.length), (8, I k)]) (fun k => []) ?_ (Wk.keep hcl ?_ ?_ ?_) fun k hk hF => ?_; rotate_left 1; (focus (simp [Fr.get, newF, Fr.map, AV.kill, AV.mapN, ints, int_] <;> fail)); (focus (simp [sto, newL, Loc.kill, Loc.set, AO.kill, AV.kill, AV.mapN, ints, int_] <;> fail)); (focus (simp [newL, Loc.kill, Loc.set, ints, int_] <;> fail)); (try have hw : IntKind.i64.wrap ((k : Int) + 1) = (k : Int) + 1 := IntWalk.i64_in _ (by omega))) | (refine EndX.plain ?_) | (refine nil_split (fun hn => ?_) (fun hn => ?_)) | (refine gcall_no not_false ?_) | (refine gdcall_no not_false ?_) | (refine GuardS_of _ _ _ _ _ _ (fun hg => ?_) (fun hg => ?_)) | (refine GuardD_of _ _ _ _ (fun hg => ?_) (fun hg => ?_)) | (refine CondB_of _ _ _ _ _ _ _ ?_ (fun hg => ?_) (fun hg => ?_)))
  all_goals (try (first | ((first | unfold noN | unfold Fr.below | unfold Loc.below); simp [Fr.allN, AV.allN, AV.allNL, AO.allN]; done) | rfl | trivial | assumption | (intro row hrow; simp only [List.mem_map] at hrow; obtain ⟨x, _, rfl⟩ := hrow; rfl) | (refine Wk.keep hcl ?_ ?_ ?_; (focus (simp [Fr.get, ints, int_] <;> fail)); (focus (simp [sto, ints, int_] <;> fail)); (focus (simp <;> fail))) | (simp [allP, opd, Fr.get, Fr.below, Fr.allN, AV.allN, AV.allNL, Loc.below, AO.allN, noN, killO, killT, killD, mkNames, AO.kill, AV.kill, AV.mapN, AV.mapNL]; done) | (with_reducible exact ltD (by assumption)) | omega | (simp only [decide_eq_true_eq, decide_eq_false_iff_not] at *; omega)))
  all_goals first
    | (rw [idxD_some (p := pI l v) (k := k) (by assumption) (by assumption) hF]; done)
    | (rw [idxD_none (p := pI l v) (k := k) (by assumption) hF]; done)
    | exact allN' hF (by assumption)
theorem contains_p (l : List Int) (v : Int) : Pure Try.prog 14 [.d (ints l), I v] (Bo (decide (idxD l.length (pI l v) ≥ 0))) := by
  refine pure_of follows Try.func14 c14_eq r14 (Nat.le_of_ble_eq_true rfl) fun B σ hcl hsz => ?_
  clear hsz
  repeat' (first | (simp -implicitDefEqProofs only [*, contN, contC, Nat.reduceBEq, Bool.or_false, Bool.or_true, Bool.false_or, Bool.true_or, Bool.not_true, Bool.not_false, w_skip, w_ret, w_exit, w_reg, w_dreg, w_seq, SK_n, SK_r, SK_x, w_keep, w_block, w_cond, w_nil, w_cons, w_consg, w_nnil, w_ncons, w_dnil, w_dcons, w_dconsg, HK_app, HD_app, HQ_n, HQ_r, HQ_x, HQ_bn, HQ_br, HQ_bx, HQ_en, HQ_er, HQ_ex, CondB_true, CondB_false, SO1, w_sdv, SDe_alloc, SDe_box, SDe_bslice, SDe_app, true_imp_iff, false_imp_iff, and_false, false_and, not_false_eq_true, not_true_eq_false, addN, mkNames, killT, killD, killO, List.foldl_nil, List.foldl_cons, List.append_nil, List.nil_append, List.cons_append, GuardS_true, GuardS_false, GuardD_true, GuardD_false, DK_true, DK_false, lt_self_add, le_self_add, decide_true, decide_false, Bool.false_eq_true, Bool.true_eq_false, Nat.add_left_cancel_iff, SE, SEalloc, SEbox, SEstore, w_bs, SEbl, SEfz, SEbs0, fzName, osOf, AV.fz1, w_app, w_mk, aev, opd, Fr.get, putO, Fr.norm, List.map_cons, List.map_nil, with1, with2, onInt, AV.lit, entry, ↓reduceIte, Nat.reduceEqDiff, Nat.reduceAdd, reduceCtorEq, true_and, and_true, Option.map_some, Option.map_none, Option.bind_some, Option.bind_none, cond_true, cond_false, binV, unV, fieldV, loadV, sto, cellsAV, newF, newL, Fr.map, Loc.kill, Loc.set, AO.kill, AV.kill, AV.mapN, AV.mapNL, List.filter_nil, List.filter_cons, allP, EndV, retV, resV, resL, frz, dropL, AV.pick, nilV, tupV, imp_self, ne_eq, Int.cast_ofNat_Int, Int.reduceLT, Int.reduceToNat, List.getD_cons_zero, List.getD_cons_succ, bsliceV, buildV, afill, repl, chunk, rvs, AV.rv, RV.nrm, List.getElem?_nil, List.append_assoc, Nat.reduceMul, Nat.reducePow, Nat.zero_lt_succ, Nat.zero_add, Nat.add_zero, List.length_cons, List.length_nil, Nat.reduceLeDiff, Nat.le_refl, List.take_succ_cons, List.take_zero, List.drop_succ_cons, List.drop_zero, indexV, lenV, rowOf_mapD, rowOf_mapI, rowOf_mapA, List.length_map, Int.toNat_natCast, List.getElem?_cons_zero, List.getElem?_cons_succ, and_self, implies_true, if_true, if_false, HQ_zn, HQ_zr, HQ_wn, HQ_wr, AV.nz, AV.nzL, RV.nrm, SEbin, SEnil, nilK, srcV, dstV, appName, List.length_append, Nat.mul_one, take_map_len, take_map_app, List.getElem?_cons_zero, List.map_append, SEmkmap, SEmset, mgetV, kvOf, getM, setM, c14, r14, u14_1, ty3]) | (with_reducible refine And.intro ?_ ?_) | (refine call_ro e28 ( index_p l v) rfl ?_ ?_ ?_ ?_) | (refine gcall_ro e28 ( index_p l v) rfl ?_ ?_ ?_ ?_) | (refine dcall_ro e28 ( index_p l v) rfl ?_ ?_ ?_ ?_) | (refine gdcall_ro rfl e28 ( index_p l v) rfl ?_ ?_ ?_ ?_) | (refine EndX.plain ?_) | (refine nil_split (fun hn => ?_) (fun hn => ?_)) | (refine gcall_no not_false ?_) | (refine gdcall_no not_false ?_) | (refine GuardS_of _ _ _ _ _ _ (fun hg => ?_) (fun hg => ?_)) | (refine GuardD_of _ _ _ _ (fun hg => ?_) (fun hg => ?_)) | (refine CondB_of _ _ _ _ _ _ _ ?_ (fun hg => ?_) (fun hg => ?_)))
  all_goals (try (first | ((first | unfold noN | unfold Fr.below | unfold Loc.below); simp [Fr.allN, AV.allN, AV.allNL, AO.allN]; done) | rfl | trivial | assumption | (intro row hrow; simp only [List.mem_map] at hrow; obtain ⟨x, _, rfl⟩ := hrow; rfl) | (refine Wk.keep hcl ?_ ?_ ?_; (focus (simp [Fr.get] <;> fail)); (focus (simp [sto] <;> fail)); (focus (simp <;> fail))) | (simp [allP, opd, Fr.get, Fr.below, Fr.allN, AV.allN, AV.allNL, Loc.below, AO.allN, noN, killO, killT, killD, mkNames, AO.kill, AV.kill, AV.mapN, AV.mapNL]; done) | (with_reducible exact ltD (by assumption)) | omega | (simp only [decide_eq_true_eq, decide_eq_false_iff_not] at *; omega)))
theorem gone_p (s : SttD) (v : Int) : Pure Try.prog 18 [s.av, I v] (Bo (decide (idxD s.gone.length (pG s.gone v) ≥ 0))) := by
  refine pure_of follows Try.func18 c18_eq r18 (Nat.le_of_ble_eq_true rfl) fun B σ hcl hsz => ?_
  obtain ⟨z1, z2, z3, z4, z5⟩ := st_sz5 (hsz s.av (by simp))
  clear hsz
  repeat' (first | (simp -implicitDefEqProofs only [*, contN, contC, Nat.reduceBEq, Bool.or_false, Bool.or_true, Bool.false_or, Bool.true_or, Bool.not_true, Bool.not_false, w_skip, w_ret, w_exit, w_reg, w_dreg, w_seq, SK_n, SK_r, SK_x, w_keep, w_block, w_cond, w_nil, w_cons, w_consg, w_nnil, w_ncons, w_dnil, w_dcons, w_dconsg, HK_app, HD_app, HQ_n, HQ_r, HQ_x, HQ_bn, HQ_br, HQ_bx, HQ_en, HQ_er, HQ_ex, CondB_true, CondB_false, SO1, w_sdv, SDe_alloc, SDe_box, SDe_bslice, SDe_app, true_imp_iff, false_imp_iff, and_false, false_and, not_false_eq_true, not_true_eq_false, addN, mkNames, killT, killD, killO, List.foldl_nil, List.foldl_cons, List.append_nil, List.nil_append, List.cons_append, GuardS_true, GuardS_false, GuardD_true, GuardD_false, DK_true, DK_false, lt_self_add, le_self_add, decide_true, decide_false, Bool.false_eq_true, Bool.true_eq_false, Nat.add_left_cancel_iff, SE, SEalloc, SEbox, SEstore, w_bs, SEbl, SEfz, SEbs0, fzName, osOf, AV.fz1, w_app, w_mk, aev, opd, Fr.get, putO, Fr.norm, List.map_cons, List.map_nil, with1, with2, onInt, AV.lit, entry, ↓reduceIte, Nat.reduceEqDiff, Nat.reduceAdd, reduceCtorEq, true_and, and_true, Option.map_some, Option.map_none, Option.bind_some, Option.bind_none, cond_true, cond_false, binV, unV, fieldV, loadV, sto, cellsAV, newF, newL, Fr.map, Loc.kill, Loc.set, AO.kill, AV.kill, AV.mapN, AV.mapNL, List.filter_nil, List.filter_cons, allP, EndV, retV, resV, resL, frz, dropL, AV.pick, nilV, tupV, imp_self, ne_eq, Int.cast_ofNat_Int, Int.reduceLT, Int.reduceToNat, List.getD_cons_zero, List.getD_cons_succ, bsliceV, buildV, afill, repl, chunk, rvs, AV.rv, RV.nrm, List.getElem?_nil, List.append_assoc, Nat.reduceMul, Nat.reducePow, Nat.zero_lt_succ, Nat.zero_add, Nat.add_zero, List.length_cons, List.length_nil, Nat.reduceLeDiff, Nat.le_refl, List.take_succ_cons, List.take_zero, List.drop_succ_cons, List.drop_zero, indexV, lenV, rowOf_mapD, rowOf_mapI, rowOf_mapA, List.length_map, Int.toNat_natCast, List.getElem?_cons_zero, List.getElem?_cons_succ, and_self, implies_true, if_true, if_false, HQ_zn, HQ_zr, HQ_wn, HQ_wr, AV.nz, AV.nzL, RV.nrm, SEbin, SEnil, nilK, srcV, dstV, appName, List.length_append, Nat.mul_one, take_map_len, take_map_app, List.getElem?_cons_zero, List.map_append, SEmkmap, SEmset, mgetV, kvOf, getM, setM, c18, r18, u18_1, v18_2, u18_3, u18_4, u18_5, u18_6, u18_7, u18_8, u18_9, u18_10, ty30, ty28, ty3, SttD.av, SttD.cells, ints, int_]) | (with_reducible refine And.intro ?_ ?_) | (refine loop_nat (s.gone.length) (fun k => ∀ i, i < k → pG s.gone v i = false) (fun k => [(2, .lp (B + 2) 0), (1, I v), (5, I k)]) (fun k => [(B + 2, .box s.cells)]) ?_ (Wk.keep hcl ?_ ?_ ?_) fun k hk hF => ?_; rotate_left 1; (focus (simp [Fr.get, newF, Fr.map, AV.kill, AV.mapN, SttD.av, SttD.cells, ints, int_] <;> fail)); (focus (simp [sto, newL, Loc.kill, Loc.set, AO.kill, AV.kill, AV.mapN, SttD.av, SttD.cells, ints, int_] <;> fail)); (focus (simp [newL, Loc.kill, Loc.set, SttD.av, SttD.cells, ints, int_] <;> fail)); (try have hw : IntKind.i64.wrap ((k : Int) + 1) = (k : Int) + 1 := IntWalk.i64_in _ (by omega))) | (refine EndX.plain ?_) | (refine nil_split (fun hn => ?_) (fun hn => ?_)) | (refine gcall_no not_false ?_) | (refine gdcall_no not_false ?_) | (refine GuardS_of _ _ _ _ _ _ (fun hg => ?_) (fun hg => ?_)) | (refine GuardD_of _ _ _ _ (fun hg => ?_) (fun hg => ?_)) | (refine CondB_of _ _ _ _ _ _ _ ?_ (fun hg => ?_) (fun hg => ?_)))
  all_goals (try (first | ((first | unfold noN | unfold Fr.below | unfold Loc.below); simp [Fr.allN, AV.allN, AV.allNL, AO.allN]; done) | rfl | trivial | assumption | (intro row hrow; simp only [List.mem_map] at hrow; obtain ⟨x, _, rfl⟩ := hrow; rfl) | (refine Wk.keep hcl ?_ ?_ ?_; (focus (simp [Fr.get, SttD.av, SttD.cells, ints, int_] <;> fail)); (focus (simp [sto, SttD.av, SttD.cells, ints, int_] <;> fail)); (focus (simp <;> fail))) | (simp [allP, opd, Fr.get, Fr.below, Fr.allN, AV.allN, AV.allNL, Loc.below, AO.allN, noN, killO, killT, killD, mkNames, AO.kill, AV.kill, AV.mapN, AV.mapNL]; done) | (with_reducible exact ltD (by assumption)) | omega | (simp only [decide_eq_true_eq, decide_eq_false_iff_not] at *; omega)))
  all_goals first
    | (rw [idxD_some (p := pG s.gone v) (k := k) (by assumption) (by assumption) hF, decide_eq_true (by omega)]; done)
    | (rw [idxD_none (p := pG s.gone v) (k := k) (by assumption) hF]; rfl)
    | exact allN' hF (by assumption)
theorem bucketAt_p (s : SttD) (v : ByteArray) : Pure Try.prog 32 [s.av, .d (.v (.string v))] (I (idxD s.bkts.length (pB s.bkts v))) := by
  refine pure_of follows Try.func32 c32_eq r32 (Nat.le_of_ble_eq_true rfl) fun B σ hcl hsz => ?_
  obtain ⟨z1, z2, z3, z4, z5⟩ := st_sz5 (hsz s.av (by simp))
  clear hsz
  repeat' (first | (simp -implicitDefEqProofs only [*, contN, contC, Nat.reduceBEq, Bool.or_false, Bool.or_true, Bool.false_or, Bool.true_or, Bool.not_true, Bool.not_false, w_skip, w_ret, w_exit, w_reg, w_dreg, w_seq, SK_n, SK_r, SK_x, w_keep, w_block, w_cond, w_nil, w_cons, w_consg, w_nnil, w_ncons, w_dnil, w_dcons, w_dconsg, HK_app, HD_app, HQ_n, HQ_r, HQ_x, HQ_bn, HQ_br, HQ_bx, HQ_en, HQ_er, HQ_ex, CondB_true, CondB_false, SO1, w_sdv, SDe_alloc, SDe_box, SDe_bslice, SDe_app, true_imp_iff, false_imp_iff, and_false, false_and, not_false_eq_true, not_true_eq_false, addN, mkNames, killT, killD, killO, List.foldl_nil, List.foldl_cons, List.append_nil, List.nil_append, List.cons_append, GuardS_true, GuardS_false, GuardD_true, GuardD_false, DK_true, DK_false, lt_self_add, le_self_add, decide_true, decide_false, Bool.false_eq_true, Bool.true_eq_false, Nat.add_left_cancel_iff, SE, SEalloc, SEbox, SEstore, w_bs, SEbl, SEfz, SEbs0, fzName, osOf, AV.fz1, w_app, w_mk, aev, opd, Fr.get, putO, Fr.norm, List.map_cons, List.map_nil, with1, with2, onInt, AV.lit, entry, ↓reduceIte, Nat.reduceEqDiff, Nat.reduceAdd, reduceCtorEq, true_and, and_true, Option.map_some, Option.map_none, Option.bind_some, Option.bind_none, cond_true, cond_false, binV, unV, fieldV, loadV, sto, cellsAV, newF, newL, Fr.map, Loc.kill, Loc.set, AO.kill, AV.kill, AV.mapN, AV.mapNL, List.filter_nil, List.filter_cons, allP, EndV, retV, resV, resL, frz, dropL, AV.pick, nilV, tupV, imp_self, ne_eq, Int.cast_ofNat_Int, Int.reduceLT, Int.reduceToNat, List.getD_cons_zero, List.getD_cons_succ, bsliceV, buildV, afill, repl, chunk, rvs, AV.rv, RV.nrm, List.getElem?_nil, List.append_assoc, Nat.reduceMul, Nat.reducePow, Nat.zero_lt_succ, Nat.zero_add, Nat.add_zero, List.length_cons, List.length_nil, Nat.reduceLeDiff, Nat.le_refl, List.take_succ_cons, List.take_zero, List.drop_succ_cons, List.drop_zero, indexV, lenV, rowOf_mapD, rowOf_mapI, rowOf_mapA, List.length_map, Int.toNat_natCast, List.getElem?_cons_zero, List.getElem?_cons_succ, and_self, implies_true, if_true, if_false, HQ_zn, HQ_zr, HQ_wn, HQ_wr, AV.nz, AV.nzL, RV.nrm, SEbin, SEnil, nilK, srcV, dstV, appName, List.length_append, Nat.mul_one, take_map_len, take_map_app, List.getElem?_cons_zero, List.map_append, SEmkmap, SEmset, mgetV, kvOf, getM, setM, c32, r32, u32_1, v32_2, u32_3, u32_4, u32_5, u32_6, u32_7, u32_8, u32_9, u32_10, ty30, ty24, ty3, ty63, ty9, SttD.av, SttD.cells, BktD.row, ints, int_]) | (with_reducible refine And.intro ?_ ?_) | (refine loop_nat (s.bkts.length) (fun k => ∀ i, i < k → pB s.bkts v i = false) (fun k => [(2, .lp (B + 2) 0), (1, .d (.v (.string v))), (5, I k)]) (fun k => [(B + 2, .box s.cells)]) ?_ (Wk.keep hcl ?_ ?_ ?_) fun k hk hF => ?_; rotate_left 1; (focus (simp [Fr.get, newF, Fr.map, AV.kill, AV.mapN, SttD.av, SttD.cells, BktD.row, ints, int_] <;> fail)); (focus (simp [sto, newL, Loc.kill, Loc.set, AO.kill, AV.kill, AV.mapN, SttD.av, SttD.cells, BktD.row, ints, int_] <;> fail)); (focus (simp [newL, Loc.kill, Loc.set, SttD.av, SttD.cells, BktD.row, ints, int_] <;> fail)); (try have hw : IntKind.i64.wrap ((k : Int) + 1) = (k : Int) + 1 := IntWalk.i64_in _ (by omega))) | (refine EndX.plain ?_) | (refine nil_split (fun hn => ?_) (fun hn => ?_)) | (refine gcall_no not_false ?_) | (refine gdcall_no not_false ?_) | (refine GuardS_of _ _ _ _ _ _ (fun hg => ?_) (fun hg => ?_)) | (refine GuardD_of _ _ _ _ (fun hg => ?_) (fun hg => ?_)) | (refine CondB_of _ _ _ _ _ _ _ ?_ (fun hg => ?_) (fun hg => ?_)))
  all_goals (try (first | ((first | unfold noN | unfold Fr.below | unfold Loc.below); simp [Fr.allN, AV.allN, AV.allNL, AO.allN]; done) | rfl | trivial | assumption | (intro row hrow; simp only [List.mem_map] at hrow; obtain ⟨x, _, rfl⟩ := hrow; rfl) | (refine Wk.keep hcl ?_ ?_ ?_; (focus (simp [Fr.get, SttD.av, SttD.cells, BktD.row, ints, int_] <;> fail)); (focus (simp [sto, SttD.av, SttD.cells, BktD.row, ints, int_] <;> fail)); (focus (simp <;> fail))) | (simp [allP, opd, Fr.get, Fr.below, Fr.allN, AV.allN, AV.allNL, Loc.below, AO.allN, noN, killO, killT, killD, mkNames, AO.kill, AV.kill, AV.mapN, AV.mapNL]; done) | (with_reducible exact ltD (by assumption)) | omega | (simp only [decide_eq_true_eq, decide_eq_false_iff_not] at *; omega)))
  all_goals first
    | (rw [idxD_some (p := pB s.bkts v) (k := k) (by assumption) (by assumption) hF]; done)
    | (rw [idxD_none (p := pB s.bkts v) (k := k) (by assumption) hF]; done)
    | exact allN' hF (by assumption)
theorem versionAt_p (s : SttD) (v : Int) : Pure Try.prog 35 [s.av, I v] (I (idxD s.vers.length (pV s.vers v))) := by
  refine pure_of follows Try.func35 c35_eq r35 (Nat.le_of_ble_eq_true rfl) fun B σ hcl hsz => ?_
  obtain ⟨z1, z2, z3, z4, z5⟩ := st_sz5 (hsz s.av (by simp))
  clear hsz
  repeat' (first | (simp -implicitDefEqProofs only [*, contN, contC, Nat.reduceBEq, Bool.or_false, Bool.or_true, Bool.false_or, Bool.true_or, Bool.not_true, Bool.not_false, w_skip, w_ret, w_exit, w_reg, w_dreg, w_seq, SK_n, SK_r, SK_x, w_keep, w_block, w_cond, w_nil, w_cons, w_consg, w_nnil, w_ncons, w_dnil, w_dcons, w_dconsg, HK_app, HD_app, HQ_n, HQ_r, HQ_x, HQ_bn, HQ_br, HQ_bx, HQ_en, HQ_er, HQ_ex, CondB_true, CondB_false, SO1, w_sdv, SDe_alloc, SDe_box, SDe_bslice, SDe_app, true_imp_iff, false_imp_iff, and_false, false_and, not_false_eq_true, not_true_eq_false, addN, mkNames, killT, killD, killO, List.foldl_nil, List.foldl_cons, List.append_nil, List.nil_append, List.cons_append, GuardS_true, GuardS_false, GuardD_true, GuardD_false, DK_true, DK_false, lt_self_add, le_self_add, decide_true, decide_false, Bool.false_eq_true, Bool.true_eq_false, Nat.add_left_cancel_iff, SE, SEalloc, SEbox, SEstore, w_bs, SEbl, SEfz, SEbs0, fzName, osOf, AV.fz1, w_app, w_mk, aev, opd, Fr.get, putO, Fr.norm, List.map_cons, List.map_nil, with1, with2, onInt, AV.lit, entry, ↓reduceIte, Nat.reduceEqDiff, Nat.reduceAdd, reduceCtorEq, true_and, and_true, Option.map_some, Option.map_none, Option.bind_some, Option.bind_none, cond_true, cond_false, binV, unV, fieldV, loadV, sto, cellsAV, newF, newL, Fr.map, Loc.kill, Loc.set, AO.kill, AV.kill, AV.mapN, AV.mapNL, List.filter_nil, List.filter_cons, allP, EndV, retV, resV, resL, frz, dropL, AV.pick, nilV, tupV, imp_self, ne_eq, Int.cast_ofNat_Int, Int.reduceLT, Int.reduceToNat, List.getD_cons_zero, List.getD_cons_succ, bsliceV, buildV, afill, repl, chunk, rvs, AV.rv, RV.nrm, List.getElem?_nil, List.append_assoc, Nat.reduceMul, Nat.reducePow, Nat.zero_lt_succ, Nat.zero_add, Nat.add_zero, List.length_cons, List.length_nil, Nat.reduceLeDiff, Nat.le_refl, List.take_succ_cons, List.take_zero, List.drop_succ_cons, List.drop_zero, indexV, lenV, rowOf_mapD, rowOf_mapI, rowOf_mapA, List.length_map, Int.toNat_natCast, List.getElem?_cons_zero, List.getElem?_cons_succ, and_self, implies_true, if_true, if_false, HQ_zn, HQ_zr, HQ_wn, HQ_wr, AV.nz, AV.nzL, RV.nrm, SEbin, SEnil, nilK, srcV, dstV, appName, List.length_append, Nat.mul_one, take_map_len, take_map_app, List.getElem?_cons_zero, List.map_append, SEmkmap, SEmset, mgetV, kvOf, getM, setM, c35, r35, u35_1, v35_2, u35_3, u35_4, u35_5, u35_6, u35_7, u35_8, u35_9, u35_10, ty30, ty25, ty3, ty37, SttD.av, SttD.cells, VerD.row, ints, int_]) | (with_reducible refine And.intro ?_ ?_) | (refine loop_nat (s.vers.length) (fun k => ∀ i, i < k → pV s.vers v i = false) (fun k => [(2, .lp (B + 2) 0), (1, I v), (5, I k)]) (fun k => [(B + 2, .box s.cells)]) ?_ (Wk.keep hcl ?_ ?_ ?_) fun k hk hF => ?_; rotate_left 1; (focus (simp [Fr.get, newF, Fr.map, AV.kill, AV.mapN, SttD.av, SttD.cells, VerD.row, ints, int_] <;> fail)); (focus (simp [sto, newL, Loc.kill, Loc.set, AO.kill, AV.kill, AV.mapN, SttD.av, SttD.cells, VerD.row, ints, int_] <;> fail)); (focus (simp [newL, Loc.kill, Loc.set, SttD.av, SttD.cells, VerD.row, ints, int_] <;> fail)); (try have hw : IntKind.i64.wrap ((k : Int) + 1) = (k : Int) + 1 := IntWalk.i64_in _ (by omega))) | (refine EndX.plain ?_) | (refine nil_split (fun hn => ?_) (fun hn => ?_)) | (refine gcall_no not_false ?_) | (refine gdcall_no not_false ?_) | (refine GuardS_of _ _ _ _ _ _ (fun hg => ?_) (fun hg => ?_)) | (refine GuardD_of _ _ _ _ (fun hg => ?_) (fun hg => ?_)) | (refine CondB_of _ _ _ _ _ _ _ ?_ (fun hg => ?_) (fun hg => ?_)))
  all_goals (try (first | ((first | unfold noN | unfold Fr.below | unfold Loc.below); simp [Fr.allN, AV.allN, AV.allNL, AO.allN]; done) | rfl | trivial | assumption | (intro row hrow; simp only [List.mem_map] at hrow; obtain ⟨x, _, rfl⟩ := hrow; rfl) | (refine Wk.keep hcl ?_ ?_ ?_; (focus (simp [Fr.get, SttD.av, SttD.cells, VerD.row, ints, int_] <;> fail)); (focus (simp [sto, SttD.av, SttD.cells, VerD.row, ints, int_] <;> fail)); (focus (simp <;> fail))) | (simp [allP, opd, Fr.get, Fr.below, Fr.allN, AV.allN, AV.allNL, Loc.below, AO.allN, noN, killO, killT, killD, mkNames, AO.kill, AV.kill, AV.mapN, AV.mapNL]; done) | (with_reducible exact ltD (by assumption)) | omega | (simp only [decide_eq_true_eq, decide_eq_false_iff_not] at *; omega)))
  all_goals first
    | (rw [idxD_some (p := pV s.vers v) (k := k) (by assumption) (by assumption) hF]; done)
    | (rw [idxD_none (p := pV s.vers v) (k := k) (by assumption) hF]; done)
    | exact allN' hF (by assumption)
end Go.Proofs.Ytobbkfldjemgkaa
