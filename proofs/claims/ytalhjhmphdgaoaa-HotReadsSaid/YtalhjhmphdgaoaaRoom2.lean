/- The room that a piece has on disk: the program's check and the reference's. -/
import Derived.Test.YtalhjhmphdgaoaaRoom
import Derived.Test.YtalhjhmphdgaoaaDevC
import Derived.Test.YtalhjhmphdgaoaaTypes
namespace Go.Proofs.Ytalhjhmphdgaoaa
open Go.RowKit
set_option maxRecDepth 100000
def o30_1 : List SO := ((SO.mk (some 28) (.move (.tmp 8)) (some (24 , false))) :: (SO.mk (some 29) (.call 57 [(.tmp 27), (.tmp 28)]) (some (24 , false))) :: (SO.mk (some 30) (.pick (.tmp 24) (.const (Value.bool true)) (.tmp 29)) none) :: [])
theorem v30_1 : type_of% (@swl _ _ o30_1.eq_1) := @swl _ _ o30_1.eq_1
def o30_2 : List SO := ((SO.mk (some 24) (.move (.tmp 23)) none) :: (SO.mk (some 25) (.move (.tmp 1)) (some (24 , false))) :: (SO.mk (some 26) (.move (.tmp 7)) (some (24 , false))) :: (SO.mk (some 27) (.slice 40 (.tmp 25) none (some (.tmp 26))) (some (24 , false))) :: o30_1)
theorem v30_2 : type_of% (@swl _ _ o30_2.eq_1) := @swl _ _ o30_2.eq_1
def o30_3 : List SO := ((SO.mk (some 20) (.faddr 23 (.tmp 3) 2) (some (18 , false))) :: (SO.mk (some 21) (.load 3 (.tmp 20)) (some (18 , false))) :: (SO.mk (some 22) (.bin .geq 3 (.tmp 19) (.tmp 21)) (some (18 , false))) :: (SO.mk (some 23) (.pick (.tmp 18) (.const (Value.bool true)) (.tmp 22)) none) :: o30_2)
theorem v30_3 : type_of% (@swl _ _ o30_3.eq_1) := @swl _ _ o30_3.eq_1
def c30_4 : SC := (.seq (.reg [SO.mk (some 6) (.move (.const (Value.bool false))) none]) (.keep [6] .ret))
theorem u30_4 : type_of% (@swc _ _ c30_4.eq_1) := @swc _ _ c30_4.eq_1
def c30_5 : SC := (.cond (.tmp 30) c30_4 .skip)
theorem u30_5 : type_of% (@swc _ _ c30_5.eq_1) := @swc _ _ c30_5.eq_1
def c30_6 : SC := (.seq (.reg ((SO.mk (some 16) (.move (.tmp 8)) none) :: (SO.mk (some 17) (.bin .lss 3 (.tmp 16) (.const (Value.int .i64 0))) none) :: (SO.mk (some 18) (.move (.tmp 17)) none) :: (SO.mk (some 19) (.move (.tmp 8)) (some (18 , false))) :: o30_3)) (.keep [30, 11, 10, 3, 9, 1, 2] c30_5))
theorem u30_6 : type_of% (@swc _ _ c30_6.eq_1) := @swc _ _ c30_6.eq_1
def c30_7 : SC := (.reg [SO.mk (some 31) (.bin .add 3 (.tmp 11) (.const (Value.int .i64 1))) none, SO.mk (some 11) (.move (.tmp 31)) none])
theorem u30_7 : type_of% (@swc _ _ c30_7.eq_1) := @swc _ _ c30_7.eq_1
def c30_8 : SC := (.seq (.block 1 (.seq (.reg [SO.mk (some 13) (.move (.tmp 11)) none, SO.mk (some 14) (.iaddr 40 (.tmp 9) (.tmp 11)) none, SO.mk (some 15) (.load 3 (.tmp 14)) none, SO.mk (some 7) (.move (.tmp 13)) none, SO.mk (some 8) (.move (.tmp 15)) none]) (.keep [7, 8, 11, 10, 3, 9, 1, 2] c30_6))) (.keep [11, 10, 3, 9, 1, 2] c30_7))
theorem u30_8 : type_of% (@swc _ _ c30_8.eq_1) := @swc _ _ c30_8.eq_1
def c30_9 : SC := (.seq (.cond (.tmp 12) .skip (.exit 0)) (.keep [11, 10, 3, 9, 1, 2] c30_8))
theorem u30_9 : type_of% (@swc _ _ c30_9.eq_1) := @swc _ _ c30_9.eq_1
def c30_10 : SC := (.seq (.reg [SO.mk (some 12) (.bin .lss 3 (.tmp 11) (.tmp 10)) none]) (.keep [12, 9, 3, 10, 11, 1, 2] c30_9))
theorem u30_10 : type_of% (@swc _ _ c30_10.eq_1) := @swc _ _ c30_10.eq_1
def c30_11 : SC := (.block 0 (.loop (.keep [9, 3, 10, 11, 1, 2] c30_10)))
theorem u30_11 : type_of% (@swc _ _ c30_11.eq_1) := @swc _ _ c30_11.eq_1
def o30_12 : List SO := ((SO.mk (some 44) (.pick (.tmp 38) (.tmp 43) (.const (Value.bool false))) none) :: (SO.mk (some 6) (.move (.tmp 44)) none) :: [])
theorem v30_12 : type_of% (@swl _ _ o30_12.eq_1) := @swl _ _ o30_12.eq_1
def o30_13 : List SO := ((SO.mk (some 40) (.len 40 (.tmp 39)) (some (38 , true))) :: (SO.mk (some 41) (.move (.tmp 2)) (some (38 , true))) :: (SO.mk (some 42) (.call 58 [(.tmp 41)]) (some (38 , true))) :: (SO.mk (some 43) (.bin .eql 3 (.tmp 40) (.tmp 42)) (some (38 , true))) :: o30_12)
theorem v30_13 : type_of% (@swl _ _ o30_13.eq_1) := @swl _ _ o30_13.eq_1
def o30_14 : List SO := ((SO.mk (some 36) (.bin .leq 3 (.tmp 35) (.const (Value.int .i64 600))) (some (34 , true))) :: (SO.mk (some 37) (.pick (.tmp 34) (.tmp 36) (.const (Value.bool false))) none) :: (SO.mk (some 38) (.move (.tmp 37)) none) :: (SO.mk (some 39) (.move (.tmp 1)) (some (38 , true))) :: o30_13)
theorem v30_14 : type_of% (@swl _ _ o30_14.eq_1) := @swl _ _ o30_14.eq_1
def c30_15 : SC := (.seq (.reg ((SO.mk (some 32) (.move (.tmp 2)) none) :: (SO.mk (some 33) (.bin .geq 3 (.tmp 32) (.const (Value.int .i64 0))) none) :: (SO.mk (some 34) (.move (.tmp 33)) none) :: (SO.mk (some 35) (.move (.tmp 2)) (some (34 , true))) :: o30_14)) (.keep [6] .ret))
theorem u30_15 : type_of% (@swc _ _ c30_15.eq_1) := @swc _ _ c30_15.eq_1
def c30_16 : SC := (.seq (.seq (.reg [SO.mk (some 9) (.move (.tmp 1)) none, SO.mk (some 10) (.len 40 (.tmp 9)) none, SO.mk (some 11) (.move (.const (Value.int .i64 0))) none]) (.keep [9, 3, 10, 11, 1, 2] c30_11)) (.keep [1, 2] c30_15))
theorem u30_16 : type_of% (@swc _ _ c30_16.eq_1) := @swc _ _ c30_16.eq_1
def c30 : SC := (.seq (.reg [SO.mk (some 3) (.box 23 (.tmp 0)) none, SO.mk (some 6) (.move (.const (Value.bool false))) none]) (.keep [3, 1, 2] c30_16))
theorem c30_eq : annC Try.f30 = some c30 := by kernel_rfl
theorem r30 : Try.f30.results.toList = [.tmp 6] := by kernel_rfl
theorem e30 : enters Try.prog 30 = true := by kernel_rfl
def o32_1 : List SO := ((SO.mk (some 17) (.bin .neq 3 (.tmp 14) (.tmp 16)) (some (12 , false))) :: (SO.mk (some 18) (.pick (.tmp 12) (.const (Value.bool true)) (.tmp 17)) none) :: [])
theorem v32_1 : type_of% (@swl _ _ o32_1.eq_1) := @swl _ _ o32_1.eq_1
def o32_2 : List SO := ((SO.mk (some 13) (.move (.tmp 1)) (some (12 , false))) :: (SO.mk (some 14) (.len 40 (.tmp 13)) (some (12 , false))) :: (SO.mk (some 15) (.move (.tmp 2)) (some (12 , false))) :: (SO.mk (some 16) (.call 41 [(.tmp 15), (.const (Value.int .i64 64))]) (some (12 , false))) :: o32_1)
theorem v32_2 : type_of% (@swl _ _ o32_2.eq_1) := @swl _ _ o32_2.eq_1
def c32_3 : SC := (.seq (.reg [SO.mk (some 6) (.move (.const (Value.bool false))) none]) (.keep [6] .ret))
theorem u32_3 : type_of% (@swc _ _ c32_3.eq_1) := @swc _ _ c32_3.eq_1
def c32_4 : SC := (.cond (.tmp 18) c32_3 .skip)
theorem u32_4 : type_of% (@swc _ _ c32_4.eq_1) := @swc _ _ c32_4.eq_1
def c32_5 : SC := (.cond (.tmp 22) .skip (.exit 0))
theorem u32_5 : type_of% (@swc _ _ c32_5.eq_1) := @swc _ _ c32_5.eq_1
def o32_6 : List SO := ((SO.mk (some 29) (.faddr 23 (.tmp 3) 2) none) :: (SO.mk (some 30) (.load 3 (.tmp 29)) none) :: (SO.mk (some 31) (.bin .sub 3 (.tmp 30) (.const (Value.int .i64 1))) none) :: [])
theorem v32_6 : type_of% (@swd _ _ o32_6.eq_1) := @swd _ _ o32_6.eq_1
def o32_7 : List SO := ((SO.mk (some 25) (.move (.tmp 1)) none) :: (SO.mk (some 26) (.move (.tmp 7)) none) :: (SO.mk (some 27) (.iaddr 40 (.tmp 25) (.tmp 26)) none) :: (SO.mk (some 28) (.load 3 (.tmp 27)) none) :: o32_6)
theorem v32_7 : type_of% (@swd _ _ o32_7.eq_1) := @swd _ _ o32_7.eq_1
theorem m32_7 (B : Nat) : mkNames B o32_7 = [] := (rfl)
def c32_8 : SC := (.seq (.reg [SO.mk (some 6) (.move (.const (Value.bool false))) none]) (.keep [6] .ret))
theorem u32_8 : type_of% (@swc _ _ c32_8.eq_1) := @swc _ _ c32_8.eq_1
def c32_9 : SC := (.cond (.tmp 33) c32_8 .skip)
theorem u32_9 : type_of% (@swc _ _ c32_9.eq_1) := @swc _ _ c32_9.eq_1
def c32_10 : SC := (.cond (.tmp 36) .skip (.exit 2))
theorem u32_10 : type_of% (@swc _ _ c32_10.eq_1) := @swc _ _ c32_10.eq_1
def o32_11 : List SO := ((SO.mk (some 47) (.bin .eql 3 (.tmp 42) (.tmp 46)) none) :: [])
theorem v32_11 : type_of% (@swd _ _ o32_11.eq_1) := @swd _ _ o32_11.eq_1
def o32_12 : List SO := ((SO.mk (some 43) (.move (.tmp 1)) none) :: (SO.mk (some 44) (.move (.tmp 7)) none) :: (SO.mk (some 45) (.iaddr 40 (.tmp 43) (.tmp 44)) none) :: (SO.mk (some 46) (.load 3 (.tmp 45)) none) :: o32_11)
theorem v32_12 : type_of% (@swd _ _ o32_12.eq_1) := @swd _ _ o32_12.eq_1
def o32_13 : List SO := ((SO.mk (some 39) (.move (.tmp 1)) none) :: (SO.mk (some 40) (.move (.tmp 8)) none) :: (SO.mk (some 41) (.iaddr 40 (.tmp 39) (.tmp 40)) none) :: (SO.mk (some 42) (.load 3 (.tmp 41)) none) :: o32_12)
theorem v32_13 : type_of% (@swd _ _ o32_13.eq_1) := @swd _ _ o32_13.eq_1
theorem m32_13 (B : Nat) : mkNames B o32_13 = [] := (rfl)
def c32_14 : SC := (.seq (.reg [SO.mk (some 6) (.move (.const (Value.bool false))) none]) (.keep [6] .ret))
theorem u32_14 : type_of% (@swc _ _ c32_14.eq_1) := @swc _ _ c32_14.eq_1
def c32_15 : SC := (.cond (.tmp 47) c32_14 .skip)
theorem u32_15 : type_of% (@swc _ _ c32_15.eq_1) := @swc _ _ c32_15.eq_1
def c32_16 : SC := (.reg [SO.mk (some 37) (.move (.tmp 8)) none, SO.mk (some 38) (.bin .add 3 (.tmp 37) (.const (Value.int .i64 1))) none, SO.mk (some 8) (.move (.tmp 38)) none])
theorem u32_16 : type_of% (@swc _ _ c32_16.eq_1) := @swc _ _ c32_16.eq_1
def c32_17 : SC := (.seq (.block 3 (.seq (.dreg false o32_13 []) (.keep [47, 8, 7, 1, 3] c32_15))) (.keep [8, 7, 1, 3] c32_16))
theorem u32_17 : type_of% (@swc _ _ c32_17.eq_1) := @swc _ _ c32_17.eq_1
def c32_18 : SC := (.seq (.seq (.reg [SO.mk (some 34) (.move (.tmp 8)) none, SO.mk (some 35) (.move (.tmp 7)) none, SO.mk (some 36) (.bin .lss 3 (.tmp 34) (.tmp 35)) none]) (.keep [36, 8, 7, 1, 3] c32_10)) (.keep [8, 7, 1, 3] c32_17))
theorem u32_18 : type_of% (@swc _ _ c32_18.eq_1) := @swc _ _ c32_18.eq_1
def c32_19 : SC := (.block 2 (.loop (.keep [8, 7, 1, 3] c32_18)))
theorem u32_19 : type_of% (@swc _ _ c32_19.eq_1) := @swc _ _ c32_19.eq_1
def c32_20 : SC := (.seq (.reg [SO.mk (some 8) (.move (.const (Value.int .i64 0))) none]) (.keep [8, 7, 1, 3] c32_19))
theorem u32_20 : type_of% (@swc _ _ c32_20.eq_1) := @swc _ _ c32_20.eq_1
def c32_21 : SC := (.reg [SO.mk (some 23) (.move (.tmp 7)) none, SO.mk (some 24) (.bin .add 3 (.tmp 23) (.const (Value.int .i64 1))) none, SO.mk (some 7) (.move (.tmp 24)) none])
theorem u32_21 : type_of% (@swc _ _ c32_21.eq_1) := @swc _ _ c32_21.eq_1
def c32_22 : SC := (.seq (.block 1 (.seq (.seq (.dreg false o32_7 [SO.mk (some 32) (.call 24 [(.tmp 28), (.const (Value.int .i64 0)), (.tmp 31)]) none, SO.mk (some 33) (.un .not (.tmp 32)) none]) (.keep [33, 7, 1, 3] c32_9)) (.keep [7, 1, 3] c32_20))) (.keep [7, 1, 3] c32_21))
theorem u32_22 : type_of% (@swc _ _ c32_22.eq_1) := @swc _ _ c32_22.eq_1
def c32_23 : SC := (.seq (.seq (.reg [SO.mk (some 19) (.move (.tmp 7)) none, SO.mk (some 20) (.move (.tmp 1)) none, SO.mk (some 21) (.len 40 (.tmp 20)) none, SO.mk (some 22) (.bin .lss 3 (.tmp 19) (.tmp 21)) none]) (.keep [22, 3, 1, 7] c32_5)) (.keep [7, 1, 3] c32_22))
theorem u32_23 : type_of% (@swc _ _ c32_23.eq_1) := @swc _ _ c32_23.eq_1
def c32_24 : SC := (.block 0 (.loop (.keep [3, 1, 7] c32_23)))
theorem u32_24 : type_of% (@swc _ _ c32_24.eq_1) := @swc _ _ c32_24.eq_1
def c32_25 : SC := (.seq (.reg [SO.mk (some 6) (.move (.const (Value.bool true))) none]) (.keep [6] .ret))
theorem u32_25 : type_of% (@swc _ _ c32_25.eq_1) := @swc _ _ c32_25.eq_1
def c32_26 : SC := (.seq (.seq (.reg [SO.mk (some 7) (.move (.const (Value.int .i64 0))) none]) (.keep [3, 1, 7] c32_24)) (.keep [] c32_25))
theorem u32_26 : type_of% (@swc _ _ c32_26.eq_1) := @swc _ _ c32_26.eq_1
def c32_27 : SC := (.seq (.seq (.reg ((SO.mk (some 9) (.move (.tmp 2)) none) :: (SO.mk (some 10) (.call 24 [(.tmp 9), (.const (Value.int .i64 0)), (.const (Value.int .i64 600))]) none) :: (SO.mk (some 11) (.un .not (.tmp 10)) none) :: (SO.mk (some 12) (.move (.tmp 11)) none) :: o32_2)) (.keep [18, 3, 1] c32_4)) (.keep [3, 1] c32_26))
theorem u32_27 : type_of% (@swc _ _ c32_27.eq_1) := @swc _ _ c32_27.eq_1
def c32 : SC := (.seq (.reg [SO.mk (some 3) (.box 23 (.tmp 0)) none, SO.mk (some 6) (.move (.const (Value.bool false))) none]) (.keep [2, 3, 1] c32_27))
theorem c32_eq : annC Try.f32 = some c32 := by kernel_rfl
theorem r32 : Try.f32.results.toList = [.tmp 6] := by kernel_rfl
theorem e32 : enters Try.prog 32 = true := by kernel_rfl
end Go.Proofs.Ytalhjhmphdgaoaa
namespace Go.Proofs.Ytalhjhmphdgaoaa
open Go.RowKit
set_option maxHeartbeats 4000000
set_option maxRecDepth 20000
attribute [local irreducible] SW SWL SWLn SWD SEcall SEcallv SDv SE SO1 SOg ACalls ACallv Wk EndV
set_option linter.unusedSimpArgs false
set_option linter.unusedVariables false
theorem Rows_int (l : List Int) : Rows (l.map int_) 1 = True := by
  refine eq_true ?_
  intro r hr
  simp only [List.mem_map] at hr; obtain ⟨x, _, rfl⟩ := hr; rfl
def rmB (g : GeoD) (l : List Int) : Nat → Bool
  | 0 => true
  | k + 1 => rmB g l k && (!decide (l[k]! < 0) && (!decide (l[k]! ≥ g.hot) && !hasI (l.take k) l[k]!))
def sizeV (n : Nat) (size : Int) : Bool := decide (size ≥ 0) && (decide (size ≤ 600) && ((n : Int) == secN size))
def roomV (g : GeoD) (l : List Int) (size : Int) : Bool := rmB g l l.length && sizeV l.length size
theorem rmB_stop (g : GeoD) (l : List Int) {k : Nat} (h : rmB g l k = false) : ∀ n, rmB g l (k + n) = false
  | 0 => h
  | n + 1 => by show (rmB g l (k + n) && _) = false; rw [rmB_stop g l h n]; rfl
theorem roomV_no {g : GeoD} {l : List Int} {size : Int} {k : Nat} (hk : k < l.length) (h : rmB g l (k + 1) = false) : Bo false = Bo (roomV g l size) := by
  have := rmB_stop g l h (l.length - (k + 1))
  rw [show k + 1 + (l.length - (k + 1)) = l.length by omega] at this
  simp only [roomV, this, Bool.false_and]
theorem rm1 {g : GeoD} {l : List Int} {k : Nat} (h : decide (l[k]! < 0) = true) : rmB g l (k + 1) = false := by simp only [rmB, h, Bool.not_true, Bool.false_and, Bool.and_false]
theorem rm2 {g : GeoD} {l : List Int} {k : Nat} (h : decide (l[k]! ≥ g.hot) = true) : rmB g l (k + 1) = false := by simp only [rmB, h, Bool.not_true, Bool.false_and, Bool.and_false]
theorem rm3 {g : GeoD} {l : List Int} {k : Nat} (h : hasI (l.take k) l[k]! = true) : rmB g l (k + 1) = false := by simp only [rmB, h, Bool.not_true, Bool.and_false]
theorem rm0 {g : GeoD} {l : List Int} {k : Nat} (hF : rmB g l k = true) (h : decide (l[k]! < 0) = false) (h2 : decide (l[k]! ≥ g.hot) = false) (h3 : hasI (l.take k) l[k]! = false) : rmB g l (k + 1) = true := by simp only [rmB, hF, h, h2, h3, Bool.not_false, Bool.and_self]
theorem room_p (g : GeoD) (l : List Int) (size : Int) : Pure Try.prog 30 [g.av, .d (ints l), I size] (Bo (roomV g l size)) := by
  refine pure_of follows Try.func30 c30_eq r30 (Nat.le_of_ble_eq_true rfl) fun B σ hcl hsz => ?_
  have hlen : l.length ≤ 2 ^ 47 := by simpa using (show Sized (ints l) from hsz (.d (ints l)) (by simp)).len
  clear hsz
  repeat' (first | (simp -implicitDefEqProofs only [*, contN, contC, Nat.reduceBEq, Bool.or_false, Bool.or_true, Bool.false_or, Bool.true_or, Bool.not_true, Bool.not_false, w_skip, w_ret, w_exit, w_reg, w_dreg, w_seq, SK_n, SK_r, SK_x, w_keep, w_block, w_cond, w_nil, w_cons, w_consg, w_nnil, w_ncons, w_dnil, w_dcons, w_dconsg, HK_app, HD_app, HQ_n, HQ_r, HQ_x, HQ_bn, HQ_br, HQ_bx, HQ_en, HQ_er, HQ_ex, CondB_true, CondB_false, SO1, w_sdv, SDe_alloc, SDe_box, SDe_bslice, SDe_app, true_imp_iff, false_imp_iff, and_false, false_and, not_false_eq_true, not_true_eq_false, addN, mkNames, killT, killD, killO, List.foldl_nil, List.foldl_cons, List.append_nil, List.nil_append, List.cons_append, GuardS_true, GuardS_false, GuardD_true, GuardD_false, DK_true, DK_false, lt_self_add, le_self_add, decide_true, decide_false, Bool.false_eq_true, Bool.true_eq_false, Nat.add_left_cancel_iff, SE, SEalloc, SEbox, SEstore, w_bs, SEbl, SEfz, SEbs0, fzName, osOf, AV.fz1, w_app, w_mk, aev, opd, Fr.get, putO, Fr.norm, List.map_cons, List.map_nil, with1, with2, onInt, AV.lit, entry, ↓reduceIte, Nat.reduceEqDiff, Nat.reduceAdd, reduceCtorEq, true_and, and_true, Option.map_some, Option.map_none, Option.bind_some, Option.bind_none, cond_true, cond_false, binV, unV, fieldV, loadV, sto, cellsAV, newF, newL, Fr.map, Loc.kill, Loc.set, AO.kill, AV.kill, AV.mapN, AV.mapNL, List.filter_nil, List.filter_cons, allP, EndV, retV, resV, resL, frz, dropL, AV.pick, nilV, tupV, imp_self, ne_eq, Int.cast_ofNat_Int, Int.reduceLT, Int.reduceToNat, List.getD_cons_zero, List.getD_cons_succ, bsliceV, buildV, afill, repl, chunk, rvs, AV.rv, RV.nrm, List.getElem?_nil, List.append_assoc, Nat.reduceMul, Nat.reducePow, Nat.zero_lt_succ, Nat.zero_add, Nat.add_zero, List.length_cons, List.length_nil, Nat.reduceLeDiff, Nat.le_refl, List.take_succ_cons, List.take_zero, List.drop_succ_cons, List.drop_zero, indexV, lenV, rowOf_mapD, rowOf_mapI, rowOf_mapA, List.length_map, Int.toNat_natCast, List.getElem?_cons_zero, List.getElem?_cons_succ, and_self, implies_true, if_true, if_false, HQ_zn, HQ_zr, HQ_wn, HQ_wr, AV.nz, AV.nzL, RV.nrm, SEbin, SEnil, nilK, srcV, dstV, appName, List.length_append, Nat.mul_one, take_map_len, take_map_app, List.getElem?_cons_zero, List.map_append, SEmkmap, SEmset, mgetV, kvOf, getM, setM, c30, r30, v30_1, v30_2, v30_3, u30_4, u30_5, u30_6, u30_7, u30_8, u30_9, u30_10, u30_11, v30_12, v30_13, v30_14, u30_15, u30_16, ty23, ty40, ty3, ints, int_, GeoD.av, GeoD.cells, bnd, sliceV, Option.getD_some, Option.getD_none, Rows_int, Nat.sub_zero, ← List.map_take]) | (with_reducible refine And.intro ?_ ?_) | (refine call_ro e57 ( contains_p (l.take k) l[k]!) rfl ?_ ?_ ?_ ?_) | (refine gcall_ro e57 ( contains_p (l.take k) l[k]!) rfl ?_ ?_ ?_ ?_) | (refine dcall_ro e57 ( contains_p (l.take k) l[k]!) rfl ?_ ?_ ?_ ?_) | (refine gdcall_ro rfl e57 ( contains_p (l.take k) l[k]!) rfl ?_ ?_ ?_ ?_) | (refine call_ro e58 ( sectorsN_p size) rfl ?_ ?_ ?_ ?_) | (refine gcall_ro e58 ( sectorsN_p size) rfl ?_ ?_ ?_ ?_) | (refine dcall_ro e58 ( sectorsN_p size) rfl ?_ ?_ ?_ ?_) | (refine gdcall_ro rfl e58 ( sectorsN_p size) rfl ?_ ?_ ?_ ?_) | (refine loop_nat (l.length) (fun k => rmB g l k = true) (fun k => [(9, .d (ints l)), (3, .lp (B + 3) 0), (10, I l.length), (11, I k), (1, .d (ints l)), (2, I size)]) (fun k => [(B + 3, .box g.cells)]) ?_ (Wk.keep hcl ?_ ?_ ?_) fun k hk hF => ?_; rotate_left 1; (focus (simp [Fr.get, newF, Fr.map, AV.kill, AV.mapN, ints, int_, GeoD.av, GeoD.cells, bnd, sliceV, Option.getD_some, Option.getD_none, Rows_int, Nat.sub_zero, ← List.map_take] <;> fail)); (focus (simp [sto, newL, Loc.kill, Loc.set, AO.kill, AV.kill, AV.mapN, ints, int_, GeoD.av, GeoD.cells, bnd, sliceV, Option.getD_some, Option.getD_none, Rows_int, Nat.sub_zero, ← List.map_take] <;> fail)); (focus (simp [newL, Loc.kill, Loc.set, ints, int_, GeoD.av, GeoD.cells, bnd, sliceV, Option.getD_some, Option.getD_none, Rows_int, Nat.sub_zero, ← List.map_take] <;> fail)); (try have hw : IntKind.i64.wrap ((k : Int) + 1) = (k : Int) + 1 := IntWalk.i64_in _ (by omega))) | (refine EndX.plain ?_) | (refine nil_split (fun hn => ?_) (fun hn => ?_)) | (refine gcall_no not_false ?_) | (refine gdcall_no not_false ?_) | (refine GuardS_of _ _ _ _ _ _ (fun hg => ?_) (fun hg => ?_)) | (refine GuardD_of _ _ _ _ (fun hg => ?_) (fun hg => ?_)) | (refine CondB_of _ _ _ _ _ _ _ ?_ (fun hg => ?_) (fun hg => ?_)))
  all_goals (try (first | ((first | unfold noN | unfold Fr.below | unfold Loc.below); simp [Fr.allN, AV.allN, AV.allNL, AO.allN]; done) | rfl | trivial | assumption | (intro row hrow; simp only [List.mem_map] at hrow; obtain ⟨x, _, rfl⟩ := hrow; rfl) | (refine Wk.keep hcl ?_ ?_ ?_; (focus (simp [Fr.get, ints, int_, GeoD.av, GeoD.cells, bnd, sliceV, Option.getD_some, Option.getD_none, Rows_int, Nat.sub_zero, ← List.map_take] <;> fail)); (focus (simp [sto, ints, int_, GeoD.av, GeoD.cells, bnd, sliceV, Option.getD_some, Option.getD_none, Rows_int, Nat.sub_zero, ← List.map_take] <;> fail)); (focus (simp <;> fail))) | (simp [allP, opd, Fr.get, Fr.below, Fr.allN, AV.allN, AV.allNL, Loc.below, AO.allN, noN, killO, killT, killD, mkNames, AO.kill, AV.kill, AV.mapN, AV.mapNL]; done) | (with_reducible exact ltD (by assumption)) | omega | (simp only [decide_eq_true_eq, decide_eq_false_iff_not] at *; omega)))
  all_goals first
    | exact roomV_no (ltD (by assumption)) (rm1 (by assumption))
    | exact roomV_no (ltD (by assumption)) (rm2 (by assumption))
    | exact roomV_no (ltD (by assumption)) (rm3 (by assumption))
    | exact rm0 hF (by assumption) (by assumption) (by assumption)
    | (have h1 : l.length ≤ k := geD (by assumption)
       have h2 : k = l.length := by omega
       subst h2
       simp only [roomV, sizeV, *, Bool.false_or, Bool.true_or, Bool.or_true, Bool.or_false, Bool.and_true, Bool.true_and, Bool.false_and, Bool.and_false, Bool.not_true, Bool.not_false, cond_true, cond_false]; done)
theorem has_none {l : List Int} {k : Nat} (hk : k < l.length) (h : ∀ j, j < k → (l[j]! == l[k]!) = false) : hasI (l.take k) l[k]! = false := by
  have : (l.take k).findIdx? (· == l[k]!) = none := by
    rw [List.findIdx?_eq_none_iff]
    intro y hy
    obtain ⟨i, hi, rfl⟩ := List.mem_iff_getElem.1 hy
    have hi' : i < k := by simp at hi; omega
    have := h i hi'
    have hil : i < l.length := by omega
    simp [hil] at this
    simpa using this
  unfold hasI; rw [this]; rfl
theorem has_some {l : List Int} {j k : Nat} (hk : k < l.length) (hj : j < k) (h : (l[j]! == l[k]!) = true) : hasI (l.take k) l[k]! = true := by
  cases hc : hasI (l.take k) l[k]! with
  | true => rfl
  | false =>
    have : (l.take k).findIdx? (· == l[k]!) = none := by
      unfold hasI at hc
      cases hf : (l.take k).findIdx? (· == l[k]!) with
      | none => rfl
      | some i => rw [hf] at hc; cases hc
    rw [List.findIdx?_eq_none_iff] at this
    have hjl : j < l.length := by omega
    have hm : l[j]! ∈ l.take k := by
      rw [List.mem_take_iff_getElem]
      exact ⟨j, by omega, by simp [hjl]⟩
    rw [this _ hm] at h; cases h
theorem sizeV_no {g : GeoD} {l : List Int} {size : Int} (h : sizeV l.length size = false) : Bo false = Bo (roomV g l size) := by
  simp only [roomV, h, Bool.and_false]
theorem inR_z {x h : Int} : inR x 0 (h - 1) = (!decide (x < 0) && !decide (x ≥ h)) := by
  unfold inR
  by_cases h1 : x < 0 <;> by_cases h2 : x ≥ h <;> simp [h1, h2] <;> omega
theorem rowOf_int {l : List Int} {j : Nat} (h : j < l.length) : rowOf (l.map int_) j = [.v (.int .i64 l[j]!)] := rowOf_map int_ l j h
theorem bn1 {b : Bool} (h : (!b) = true) : b = false := by simpa using h
theorem bn0 {b : Bool} (h : (!b) = false) : b = true := by simpa using h
theorem szF1 {n : Nat} {size : Int} (h : (!inR size 0 600) = true) : sizeV n size = false := by
  have := bn1 h
  unfold inR at this
  unfold sizeV
  rw [← Bool.and_assoc, this, Bool.false_and]
theorem szF2 {n : Nat} {size : Int} (h : ((n : Int) != secN size) = true) : sizeV n size = false := by
  have : ((n : Int) == secN size) = false := by simpa using h
  unfold sizeV; rw [this, Bool.and_false, Bool.and_false]
theorem szT {n : Nat} {size : Int} (h : (!inR size 0 600) = false) (h2 : ((n : Int) != secN size) = false) : sizeV n size = true := by
  have h1 := bn0 h
  unfold inR at h1
  have h3 : ((n : Int) == secN size) = true := by simpa using h2
  unfold sizeV; rw [← Bool.and_assoc, h1, h3]; rfl
theorem rmIn {g : GeoD} {l : List Int} {k : Nat} (h : (!inR l[k]! 0 (g.hot - 1)) = true) : rmB g l (k + 1) = false := by
  have h1 := bn1 h
  rw [inR_z] at h1
  simp only [rmB]
  cases ha : decide (l[k]! < 0)
  · cases hb : decide (l[k]! ≥ g.hot)
    · rw [ha, hb] at h1; cases h1
    · simp
  · simp
theorem rmAll {g : GeoD} {l : List Int} {k j : Nat} (hk : k < l.length) (hF : rmB g l k = true) (h : (!inR l[k]! 0 (g.hot - 1)) = false) (hj : k ≤ j) (h3 : ∀ i, i < j → (l[i]! == l[k]!) = false) : rmB g l (k + 1) = true := by
  have h1 := bn0 h
  rw [inR_z, Bool.and_eq_true] at h1
  exact rm0 hF (bn1 h1.1) (bn1 h1.2) (has_none hk fun i hi => h3 i (by omega))
theorem roomMay_p (g : GeoD) (l : List Int) (size : Int) (hh : IntKind.i64.wrap (g.hot - 1) = g.hot - 1) : Pure Try.prog 32 [g.av, .d (ints l), I size] (Bo (roomV g l size)) := by
  refine pure_of follows Try.func32 c32_eq r32 (Nat.le_of_ble_eq_true rfl) fun B σ hcl hsz => ?_
  have hlen : l.length ≤ 2 ^ 47 := by simpa using (show Sized (ints l) from hsz (.d (ints l)) (by simp)).len
  clear hsz
  repeat' (first | (simp -implicitDefEqProofs only [*, contN, contC, Nat.reduceBEq, Bool.or_false, Bool.or_true, Bool.false_or, Bool.true_or, Bool.not_true, Bool.not_false, w_skip, w_ret, w_exit, w_reg, w_dreg, w_seq, SK_n, SK_r, SK_x, w_keep, w_block, w_cond, w_nil, w_cons, w_consg, w_nnil, w_ncons, w_dnil, w_dcons, w_dconsg, HK_app, HD_app, HQ_n, HQ_r, HQ_x, HQ_bn, HQ_br, HQ_bx, HQ_en, HQ_er, HQ_ex, CondB_true, CondB_false, SO1, w_sdv, SDe_alloc, SDe_box, SDe_bslice, SDe_app, true_imp_iff, false_imp_iff, and_false, false_and, not_false_eq_true, not_true_eq_false, addN, mkNames, killT, killD, killO, List.foldl_nil, List.foldl_cons, List.append_nil, List.nil_append, List.cons_append, GuardS_true, GuardS_false, GuardD_true, GuardD_false, DK_true, DK_false, lt_self_add, le_self_add, decide_true, decide_false, Bool.false_eq_true, Bool.true_eq_false, Nat.add_left_cancel_iff, SE, SEalloc, SEbox, SEstore, w_bs, SEbl, SEfz, SEbs0, fzName, osOf, AV.fz1, w_app, w_mk, aev, opd, Fr.get, putO, Fr.norm, List.map_cons, List.map_nil, with1, with2, onInt, AV.lit, entry, ↓reduceIte, Nat.reduceEqDiff, Nat.reduceAdd, reduceCtorEq, true_and, and_true, Option.map_some, Option.map_none, Option.bind_some, Option.bind_none, cond_true, cond_false, binV, unV, fieldV, loadV, sto, cellsAV, newF, newL, Fr.map, Loc.kill, Loc.set, AO.kill, AV.kill, AV.mapN, AV.mapNL, List.filter_nil, List.filter_cons, allP, EndV, retV, resV, resL, frz, dropL, AV.pick, nilV, tupV, imp_self, ne_eq, Int.cast_ofNat_Int, Int.reduceLT, Int.reduceToNat, List.getD_cons_zero, List.getD_cons_succ, bsliceV, buildV, afill, repl, chunk, rvs, AV.rv, RV.nrm, List.getElem?_nil, List.append_assoc, Nat.reduceMul, Nat.reducePow, Nat.zero_lt_succ, Nat.zero_add, Nat.add_zero, List.length_cons, List.length_nil, Nat.reduceLeDiff, Nat.le_refl, List.take_succ_cons, List.take_zero, List.drop_succ_cons, List.drop_zero, indexV, lenV, rowOf_mapD, rowOf_mapI, rowOf_mapA, List.length_map, Int.toNat_natCast, List.getElem?_cons_zero, List.getElem?_cons_succ, and_self, implies_true, if_true, if_false, HQ_zn, HQ_zr, HQ_wn, HQ_wr, AV.nz, AV.nzL, RV.nrm, SEbin, SEnil, nilK, srcV, dstV, appName, List.length_append, Nat.mul_one, take_map_len, take_map_app, List.getElem?_cons_zero, List.map_append, SEmkmap, SEmset, mgetV, kvOf, getM, setM, c32, r32, v32_1, v32_2, u32_3, u32_4, u32_5, v32_6, v32_7, m32_7, u32_8, u32_9, u32_10, v32_11, v32_12, v32_13, m32_13, u32_14, u32_15, u32_16, u32_17, u32_18, u32_19, u32_20, u32_21, u32_22, u32_23, u32_24, u32_25, u32_26, u32_27, ty23, ty40, ty3, ints, int_, GeoD.av, GeoD.cells]) | (with_reducible refine And.intro ?_ ?_) | (refine call_ro e24 ( In_p _ _ _) rfl ?_ ?_ ?_ ?_) | (refine gcall_ro e24 ( In_p _ _ _) rfl ?_ ?_ ?_ ?_) | (refine dcall_ro e24 ( In_p _ _ _) rfl ?_ ?_ ?_ ?_) | (refine gdcall_ro rfl e24 ( In_p _ _ _) rfl ?_ ?_ ?_ ?_) | (refine call_ro e41 ( chunks_p size) rfl ?_ ?_ ?_ ?_) | (refine gcall_ro e41 ( chunks_p size) rfl ?_ ?_ ?_ ?_) | (refine dcall_ro e41 ( chunks_p size) rfl ?_ ?_ ?_ ?_) | (refine gdcall_ro rfl e41 ( chunks_p size) rfl ?_ ?_ ?_ ?_) | (rw [rowOf_int (Nat.lt_trans (ltD (k := j) (n := k) (by assumption)) (ltD (k := k) (n := l.length) (by assumption)))]) | (refine loop_nat (l.length) (fun k => rmB g l k = true) (fun k => [(3, .lp (B + 3) 0), (1, .d (ints l)), (7, I k)]) (fun k => [(B + 3, .box g.cells)]) ?_ (Wk.keep hcl ?_ ?_ ?_) fun k hk hF => ?_; rotate_left 1; (focus (simp [Fr.get, newF, Fr.map, AV.kill, AV.mapN, ints, int_, GeoD.av, GeoD.cells] <;> fail)); (focus (simp [sto, newL, Loc.kill, Loc.set, AO.kill, AV.kill, AV.mapN, ints, int_, GeoD.av, GeoD.cells] <;> fail)); (focus (simp [newL, Loc.kill, Loc.set, ints, int_, GeoD.av, GeoD.cells] <;> fail)); (try have hw : IntKind.i64.wrap ((k : Int) + 1) = (k : Int) + 1 := IntWalk.i64_in _ (by omega))) | (refine loop_nat (k) (fun j => ∀ i, i < j → (l[i]! == l[k]!) = false) (fun j => [(8, I j), (7, I k), (1, .d (ints l)), (3, .lp (B + 3) 0)]) (fun j => [(B + 3, .box g.cells)]) ?_ (Wk.keep hcl ?_ ?_ ?_) fun j hj hFj => ?_; rotate_left 1; (focus (simp [Fr.get, newF, Fr.map, AV.kill, AV.mapN, ints, int_, GeoD.av, GeoD.cells] <;> fail)); (focus (simp [sto, newL, Loc.kill, Loc.set, AO.kill, AV.kill, AV.mapN, ints, int_, GeoD.av, GeoD.cells] <;> fail)); (focus (simp [newL, Loc.kill, Loc.set, ints, int_, GeoD.av, GeoD.cells] <;> fail)); (try have hwj : IntKind.i64.wrap ((j : Int) + 1) = (j : Int) + 1 := IntWalk.i64_in _ (by omega))) | (refine EndX.plain ?_) | (refine nil_split (fun hn => ?_) (fun hn => ?_)) | (refine gcall_no not_false ?_) | (refine gdcall_no not_false ?_) | (refine GuardS_of _ _ _ _ _ _ (fun hg => ?_) (fun hg => ?_)) | (refine GuardD_of _ _ _ _ (fun hg => ?_) (fun hg => ?_)) | (refine CondB_of _ _ _ _ _ _ _ ?_ (fun hg => ?_) (fun hg => ?_)))
  all_goals (try (first | ((first | unfold noN | unfold Fr.below | unfold Loc.below); simp [Fr.allN, AV.allN, AV.allNL, AO.allN]; done) | rfl | trivial | assumption | (intro row hrow; simp only [List.mem_map] at hrow; obtain ⟨x, _, rfl⟩ := hrow; rfl) | (refine Wk.keep hcl ?_ ?_ ?_; (focus (simp [Fr.get, ints, int_, GeoD.av, GeoD.cells] <;> fail)); (focus (simp [sto, ints, int_, GeoD.av, GeoD.cells] <;> fail)); (focus (simp <;> fail))) | (simp [allP, opd, Fr.get, Fr.below, Fr.allN, AV.allN, AV.allNL, Loc.below, AO.allN, noN, killO, killT, killD, mkNames, AO.kill, AV.kill, AV.mapN, AV.mapNL]; done) | (with_reducible exact ltD (by assumption)) | omega | (simp only [decide_eq_true_eq, decide_eq_false_iff_not] at *; omega)))
  all_goals first
    | exact sizeV_no (szF1 (by assumption))
    | exact sizeV_no (szF2 (by assumption))
    | exact roomV_no (ltD (by assumption)) (rmIn (by assumption))
    | exact roomV_no (ltD (by assumption)) (rm3 (has_some (ltD (by assumption)) (ltD (k := j) (n := k) (by assumption)) (by assumption)))
    | (intro i hi
       rcases Nat.lt_or_eq_of_le (Nat.le_of_lt_succ hi) with h | rfl
       · exact hFj i h
       · assumption)
    | exact rmAll (ltD (by assumption)) hF (by assumption) (geD (by assumption)) hFj
    | (have h1 : l.length ≤ k := geD (by assumption)
       have h2 : k = l.length := by omega
       subst h2
       simp only [roomV, hF, szT (n := l.length) (size := size) (by assumption) (by assumption), Bool.and_self])
end Go.Proofs.Ytalhjhmphdgaoaa
