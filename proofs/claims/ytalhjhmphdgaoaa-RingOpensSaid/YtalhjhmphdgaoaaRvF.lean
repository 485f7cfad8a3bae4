/- ring.transaction: the frames that stand one behind the other. -/
import Derived.Test.YtalhjhmphdgaoaaRvD
import Derived.Test.YtalhjhmphdgaoaaRvE
import Derived.Test.YtalhjhmphdgaoaaTypes
namespace Go.Proofs.Ytalhjhmphdgaoaa
open Go.RowKit
set_option maxRecDepth 100000
def o35_1 : List SO := ((SO.mk (some 14) (.move (.const (Value.int .i64 0))) none) :: (SO.mk (some 15) (.move (.const (Value.bool false))) none) :: [])
theorem v35_1 : type_of% (@swl _ _ o35_1.eq_1) := @swl _ _ o35_1.eq_1
def c35_2 : SC := (.cond (.tmp 25) .skip (.exit 0))
theorem u35_2 : type_of% (@swc _ _ c35_2.eq_1) := @swc _ _ c35_2.eq_1
def o35_3 : List SO := ((SO.mk (some 37) (.bin .add 3 (.const (Value.int .i64 2)) (.tmp 36)) none) :: [])
theorem v35_3 : type_of% (@swd _ _ o35_3.eq_1) := @swd _ _ o35_3.eq_1
def o35_4 : List SO := ((SO.mk (some 33) (.bin .add 3 (.tmp 31) (.tmp 32)) none) :: (SO.mk (some 34) (.faddr 23 (.tmp 6) 0) none) :: (SO.mk (some 35) (.load 3 (.tmp 34)) none) :: (SO.mk (some 36) (.bin .rem 3 (.tmp 33) (.tmp 35)) none) :: o35_3)
theorem v35_4 : type_of% (@swd _ _ o35_4.eq_1) := @swd _ _ o35_4.eq_1
def o35_5 : List SO := ((SO.mk (some 29) (.load 23 (.tmp 6)) none) :: (SO.mk (some 30) (.load 28 (.tmp 7)) none) :: (SO.mk (some 31) (.move (.tmp 2)) none) :: (SO.mk (some 32) (.move (.tmp 18)) none) :: o35_4)
theorem v35_5 : type_of% (@swd _ _ o35_5.eq_1) := @swd _ _ o35_5.eq_1
theorem m35_5 (B : Nat) : mkNames B o35_5 = [] := (rfl)
def o35_6 : List SO := ((SO.mk (some 40) (.extract (.tmp 28) 1) none) :: (SO.mk (some 20) (.move (.tmp 40)) none) :: [])
theorem v35_6 : type_of% (@swl _ _ o35_6.eq_1) := @swl _ _ o35_6.eq_1
def o35_7 : List SO := ((SO.mk (some 45) (.extract (.tmp 41) 1) none) :: (SO.mk (some 21) (.alloc 96) none) :: (SO.mk none (.store 96 (.tmp 21) (.tmp 44)) none) :: (SO.mk (some 22) (.move (.tmp 45)) none) :: [])
theorem v35_7 : type_of% (@swl _ _ o35_7.eq_1) := @swl _ _ o35_7.eq_1
def o35_8 : List SO := ((SO.mk (some 78) (.pick (.tmp 73) (.tmp 77) (.const (Value.bool false))) (some (70 , false))) :: (SO.mk (some 79) (.pick (.tmp 70) (.const (Value.bool true)) (.tmp 78)) none) :: [])
theorem v35_8 : type_of% (@swl _ _ o35_8.eq_1) := @swl _ _ o35_8.eq_1
def o35_9 : List SO := ((SO.mk (some 74) (.faddr 96 (.tmp 21) 0) (some (73 , true))) :: (SO.mk (some 75) (.load 3 (.tmp 74)) (some (73 , true))) :: (SO.mk (some 76) (.move (.tmp 17)) (some (73 , true))) :: (SO.mk (some 77) (.bin .neq 3 (.tmp 75) (.tmp 76)) (some (73 , true))) :: o35_8)
theorem v35_9 : type_of% (@swl _ _ o35_9.eq_1) := @swl _ _ o35_9.eq_1
def o35_10 : List SO := ((SO.mk (some 70) (.move (.tmp 69)) none) :: (SO.mk (some 71) (.move (.tmp 18)) (some (70 , false))) :: (SO.mk (some 72) (.bin .gtr 3 (.tmp 71) (.const (Value.int .i64 0))) (some (70 , false))) :: (SO.mk (some 73) (.move (.tmp 72)) (some (70 , false))) :: o35_9)
theorem v35_10 : type_of% (@swl _ _ o35_10.eq_1) := @swl _ _ o35_10.eq_1
def o35_11 : List SO := ((SO.mk (some 66) (.move (.tmp 4)) (some (63 , true))) :: (SO.mk (some 67) (.bin .lss 3 (.tmp 65) (.tmp 66)) (some (63 , true))) :: (SO.mk (some 68) (.pick (.tmp 63) (.tmp 67) (.const (Value.bool false))) (some (60 , false))) :: (SO.mk (some 69) (.pick (.tmp 60) (.const (Value.bool true)) (.tmp 68)) none) :: o35_10)
theorem v35_11 : type_of% (@swl _ _ o35_11.eq_1) := @swl _ _ o35_11.eq_1
def o35_12 : List SO := ((SO.mk (some 62) (.bin .eql 3 (.tmp 61) (.const (Value.int .i64 0))) (some (60 , false))) :: (SO.mk (some 63) (.move (.tmp 62)) (some (60 , false))) :: (SO.mk (some 64) (.faddr 96 (.tmp 21) 0) (some (63 , true))) :: (SO.mk (some 65) (.load 3 (.tmp 64)) (some (63 , true))) :: o35_11)
theorem v35_12 : type_of% (@swl _ _ o35_12.eq_1) := @swl _ _ o35_12.eq_1
def o35_13 : List SO := ((SO.mk (some 58) (.bin .neq 3 (.tmp 56) (.tmp 57)) (some (54 , false))) :: (SO.mk (some 59) (.pick (.tmp 54) (.const (Value.bool true)) (.tmp 58)) none) :: (SO.mk (some 60) (.move (.tmp 59)) none) :: (SO.mk (some 61) (.move (.tmp 18)) (some (60 , false))) :: o35_12)
theorem v35_13 : type_of% (@swl _ _ o35_13.eq_1) := @swl _ _ o35_13.eq_1
def o35_14 : List SO := ((SO.mk (some 54) (.move (.tmp 53)) none) :: (SO.mk (some 55) (.faddr 96 (.tmp 21) 2) (some (54 , false))) :: (SO.mk (some 56) (.load 3 (.tmp 55)) (some (54 , false))) :: (SO.mk (some 57) (.move (.tmp 18)) (some (54 , false))) :: o35_13)
theorem v35_14 : type_of% (@swl _ _ o35_14.eq_1) := @swl _ _ o35_14.eq_1
def o35_15 : List SO := ((SO.mk (some 50) (.load 3 (.tmp 49)) (some (48 , false))) :: (SO.mk (some 51) (.move (.tmp 3)) (some (48 , false))) :: (SO.mk (some 52) (.bin .neq 3 (.tmp 50) (.tmp 51)) (some (48 , false))) :: (SO.mk (some 53) (.pick (.tmp 48) (.const (Value.bool true)) (.tmp 52)) none) :: o35_14)
theorem v35_15 : type_of% (@swl _ _ o35_15.eq_1) := @swl _ _ o35_15.eq_1
def c35_16 : SC := (.seq (.reg [SO.mk (some 12) (.move (.const (Value.slice none 0 0))) none, SO.mk (some 13) (.move (.const (Value.int .i64 0))) none, SO.mk (some 14) (.move (.const (Value.int .i64 0))) none, SO.mk (some 15) (.move (.const (Value.bool false))) none]) (.keep [12, 13, 14, 15] .ret))
theorem u35_16 : type_of% (@swc _ _ c35_16.eq_1) := @swc _ _ c35_16.eq_1
def c35_17 : SC := (.cond (.tmp 79) c35_16 .skip)
theorem u35_17 : type_of% (@swc _ _ c35_17.eq_1) := @swc _ _ c35_17.eq_1
def o35_18 : List SO := ((SO.mk (some 12) (.move (.tmp 88)) none) :: (SO.mk (some 13) (.move (.tmp 90)) none) :: (SO.mk (some 14) (.move (.tmp 91)) none) :: (SO.mk (some 15) (.move (.const (Value.bool true))) none) :: [])
theorem v35_18 : type_of% (@swl _ _ o35_18.eq_1) := @swl _ _ o35_18.eq_1
def c35_19 : SC := (.seq (.reg ((SO.mk (some 88) (.move (.tmp 16)) none) :: (SO.mk (some 89) (.move (.tmp 18)) none) :: (SO.mk (some 90) (.bin .add 3 (.tmp 89) (.const (Value.int .i64 1))) none) :: (SO.mk (some 91) (.move (.tmp 17)) none) :: o35_18)) (.keep [12, 13, 14, 15] .ret))
theorem u35_19 : type_of% (@swc _ _ c35_19.eq_1) := @swc _ _ c35_19.eq_1
def c35_20 : SC := (.cond (.tmp 87) c35_19 .skip)
theorem u35_20 : type_of% (@swc _ _ c35_20.eq_1) := @swc _ _ c35_20.eq_1
def c35_21 : SC := (.seq (.reg [SO.mk (some 86) (.faddr 96 (.tmp 21) 3) none, SO.mk (some 87) (.load 4 (.tmp 86)) none]) (.keep [87, 18, 5, 16, 17, 4, 3, 6, 2, 7] c35_20))
theorem u35_21 : type_of% (@swc _ _ c35_21.eq_1) := @swc _ _ c35_21.eq_1
def c35_22 : SC := (.seq (.reg [SO.mk (some 82) (.move (.tmp 16)) none, SO.mk (some 83) (.faddr 96 (.tmp 21) 4) none, SO.mk (some 84) (.load 29 (.tmp 83)) none, SO.mk (some 85) (.app 29 29 (.tmp 82) (.tmp 84)) none, SO.mk (some 16) (.move (.tmp 85)) none]) (.keep [21, 18, 5, 16, 17, 4, 3, 6, 2, 7] c35_21))
theorem u35_22 : type_of% (@swc _ _ c35_22.eq_1) := @swc _ _ c35_22.eq_1
def c35_23 : SC := (.seq (.reg [SO.mk (some 80) (.faddr 96 (.tmp 21) 0) none, SO.mk (some 81) (.load 3 (.tmp 80)) none, SO.mk (some 17) (.move (.tmp 81)) none]) (.keep [16, 21, 18, 5, 17, 4, 3, 6, 2, 7] c35_22))
theorem u35_23 : type_of% (@swc _ _ c35_23.eq_1) := @swc _ _ c35_23.eq_1
def c35_24 : SC := (.seq (.seq (.reg ((SO.mk (some 46) (.move (.tmp 22)) none) :: (SO.mk (some 47) (.un .not (.tmp 46)) none) :: (SO.mk (some 48) (.move (.tmp 47)) none) :: (SO.mk (some 49) (.faddr 96 (.tmp 21) 1) (some (48 , false))) :: o35_15)) (.keep [79, 16, 21, 18, 5, 4, 3, 6, 2, 7] c35_17)) (.keep [16, 21, 18, 5, 4, 3, 6, 2, 7] c35_23))
theorem u35_24 : type_of% (@swc _ _ c35_24.eq_1) := @swc _ _ c35_24.eq_1
def c35_25 : SC := (.seq (.reg ((SO.mk (some 42) (.move (.tmp 19)) none) :: (SO.mk (some 43) (.call 60 [(.tmp 42)]) none) :: (SO.mk (some 41) (.move (.tmp 43)) none) :: (SO.mk (some 44) (.extract (.tmp 41) 0) none) :: o35_7)) (.keep [22, 17, 16, 21, 18, 5, 4, 3, 6, 2, 7] c35_24))
theorem u35_25 : type_of% (@swc _ _ c35_25.eq_1) := @swc _ _ c35_25.eq_1
def c35_26 : SC := (.reg [SO.mk (some 26) (.move (.tmp 18)) none, SO.mk (some 27) (.bin .add 3 (.tmp 26) (.const (Value.int .i64 1))) none, SO.mk (some 18) (.move (.tmp 27)) none])
theorem u35_26 : type_of% (@swc _ _ c35_26.eq_1) := @swc _ _ c35_26.eq_1
def c35_27 : SC := (.seq (.block 1 (.seq (.dreg false o35_5 ((SO.mk (some 38) (.call 7 [(.tmp 29), (.tmp 30), (.tmp 37)]) none) :: (SO.mk (some 28) (.move (.tmp 38)) none) :: (SO.mk (some 39) (.extract (.tmp 28) 0) none) :: (SO.mk (some 19) (.move (.tmp 39)) none) :: o35_6)) (.keep [19, 17, 16, 18, 5, 4, 3, 6, 2, 7] c35_25))) (.keep [18, 5, 16, 17, 4, 3, 6, 2, 7] c35_26))
theorem u35_27 : type_of% (@swc _ _ c35_27.eq_1) := @swc _ _ c35_27.eq_1
def c35_28 : SC := (.seq (.seq (.reg [SO.mk (some 23) (.move (.tmp 18)) none, SO.mk (some 24) (.move (.tmp 5)) none, SO.mk (some 25) (.bin .lss 3 (.tmp 23) (.tmp 24)) none]) (.keep [25, 7, 2, 6, 3, 4, 5, 18, 16, 17] c35_2)) (.keep [17, 16, 18, 5, 4, 3, 6, 2, 7] c35_27))
theorem u35_28 : type_of% (@swc _ _ c35_28.eq_1) := @swc _ _ c35_28.eq_1
def c35_29 : SC := (.block 0 (.loop (.keep [7, 2, 6, 3, 4, 5, 18, 16, 17] c35_28)))
theorem u35_29 : type_of% (@swc _ _ c35_29.eq_1) := @swc _ _ c35_29.eq_1
def c35_30 : SC := (.seq (.reg [SO.mk (some 12) (.move (.const (Value.slice none 0 0))) none, SO.mk (some 13) (.move (.const (Value.int .i64 0))) none, SO.mk (some 14) (.move (.const (Value.int .i64 0))) none, SO.mk (some 15) (.move (.const (Value.bool false))) none]) (.keep [12, 13, 14, 15] .ret))
theorem u35_30 : type_of% (@swc _ _ c35_30.eq_1) := @swc _ _ c35_30.eq_1
def c35_31 : SC := (.seq (.seq (.reg [SO.mk (some 18) (.move (.const (Value.int .i64 0))) none]) (.keep [7, 2, 6, 3, 4, 5, 18, 16, 17] c35_29)) (.keep [] c35_30))
theorem u35_31 : type_of% (@swc _ _ c35_31.eq_1) := @swc _ _ c35_31.eq_1
def c35_32 : SC := (.seq (.reg [SO.mk (some 17) (.move (.const (Value.int .i64 0))) none]) (.keep [7, 2, 6, 3, 4, 5, 16, 17] c35_31))
theorem u35_32 : type_of% (@swc _ _ c35_32.eq_1) := @swc _ _ c35_32.eq_1
def c35_33 : SC := (.seq (.reg [SO.mk (some 16) (.move (.const (Value.slice none 0 0))) none]) (.keep [7, 2, 6, 3, 4, 5, 16] c35_32))
theorem u35_33 : type_of% (@swc _ _ c35_33.eq_1) := @swc _ _ c35_33.eq_1
def c35 : SC := (.seq (.reg ((SO.mk (some 6) (.box 23 (.tmp 0)) none) :: (SO.mk (some 7) (.box 28 (.tmp 1)) none) :: (SO.mk (some 12) (.move (.const (Value.slice none 0 0))) none) :: (SO.mk (some 13) (.move (.const (Value.int .i64 0))) none) :: o35_1)) (.keep [7, 2, 6, 3, 4, 5] c35_33))
theorem c35_eq : annC Try.f35 = some c35 := by kernel_rfl
theorem r35 : Try.f35.results.toList = [.tmp 12, .tmp 13, .tmp 14, .tmp 15] := by kernel_rfl
theorem e35 : enters Try.prog 35 = true := by kernel_rfl
end Go.Proofs.Ytalhjhmphdgaoaa
namespace Go.Proofs.Ytalhjhmphdgaoaa
open Go.RowKit
set_option maxHeartbeats 4000000
set_option maxRecDepth 20000
attribute [local irreducible] SW SWL SWLn SWD SEcall SEcallv SDv SE SO1 SOg ACalls ACallv Wk EndV
set_option linter.unusedSimpArgs false
set_option linter.unusedVariables false
def trS (g : GeoD) (d : DevD) (place : Int) (i : Nat) : List UInt8 := getR g d (2 + (place + i).tmod g.ring)
def trE (g : GeoD) (d : DevD) (place : Int) : Nat → Int
  | 0 => 0
  | i + 1 => fE (trS g d place i)
def trB (g : GeoD) (d : DevD) (place : Int) : Nat → List UInt8
  | 0 => []
  | i + 1 => trB g d place i ++ fB (trS g d place i)
def trOk (g : GeoD) (d : DevD) (place n low : Int) (i : Nat) : Bool := !(!fOk (trS g d place i) || fNo (trS g d place i) != n || fI (trS g d place i) != (i : Int) || ((i : Int) == 0 && decide (fE (trS g d place i) < low)) || (decide ((i : Int) > 0) && fE (trS g d place i) != trE g d place i))
def trF (g : GeoD) (d : DevD) (place n low : Int) : Nat → Nat → Option Nat
  | 0, _ => none
  | f + 1, i => bif trOk g d place n low i then (bif fL (trS g d place i) then some i else trF g d place n low f (i + 1)) else none
def trR (g : GeoD) (d : DevD) (place n low : Int) (room : Nat) : Option Nat := trF g d place n low room 0
theorem trE_0 (g : GeoD) (d : DevD) (place : Int) : trE g d place 0 = 0 := rfl
theorem trB_0 (g : GeoD) (d : DevD) (place : Int) : trB g d place 0 = [] := rfl
theorem trB_next (g : GeoD) (d : DevD) (place : Int) (i : Nat) : trB g d place i ++ fB (trS g d place i) = trB g d place (i + 1) := rfl
theorem trE_next (g : GeoD) (d : DevD) (place : Int) (i : Nat) : fE (trS g d place i) = trE g d place (i + 1) := rfl
theorem trB_len (g : GeoD) (d : DevD) (place : Int) : ∀ i, (trB g d place i).length ≤ 52 * i
  | 0 => by simp [trB]
  | i + 1 => by
    have := trB_len g d place i
    have := fB_len (trS g d place i)
    rw [← trB_next, List.length_append]; omega
def tB (g : GeoD) (d : DevD) (place : Int) : Option Nat → List UInt8
  | none => []
  | some i => trB g d place (i + 1)
def tK : Option Nat → Int
  | none => 0
  | some i => (i : Int) + 1
def tE (g : GeoD) (d : DevD) (place : Int) : Option Nat → Int
  | none => 0
  | some i => fE (trS g d place i)
def tAv (g : GeoD) (d : DevD) (place : Int) (r : Option Nat) : AV := .tup [.d (bytes (tB g d place r)), I (tK r), I (tE g d place r), Bo r.isSome]
theorem trF_no {g : GeoD} {d : DevD} {place n low : Int} {m k : Nat} {r : Option Nat} (h : trF g d place n low (m - k) k = r) (hk : k < m) (ho : trOk g d place n low k = false) : r = none := by
  obtain ⟨f, hf⟩ : ∃ f, m - k = f + 1 := ⟨m - k - 1, by omega⟩
  rw [hf, trF, ho] at h; exact h.symm
theorem trF_last {g : GeoD} {d : DevD} {place n low : Int} {m k : Nat} {r : Option Nat} (h : trF g d place n low (m - k) k = r) (hk : k < m) (ho : trOk g d place n low k = true) (hl : fL (trS g d place k) = true) : r = some k := by
  obtain ⟨f, hf⟩ : ∃ f, m - k = f + 1 := ⟨m - k - 1, by omega⟩
  rw [hf, trF, ho, hl] at h; exact h.symm
theorem trF_next {g : GeoD} {d : DevD} {place n low : Int} {m k : Nat} {r : Option Nat} (h : trF g d place n low (m - k) k = r) (hk : k < m) (ho : trOk g d place n low k = true) (hl : fL (trS g d place k) = false) : trF g d place n low (m - (k + 1)) (k + 1) = r := by
  obtain ⟨f, hf⟩ : ∃ f, m - k = f + 1 := ⟨m - k - 1, by omega⟩
  rw [hf, trF, ho, hl] at h
  rw [show m - (k + 1) = f by omega]; exact h
theorem trF_end {g : GeoD} {d : DevD} {place n low : Int} {m k : Nat} {r : Option Nat} (h : trF g d place n low (m - k) k = r) (hk : m ≤ k) : r = none := by
  rw [show m - k = 0 by omega] at h; exact h.symm
theorem tr_64 {g : GeoD} {d : DevD} {place : Int} (h : devF g d = 0) (hp : 0 ≤ place) (i : Nat) : (trS g d place i).length = 64 := by
  have hO := okR h
  have hB := geoB hO.geo
  have hl := hO.len
  have h1 := tmod_b hB (x := place + i) (by omega)
  have h2 := hB.a1
  have h3 := hB.h1
  exact getR_64 h (by omega) (by omega)
theorem transaction_p (g : GeoD) (d : DevD) (place n low : Int) (room : Nat) (h1 : devF g d = 0) (hp : 0 ≤ place) (hp2 : place < g.ring) (hr : room ≤ 60) : Pure Try.prog 35 [g.av, d.av, I place, I n, I low, I room] (tAv g d place (trR g d place n low room)) := by
  refine pureY_of follows Try.func35 c35_eq r35 (Nat.le_of_ble_eq_true rfl) fun B σ hcl hsz => ?_
  clear hsz
  have hB := geoB (okR h1).geo
  obtain ⟨gr1, gr2, ga1, ga2, gh1, gh2⟩ := id hB
  have q0 : (g.ring = 0) = False := eq_false (by omega)
  have h64 := fun i => tr_64 h1 hp i
  have hlen := trB_len g d place
  have t1 : ∀ i : Nat, decide ((i : Int) < room) = true → IntKind.i64.wrap (place + (i : Int)) = place + (i : Int) := fun i hi => by
    have := ltD hi
    exact IntWalk.i64_in _ (by omega)
  have t2 : ∀ i : Nat, decide ((i : Int) < room) = true → IntKind.i64.wrap (2 + (place + (i : Int)).tmod g.ring) = 2 + (place + (i : Int)).tmod g.ring := fun i hi => by
    have := ltD hi
    have := tmod_b hB (x := place + (i : Int)) (by omega)
    exact IntWalk.i64_in _ (by omega)
  obtain ⟨r, hr0⟩ : ∃ r, trF g d place n low (room - 0) 0 = r := ⟨_, rfl⟩
  have hrr : trR g d place n low room = r := hr0
  rw [hrr]
  repeat' (first | (simp -implicitDefEqProofs only [*, contN, contC, Nat.reduceBEq, Bool.or_false, Bool.or_true, Bool.false_or, Bool.true_or, Bool.not_true, Bool.not_false, w_skip, w_ret, w_exit, w_reg, w_dreg, w_seq, SK_n, SK_r, SK_x, w_keep, w_block, w_cond, w_nil, w_cons, w_consg, w_nnil, w_ncons, w_dnil, w_dcons, w_dconsg, HK_app, HD_app, HQ_n, HQ_r, HQ_x, HQ_bn, HQ_br, HQ_bx, HQ_en, HQ_er, HQ_ex, CondB_true, CondB_false, SO1, w_sdv, SDe_alloc, SDe_box, SDe_bslice, SDe_app, true_imp_iff, false_imp_iff, and_false, false_and, not_false_eq_true, not_true_eq_false, addN, mkNames, killT, killD, killO, List.foldl_nil, List.foldl_cons, List.append_nil, List.nil_append, List.cons_append, GuardS_true, GuardS_false, GuardD_true, GuardD_false, DK_true, DK_false, lt_self_add, le_self_add, decide_true, decide_false, Bool.false_eq_true, Bool.true_eq_false, Nat.add_left_cancel_iff, SE, SEalloc, SEbox, SEstore, w_bs, SEbl, SEfz, SEbs0, fzName, osOf, AV.fz1, w_app, w_mk, aev, opd, Fr.get, putO, Fr.norm, List.map_cons, List.map_nil, with1, with2, onInt, AV.lit, entry, ↓reduceIte, Nat.reduceEqDiff, Nat.reduceAdd, reduceCtorEq, true_and, and_true, Option.map_some, Option.map_none, Option.bind_some, Option.bind_none, cond_true, cond_false, binV, unV, fieldV, loadV, sto, cellsAV, newF, newL, Fr.map, Loc.kill, Loc.set, AO.kill, AV.kill, AV.mapN, AV.mapNL, List.filter_nil, List.filter_cons, allP, EndV, retV, resV, resL, frz, dropL, AV.pick, nilV, tupV, imp_self, ne_eq, Int.cast_ofNat_Int, Int.reduceLT, Int.reduceToNat, List.getD_cons_zero, List.getD_cons_succ, bsliceV, buildV, afill, repl, chunk, rvs, AV.rv, RV.nrm, List.getElem?_nil, List.append_assoc, Nat.reduceMul, Nat.reducePow, Nat.zero_lt_succ, Nat.zero_add, Nat.add_zero, List.length_cons, List.length_nil, Nat.reduceLeDiff, Nat.le_refl, List.take_succ_cons, List.take_zero, List.drop_succ_cons, List.drop_zero, indexV, lenV, rowOf_mapD, rowOf_mapI, rowOf_mapA, List.length_map, Int.toNat_natCast, List.getElem?_cons_zero, List.getElem?_cons_succ, and_self, implies_true, if_true, if_false, HQ_zn, HQ_zr, HQ_wn, HQ_wr, AV.nz, AV.nzL, RV.nrm, SEbin, SEnil, nilK, srcV, dstV, appName, List.length_append, Nat.mul_one, take_map_len, take_map_app, List.getElem?_cons_zero, List.map_append, SEmkmap, SEmset, mgetV, kvOf, getM, setM, c35, r35, v35_1, u35_2, v35_3, v35_4, v35_5, m35_5, v35_6, v35_7, v35_8, v35_9, v35_10, v35_11, v35_12, v35_13, v35_14, v35_15, u35_16, u35_17, v35_18, u35_19, u35_20, u35_21, u35_22, u35_23, u35_24, u35_25, u35_26, u35_27, u35_28, u35_29, u35_30, u35_31, u35_32, u35_33, ty23, ty28, ty3, ty96, ty29, ty4, ty5, GeoD.av, DevD.av, GeoD.cells, DevD.cells, bytes, trE_0, trB_0, frAv, HQ_yn, HQ_yr, Loc.nz, AO.nz, bnd, sliceV, Option.getD_some, Option.getD_none, Rows_byV]) | (with_reducible refine And.intro ?_ ?_) | (refine call_ro e7 ( get_p g d (2 + (place + (k : Int)).tmod g.ring)) rfl ?_ ?_ ?_ ?_) | (refine gcall_ro e7 ( get_p g d (2 + (place + (k : Int)).tmod g.ring)) rfl ?_ ?_ ?_ ?_) | (refine dcall_ro e7 ( get_p g d (2 + (place + (k : Int)).tmod g.ring)) rfl ?_ ?_ ?_ ?_) | (refine gdcall_ro rfl e7 ( get_p g d (2 + (place + (k : Int)).tmod g.ring)) rfl ?_ ?_ ?_ ?_) | (refine call_ro e60 ( frameOf_p (trS g d place k) (h64 k)) rfl ?_ ?_ ?_ ?_) | (refine gcall_ro e60 ( frameOf_p (trS g d place k) (h64 k)) rfl ?_ ?_ ?_ ?_) | (refine dcall_ro e60 ( frameOf_p (trS g d place k) (h64 k)) rfl ?_ ?_ ?_ ?_) | (refine gdcall_ro rfl e60 ( frameOf_p (trS g d place k) (h64 k)) rfl ?_ ?_ ?_ ?_) | (refine loop_nat (room) (fun k => trF g d place n low (room - k) k = r) (fun k => [(7, .lp (B + 7) 0), (6, .lp (B + 6) 0), (2, I place), (3, I n), (4, I low), (5, I room), (18, I k), (16, .os (B + 85) (trB g d place k).length), (17, I (trE g d place k))]) (fun k => [(B + 85, .arr 1 5 ((trB g d place k).map by_)), (B + 6, .box g.cells), (B + 7, .box d.cells)]) ?_ (Wk.trans (Wk.nameF (s := 16) (n := B + 85) (k := 1) (E := 5) rfl (by omega) (.inl (by omega)) (fun m => AO.kill_below (q := fun m => decide (m < B)) (by simp) _ (hcl m).1)) (Wk.keep hcl ?_ ?_ ?_)) fun k hk hF => ?_; rotate_left 1; (focus (simp [Fr.get, newF, Fr.map, AV.kill, AV.mapN, GeoD.av, DevD.av, GeoD.cells, DevD.cells, bytes, trE_0, trB_0, frAv, HQ_yn, HQ_yr, Loc.nz, AO.nz, bnd, sliceV, Option.getD_some, Option.getD_none, Rows_byV] <;> fail)); (focus (simp [sto, newL, Loc.kill, Loc.set, AO.kill, AV.kill, AV.mapN, GeoD.av, DevD.av, GeoD.cells, DevD.cells, bytes, trE_0, trB_0, frAv, HQ_yn, HQ_yr, Loc.nz, AO.nz, bnd, sliceV, Option.getD_some, Option.getD_none, Rows_byV] <;> fail)); (focus (simp [newL, Loc.kill, Loc.set, GeoD.av, DevD.av, GeoD.cells, DevD.cells, bytes, trE_0, trB_0, frAv, HQ_yn, HQ_yr, Loc.nz, AO.nz, bnd, sliceV, Option.getD_some, Option.getD_none, Rows_byV] <;> fail)); (try have hw : IntKind.i64.wrap ((k : Int) + 1) = (k : Int) + 1 := IntWalk.i64_in _ (by omega))) | (refine EndX.plain ?_) | (refine nil_split (fun hn => ?_) (fun hn => ?_)) | (refine gcall_no not_false ?_) | (refine gdcall_no not_false ?_) | (refine GuardS_of _ _ _ _ _ _ (fun hg => ?_) (fun hg => ?_)) | (refine GuardD_of _ _ _ _ (fun hg => ?_) (fun hg => ?_)) | (refine CondB_of _ _ _ _ _ _ _ ?_ (fun hg => ?_) (fun hg => ?_)))
  all_goals (try (first | ((first | unfold noN | unfold Fr.below | unfold Loc.below); simp [Fr.allN, AV.allN, AV.allNL, AO.allN]; done) | rfl | trivial | assumption | (intro row hrow; simp only [List.mem_map] at hrow; obtain ⟨x, _, rfl⟩ := hrow; rfl) | (refine Wk.keep hcl ?_ ?_ ?_; (focus (simp [Fr.get, GeoD.av, DevD.av, GeoD.cells, DevD.cells, bytes, trE_0, trB_0, frAv, HQ_yn, HQ_yr, Loc.nz, AO.nz, bnd, sliceV, Option.getD_some, Option.getD_none, Rows_byV] <;> fail)); (focus (simp [sto, GeoD.av, DevD.av, GeoD.cells, DevD.cells, bytes, trE_0, trB_0, frAv, HQ_yn, HQ_yr, Loc.nz, AO.nz, bnd, sliceV, Option.getD_some, Option.getD_none, Rows_byV] <;> fail)); (focus (simp <;> fail))) | (simp [allP, opd, Fr.get, Fr.below, Fr.allN, AV.allN, AV.allNL, Loc.below, AO.allN, noN, killO, killT, killD, mkNames, AO.kill, AV.kill, AV.mapN, AV.mapNL]; done) | (with_reducible exact ltD (by assumption)) | omega | (simp only [decide_eq_true_eq, decide_eq_false_iff_not] at *; omega)))
  all_goals first
    | (have hk2 := ltD (by assumption : decide ((k : Int) < (room : Int)) = true)
       have h1 := hlen k
       have h2 := fB_len (trS g d place k)
       omega)
    | (have hk2 := ltD (by assumption : decide ((k : Int) < (room : Int)) = true)
       have ho : trOk g d place n low k = false := by unfold trOk; simp only [*, Bool.false_or, Bool.true_or, Bool.or_true, Bool.or_false, Bool.and_true, Bool.true_and, Bool.false_and, Bool.and_false, Bool.not_true, Bool.not_false, cond_true, cond_false]
       rw [trF_no hF hk2 ho]; rfl)
    | (have hk2 := ltD (by assumption : decide ((k : Int) < (room : Int)) = true)
       have ho : trOk g d place n low k = true := by unfold trOk; simp only [*, Bool.false_or, Bool.true_or, Bool.or_true, Bool.or_false, Bool.and_true, Bool.true_and, Bool.false_and, Bool.and_false, Bool.not_true, Bool.not_false, cond_true, cond_false]
       first
       | exact trF_next hF hk2 ho (by assumption)
       | (rw [trF_last hF hk2 ho (by assumption), ← List.map_append, trB_next]; rfl)
       | (rw [show (trB g d place (k + 1)).length = (trB g d place k).length + (fB (trS g d place k)).length by rw [← trB_next, List.length_append], ← trE_next, ← trB_next g d place k, List.map_append]
          refine Wk.keep hcl ?_ ?_ ?_ <;> simp [Fr.get, sto]))
    | (rw [trF_end hF (geD (by assumption))]; rfl)
end Go.Proofs.Ytalhjhmphdgaoaa
