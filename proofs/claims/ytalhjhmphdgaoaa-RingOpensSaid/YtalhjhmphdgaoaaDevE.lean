/- Devices that may be: the reference's check. -/
import Derived.Test.YtalhjhmphdgaoaaDevD
import Derived.Test.YtalhjhmphdgaoaaTypes
namespace Go.Proofs.Ytalhjhmphdgaoaa
open Go.RowKit
set_option maxRecDepth 100000
def c23_1 : SC := (.seq (.reg [SO.mk (some 14) (.move (.tmp 5)) none, SO.mk (some 4) (.move (.tmp 14)) none]) (.keep [4] .ret))
theorem u23_1 : type_of% (@swc _ _ c23_1.eq_1) := @swc _ _ c23_1.eq_1
def c23_2 : SC := (.cond (.tmp 13) c23_1 .skip)
theorem u23_2 : type_of% (@swc _ _ c23_2.eq_1) := @swc _ _ c23_2.eq_1
def o23_3 : List SO := ((SO.mk (some 39) (.un .not (.tmp 38)) (some (35 , false))) :: (SO.mk (some 40) (.pick (.tmp 35) (.const (Value.bool true)) (.tmp 39)) none) :: [])
theorem v23_3 : type_of% (@swd _ _ o23_3.eq_1) := @swd _ _ o23_3.eq_1
def o23_4 : List SO := ((SO.mk (some 35) (.move (.tmp 34)) none) :: (SO.mk (some 36) (.faddr 28 (.tmp 3) 3) (some (35 , false))) :: (SO.mk (some 37) (.load 3 (.tmp 36)) (some (35 , false))) :: (SO.mk (some 38) (.call 24 [(.tmp 37), (.const (Value.int .i64 (-1))), (.const (Value.int .i64 1048576))]) (some (35 , false))) :: o23_3)
theorem v23_4 : type_of% (@swd _ _ o23_4.eq_1) := @swd _ _ o23_4.eq_1
def o23_5 : List SO := ((SO.mk (some 31) (.faddr 23 (.tmp 2) 4) (some (27 , false))) :: (SO.mk (some 32) (.load 3 (.tmp 31)) (some (27 , false))) :: (SO.mk (some 33) (.bin .gtr 3 (.tmp 30) (.tmp 32)) (some (27 , false))) :: (SO.mk (some 34) (.pick (.tmp 27) (.const (Value.bool true)) (.tmp 33)) none) :: o23_4)
theorem v23_5 : type_of% (@swd _ _ o23_5.eq_1) := @swd _ _ o23_5.eq_1
def o23_6 : List SO := ((SO.mk (some 27) (.move (.tmp 26)) none) :: (SO.mk (some 28) (.faddr 28 (.tmp 3) 2) (some (27 , false))) :: (SO.mk (some 29) (.load 26 (.tmp 28)) (some (27 , false))) :: (SO.mk (some 30) (.len 26 (.tmp 29)) (some (27 , false))) :: o23_5)
theorem v23_6 : type_of% (@swd _ _ o23_6.eq_1) := @swd _ _ o23_6.eq_1
def o23_7 : List SO := ((SO.mk (some 23) (.load 25 (.tmp 22)) (some (21 , false))) :: (SO.mk (some 24) (.len 25 (.tmp 23)) (some (21 , false))) :: (SO.mk (some 25) (.bin .gtr 3 (.tmp 24) (.const (Value.int .i64 2000))) (some (21 , false))) :: (SO.mk (some 26) (.pick (.tmp 21) (.const (Value.bool true)) (.tmp 25)) none) :: o23_6)
theorem v23_7 : type_of% (@swd _ _ o23_7.eq_1) := @swd _ _ o23_7.eq_1
def o23_8 : List SO := ((SO.mk (some 19) (.call 55 [(.tmp 18)]) none) :: (SO.mk (some 20) (.bin .neq 3 (.tmp 17) (.tmp 19)) none) :: (SO.mk (some 21) (.move (.tmp 20)) none) :: (SO.mk (some 22) (.faddr 28 (.tmp 3) 1) (some (21 , false))) :: o23_7)
theorem v23_8 : type_of% (@swd _ _ o23_8.eq_1) := @swd _ _ o23_8.eq_1
def o23_9 : List SO := ((SO.mk (some 15) (.faddr 28 (.tmp 3) 0) none) :: (SO.mk (some 16) (.load 24 (.tmp 15)) none) :: (SO.mk (some 17) (.len 24 (.tmp 16)) none) :: (SO.mk (some 18) (.load 23 (.tmp 2)) none) :: o23_8)
theorem v23_9 : type_of% (@swd _ _ o23_9.eq_1) := @swd _ _ o23_9.eq_1
theorem m23_9 (B : Nat) : mkNames B o23_9 = [] := (rfl)
def c23_10 : SC := (.seq (.reg [SO.mk (some 4) (.move (.const (Value.int .i64 9))) none]) (.keep [4] .ret))
theorem u23_10 : type_of% (@swc _ _ c23_10.eq_1) := @swc _ _ c23_10.eq_1
def c23_11 : SC := (.cond (.tmp 40) c23_10 .skip)
theorem u23_11 : type_of% (@swc _ _ c23_11.eq_1) := @swc _ _ c23_11.eq_1
def c23_12 : SC := (.cond (.tmp 45) .skip (.exit 0))
theorem u23_12 : type_of% (@swc _ _ c23_12.eq_1) := @swc _ _ c23_12.eq_1
def o23_13 : List SO := ((SO.mk (some 52) (.load 29 (.tmp 51)) none) :: (SO.mk (some 53) (.len 29 (.tmp 52)) none) :: (SO.mk (some 54) (.bin .neq 3 (.tmp 53) (.const (Value.int .i64 64))) none) :: [])
theorem v23_13 : type_of% (@swl _ _ o23_13.eq_1) := @swl _ _ o23_13.eq_1
def c23_14 : SC := (.seq (.reg [SO.mk (some 4) (.move (.const (Value.int .i64 9))) none]) (.keep [4] .ret))
theorem u23_14 : type_of% (@swc _ _ c23_14.eq_1) := @swc _ _ c23_14.eq_1
def c23_15 : SC := (.cond (.tmp 54) c23_14 .skip)
theorem u23_15 : type_of% (@swc _ _ c23_15.eq_1) := @swc _ _ c23_15.eq_1
def c23_16 : SC := (.reg [SO.mk (some 46) (.move (.tmp 6)) none, SO.mk (some 47) (.bin .add 3 (.tmp 46) (.const (Value.int .i64 1))) none, SO.mk (some 6) (.move (.tmp 47)) none])
theorem u23_16 : type_of% (@swc _ _ c23_16.eq_1) := @swc _ _ c23_16.eq_1
def c23_17 : SC := (.seq (.block 1 (.seq (.reg ((SO.mk (some 48) (.faddr 28 (.tmp 3) 0) none) :: (SO.mk (some 49) (.load 24 (.tmp 48)) none) :: (SO.mk (some 50) (.move (.tmp 6)) none) :: (SO.mk (some 51) (.iaddr 24 (.tmp 49) (.tmp 50)) none) :: o23_13)) (.keep [54, 6, 3, 2] c23_15))) (.keep [6, 3, 2] c23_16))
theorem u23_17 : type_of% (@swc _ _ c23_17.eq_1) := @swc _ _ c23_17.eq_1
def c23_18 : SC := (.seq (.seq (.reg [SO.mk (some 41) (.move (.tmp 6)) none, SO.mk (some 42) (.faddr 28 (.tmp 3) 0) none, SO.mk (some 43) (.load 24 (.tmp 42)) none, SO.mk (some 44) (.len 24 (.tmp 43)) none, SO.mk (some 45) (.bin .lss 3 (.tmp 41) (.tmp 44)) none]) (.keep [45, 6, 3, 2] c23_12)) (.keep [6, 3, 2] c23_17))
theorem u23_18 : type_of% (@swc _ _ c23_18.eq_1) := @swc _ _ c23_18.eq_1
def c23_19 : SC := (.block 0 (.loop (.keep [6, 3, 2] c23_18)))
theorem u23_19 : type_of% (@swc _ _ c23_19.eq_1) := @swc _ _ c23_19.eq_1
def c23_20 : SC := (.cond (.tmp 59) .skip (.exit 2))
theorem u23_20 : type_of% (@swc _ _ c23_20.eq_1) := @swc _ _ c23_20.eq_1
def o23_21 : List SO := ((SO.mk (some 70) (.len 24 (.tmp 69)) none) :: (SO.mk (some 71) (.bin .sub 3 (.tmp 70) (.const (Value.int .i64 1))) none) :: [])
theorem v23_21 : type_of% (@swd _ _ o23_21.eq_1) := @swd _ _ o23_21.eq_1
def o23_22 : List SO := ((SO.mk (some 66) (.faddr 55 (.tmp 65) 0) none) :: (SO.mk (some 67) (.load 3 (.tmp 66)) none) :: (SO.mk (some 68) (.faddr 28 (.tmp 3) 0) none) :: (SO.mk (some 69) (.load 24 (.tmp 68)) none) :: o23_21)
theorem v23_22 : type_of% (@swd _ _ o23_22.eq_1) := @swd _ _ o23_22.eq_1
def o23_23 : List SO := ((SO.mk (some 62) (.faddr 28 (.tmp 3) 1) none) :: (SO.mk (some 63) (.load 25 (.tmp 62)) none) :: (SO.mk (some 64) (.move (.tmp 7)) none) :: (SO.mk (some 65) (.iaddr 25 (.tmp 63) (.tmp 64)) none) :: o23_22)
theorem v23_23 : type_of% (@swd _ _ o23_23.eq_1) := @swd _ _ o23_23.eq_1
theorem m23_23 (B : Nat) : mkNames B o23_23 = [] := (rfl)
def o23_24 : List SO := ((SO.mk (some 80) (.load 29 (.tmp 79)) (some (74 , false))) :: (SO.mk (some 81) (.len 29 (.tmp 80)) (some (74 , false))) :: (SO.mk (some 82) (.bin .neq 3 (.tmp 81) (.const (Value.int .i64 64))) (some (74 , false))) :: (SO.mk (some 83) (.pick (.tmp 74) (.const (Value.bool true)) (.tmp 82)) none) :: [])
theorem v23_24 : type_of% (@swl _ _ o23_24.eq_1) := @swl _ _ o23_24.eq_1
def o23_25 : List SO := ((SO.mk (some 75) (.faddr 28 (.tmp 3) 1) (some (74 , false))) :: (SO.mk (some 76) (.load 25 (.tmp 75)) (some (74 , false))) :: (SO.mk (some 78) (.iaddr 25 (.tmp 76) (.tmp 77)) (some (74 , false))) :: (SO.mk (some 79) (.faddr 55 (.tmp 78) 1) (some (74 , false))) :: o23_24)
theorem v23_25 : type_of% (@swl _ _ o23_25.eq_1) := @swl _ _ o23_25.eq_1
def c23_26 : SC := (.seq (.reg [SO.mk (some 4) (.move (.const (Value.int .i64 9))) none]) (.keep [4] .ret))
theorem u23_26 : type_of% (@swc _ _ c23_26.eq_1) := @swc _ _ c23_26.eq_1
def c23_27 : SC := (.cond (.tmp 83) c23_26 .skip)
theorem u23_27 : type_of% (@swc _ _ c23_27.eq_1) := @swc _ _ c23_27.eq_1
def c23_28 : SC := (.reg [SO.mk (some 60) (.move (.tmp 7)) none, SO.mk (some 61) (.bin .add 3 (.tmp 60) (.const (Value.int .i64 1))) none, SO.mk (some 7) (.move (.tmp 61)) none])
theorem u23_28 : type_of% (@swc _ _ c23_28.eq_1) := @swc _ _ c23_28.eq_1
def c23_29 : SC := (.seq (.block 3 (.seq (.dreg false o23_23 ((SO.mk (some 72) (.call 24 [(.tmp 67), (.const (Value.int .i64 0)), (.tmp 71)]) none) :: (SO.mk (some 73) (.un .not (.tmp 72)) none) :: (SO.mk (some 74) (.move (.tmp 73)) none) :: (SO.mk (some 77) (.move (.tmp 7)) (some (74 , false))) :: o23_25)) (.keep [83, 7, 3, 2] c23_27))) (.keep [7, 3, 2] c23_28))
theorem u23_29 : type_of% (@swc _ _ c23_29.eq_1) := @swc _ _ c23_29.eq_1
def c23_30 : SC := (.seq (.seq (.reg [SO.mk (some 55) (.move (.tmp 7)) none, SO.mk (some 56) (.faddr 28 (.tmp 3) 1) none, SO.mk (some 57) (.load 25 (.tmp 56)) none, SO.mk (some 58) (.len 25 (.tmp 57)) none, SO.mk (some 59) (.bin .lss 3 (.tmp 55) (.tmp 58)) none]) (.keep [59, 7, 3, 2] c23_20)) (.keep [7, 3, 2] c23_29))
theorem u23_30 : type_of% (@swc _ _ c23_30.eq_1) := @swc _ _ c23_30.eq_1
def c23_31 : SC := (.block 2 (.loop (.keep [7, 3, 2] c23_30)))
theorem u23_31 : type_of% (@swc _ _ c23_31.eq_1) := @swc _ _ c23_31.eq_1
def c23_32 : SC := (.cond (.tmp 88) .skip (.exit 4))
theorem u23_32 : type_of% (@swc _ _ c23_32.eq_1) := @swc _ _ c23_32.eq_1
def o23_33 : List SO := ((SO.mk (some 95) (.load 59 (.tmp 94)) none) :: (SO.mk (some 9) (.alloc 59) none) :: (SO.mk none (.store 59 (.tmp 9) (.tmp 95)) none) :: [])
theorem v23_33 : type_of% (@swl _ _ o23_33.eq_1) := @swl _ _ o23_33.eq_1
def o23_34 : List SO := ((SO.mk (some 120) (.pick (.tmp 111) (.const (Value.bool true)) (.tmp 119)) none) :: [])
theorem v23_34 : type_of% (@swl _ _ o23_34.eq_1) := @swl _ _ o23_34.eq_1
def o23_35 : List SO := ((SO.mk (some 116) (.load 29 (.tmp 115)) (some (114 , true))) :: (SO.mk (some 117) (.len 29 (.tmp 116)) (some (114 , true))) :: (SO.mk (some 118) (.bin .gtr 3 (.tmp 117) (.const (Value.int .i64 0))) (some (114 , true))) :: (SO.mk (some 119) (.pick (.tmp 114) (.tmp 118) (.const (Value.bool false))) (some (111 , false))) :: o23_34)
theorem v23_35 : type_of% (@swl _ _ o23_35.eq_1) := @swl _ _ o23_35.eq_1
def o23_36 : List SO := ((SO.mk (some 112) (.faddr 59 (.tmp 9) 2) (some (111 , false))) :: (SO.mk (some 113) (.load 4 (.tmp 112)) (some (111 , false))) :: (SO.mk (some 114) (.move (.tmp 113)) (some (111 , false))) :: (SO.mk (some 115) (.faddr 59 (.tmp 9) 0) (some (114 , true))) :: o23_35)
theorem v23_36 : type_of% (@swl _ _ o23_36.eq_1) := @swl _ _ o23_36.eq_1
def o23_37 : List SO := ((SO.mk (some 108) (.call 24 [(.tmp 104), (.const (Value.int .i64 0)), (.tmp 107)]) (some (102 , false))) :: (SO.mk (some 109) (.un .not (.tmp 108)) (some (102 , false))) :: (SO.mk (some 110) (.pick (.tmp 102) (.const (Value.bool true)) (.tmp 109)) none) :: (SO.mk (some 111) (.move (.tmp 110)) none) :: o23_36)
theorem v23_37 : type_of% (@swl _ _ o23_37.eq_1) := @swl _ _ o23_37.eq_1
def o23_38 : List SO := ((SO.mk (some 104) (.load 3 (.tmp 103)) (some (102 , false))) :: (SO.mk (some 105) (.faddr 59 (.tmp 9) 0) (some (102 , false))) :: (SO.mk (some 106) (.load 29 (.tmp 105)) (some (102 , false))) :: (SO.mk (some 107) (.len 29 (.tmp 106)) (some (102 , false))) :: o23_37)
theorem v23_38 : type_of% (@swl _ _ o23_38.eq_1) := @swl _ _ o23_38.eq_1
def o23_39 : List SO := ((SO.mk (some 100) (.load 3 (.tmp 99)) none) :: (SO.mk (some 101) (.bin .gtr 3 (.tmp 98) (.tmp 100)) none) :: (SO.mk (some 102) (.move (.tmp 101)) none) :: (SO.mk (some 103) (.faddr 59 (.tmp 9) 1) (some (102 , false))) :: o23_38)
theorem v23_39 : type_of% (@swl _ _ o23_39.eq_1) := @swl _ _ o23_39.eq_1
def c23_40 : SC := (.seq (.reg [SO.mk (some 4) (.move (.const (Value.int .i64 9))) none]) (.keep [4] .ret))
theorem u23_40 : type_of% (@swc _ _ c23_40.eq_1) := @swc _ _ c23_40.eq_1
def c23_41 : SC := (.cond (.tmp 120) c23_40 .skip)
theorem u23_41 : type_of% (@swc _ _ c23_41.eq_1) := @swc _ _ c23_41.eq_1
def c23_42 : SC := (.seq (.reg ((SO.mk (some 96) (.faddr 59 (.tmp 9) 0) none) :: (SO.mk (some 97) (.load 29 (.tmp 96)) none) :: (SO.mk (some 98) (.len 29 (.tmp 97)) none) :: (SO.mk (some 99) (.faddr 23 (.tmp 2) 3) none) :: o23_39)) (.keep [120, 8, 2, 3] c23_41))
theorem u23_42 : type_of% (@swc _ _ c23_42.eq_1) := @swc _ _ c23_42.eq_1
def c23_43 : SC := (.reg [SO.mk (some 89) (.move (.tmp 8)) none, SO.mk (some 90) (.bin .add 3 (.tmp 89) (.const (Value.int .i64 1))) none, SO.mk (some 8) (.move (.tmp 90)) none])
theorem u23_43 : type_of% (@swc _ _ c23_43.eq_1) := @swc _ _ c23_43.eq_1
def c23_44 : SC := (.seq (.block 5 (.seq (.reg ((SO.mk (some 91) (.faddr 28 (.tmp 3) 2) none) :: (SO.mk (some 92) (.load 26 (.tmp 91)) none) :: (SO.mk (some 93) (.move (.tmp 8)) none) :: (SO.mk (some 94) (.iaddr 26 (.tmp 92) (.tmp 93)) none) :: o23_33)) (.keep [9, 8, 2, 3] c23_42))) (.keep [8, 2, 3] c23_43))
theorem u23_44 : type_of% (@swc _ _ c23_44.eq_1) := @swc _ _ c23_44.eq_1
def c23_45 : SC := (.seq (.seq (.reg [SO.mk (some 84) (.move (.tmp 8)) none, SO.mk (some 85) (.faddr 28 (.tmp 3) 2) none, SO.mk (some 86) (.load 26 (.tmp 85)) none, SO.mk (some 87) (.len 26 (.tmp 86)) none, SO.mk (some 88) (.bin .lss 3 (.tmp 84) (.tmp 87)) none]) (.keep [88, 3, 2, 8] c23_32)) (.keep [8, 2, 3] c23_44))
theorem u23_45 : type_of% (@swc _ _ c23_45.eq_1) := @swc _ _ c23_45.eq_1
def c23_46 : SC := (.block 4 (.loop (.keep [3, 2, 8] c23_45)))
theorem u23_46 : type_of% (@swc _ _ c23_46.eq_1) := @swc _ _ c23_46.eq_1
def c23_47 : SC := (.seq (.reg [SO.mk (some 4) (.move (.const (Value.int .i64 0))) none]) (.keep [4] .ret))
theorem u23_47 : type_of% (@swc _ _ c23_47.eq_1) := @swc _ _ c23_47.eq_1
def c23_48 : SC := (.seq (.seq (.reg [SO.mk (some 8) (.move (.const (Value.int .i64 0))) none]) (.keep [3, 2, 8] c23_46)) (.keep [] c23_47))
theorem u23_48 : type_of% (@swc _ _ c23_48.eq_1) := @swc _ _ c23_48.eq_1
def c23_49 : SC := (.seq (.seq (.reg [SO.mk (some 7) (.move (.const (Value.int .i64 0))) none]) (.keep [7, 3, 2] c23_31)) (.keep [3, 2] c23_48))
theorem u23_49 : type_of% (@swc _ _ c23_49.eq_1) := @swc _ _ c23_49.eq_1
def c23_50 : SC := (.seq (.seq (.reg [SO.mk (some 6) (.move (.const (Value.int .i64 0))) none]) (.keep [6, 3, 2] c23_19)) (.keep [3, 2] c23_49))
theorem u23_50 : type_of% (@swc _ _ c23_50.eq_1) := @swc _ _ c23_50.eq_1
def c23_51 : SC := (.seq (.seq (.dreg false o23_9 []) (.keep [40, 3, 2] c23_11)) (.keep [3, 2] c23_50))
theorem u23_51 : type_of% (@swc _ _ c23_51.eq_1) := @swc _ _ c23_51.eq_1
def c23_52 : SC := (.seq (.seq (.reg [SO.mk (some 12) (.move (.tmp 5)) none, SO.mk (some 13) (.bin .neq 30 (.tmp 12) (.const (Value.int .i64 0))) none]) (.keep [13, 5, 3, 2] c23_2)) (.keep [3, 2] c23_51))
theorem u23_52 : type_of% (@swc _ _ c23_52.eq_1) := @swc _ _ c23_52.eq_1
def c23_53 : SC := (.seq (.reg [SO.mk (some 10) (.load 23 (.tmp 2)) none, SO.mk (some 11) (.call 54 [(.tmp 10)]) none, SO.mk (some 5) (.move (.tmp 11)) none]) (.keep [5, 3, 2] c23_52))
theorem u23_53 : type_of% (@swc _ _ c23_53.eq_1) := @swc _ _ c23_53.eq_1
def c23 : SC := (.seq (.reg [SO.mk (some 2) (.box 23 (.tmp 0)) none, SO.mk (some 3) (.box 28 (.tmp 1)) none, SO.mk (some 4) (.move (.const (Value.int .i64 0))) none]) (.keep [3, 2] c23_53))
theorem c23_eq : annC Try.f23 = some c23 := by kernel_rfl
theorem r23 : Try.f23.results.toList = [.tmp 4] := by kernel_rfl
theorem e23 : enters Try.prog 23 = true := by kernel_rfl
end Go.Proofs.Ytalhjhmphdgaoaa
namespace Go.Proofs.Ytalhjhmphdgaoaa
open Go.RowKit
set_option maxHeartbeats 4000000
set_option maxRecDepth 20000
attribute [local irreducible] SW SWL SWLn SWD SEcall SEcallv SDv SE SO1 SOg ACalls ACallv Wk EndV
set_option linter.unusedSimpArgs false
set_option linter.unusedVariables false
theorem any_of {α : Type} [Inhabited α] {xs : List α} {p : α → Bool} {k : Nat} (h : k < xs.length) (hp : p xs[k]! = true) : xs.any p = true := by
  rw [List.any_eq_true]; exact ⟨xs[k]!, by simp [h], hp⟩
theorem any_no {α : Type} [Inhabited α] {xs : List α} {p : α → Bool} {k : Nat} (h : xs.length ≤ k) (hF : ∀ i, i < k → p xs[i]! = false) : xs.any p = false := by
  rw [List.any_eq_false]
  intro x hx
  obtain ⟨i, hi, rfl⟩ := List.mem_iff_getElem.1 hx
  have := hF i (by omega)
  simp [hi] at this; simp [this]
theorem all_next {α : Type} [Inhabited α] {xs : List α} {p : α → Bool} {k : Nat} (hF : ∀ i, i < k → p xs[i]! = false) (hp : p xs[k]! = false) : ∀ i, i < k + 1 → p xs[i]! = false := by
  intro i hi
  rcases Nat.lt_or_ge i k with h | h
  · exact hF i h
  · have : i = k := by omega
    subst this; exact hp
theorem dev_sz {d : DevD} (h : d.av.sz) : d.safe.length ≤ 2 ^ 47 ∧ d.cache.length ≤ 2 ^ 47 ∧ d.vols.length ≤ 2 ^ 47 := by
  simp only [DevD.av, AV.sz] at h
  have h1 := h (.d (.ro (d.safe.map secRow))) (by simp)
  have h2 := h (.d (.ro (d.cache.map WrD.row))) (by simp)
  have h3 := h (.d (.ro (d.vols.map VolD.row))) (by simp)
  exact ⟨by simpa using Sized.len h1, by simpa using Sized.len h2, by simpa using Sized.len h3⟩
theorem devFault_p (g : GeoD) (d : DevD) : Pure Try.prog 23 [g.av, d.av] (I (devF g d)) := by
  refine pure_of follows Try.func23 c23_eq r23 (Nat.le_of_ble_eq_true rfl) fun B σ hcl hsz => ?_
  obtain ⟨z1, z2, z3⟩ := dev_sz (hsz d.av (by simp))
  clear hsz
  have hw1 : IntKind.i64.wrap ((d.safe.length : Int) - 1) = (d.safe.length : Int) - 1 := IntWalk.i64_in _ (by omega)
  repeat' (first | (simp -implicitDefEqProofs only [*, contN, contC, Nat.reduceBEq, Bool.or_false, Bool.or_true, Bool.false_or, Bool.true_or, Bool.not_true, Bool.not_false, w_skip, w_ret, w_exit, w_reg, w_dreg, w_seq, SK_n, SK_r, SK_x, w_keep, w_block, w_cond, w_nil, w_cons, w_consg, w_nnil, w_ncons, w_dnil, w_dcons, w_dconsg, HK_app, HD_app, HQ_n, HQ_r, HQ_x, HQ_bn, HQ_br, HQ_bx, HQ_en, HQ_er, HQ_ex, CondB_true, CondB_false, SO1, w_sdv, SDe_alloc, SDe_box, SDe_bslice, SDe_app, true_imp_iff, false_imp_iff, and_false, false_and, not_false_eq_true, not_true_eq_false, addN, mkNames, killT, killD, killO, List.foldl_nil, List.foldl_cons, List.append_nil, List.nil_append, List.cons_append, GuardS_true, GuardS_false, GuardD_true, GuardD_false, DK_true, DK_false, lt_self_add, le_self_add, decide_true, decide_false, Bool.false_eq_true, Bool.true_eq_false, Nat.add_left_cancel_iff, SE, SEalloc, SEbox, SEstore, w_bs, SEbl, SEfz, SEbs0, fzName, osOf, AV.fz1, w_app, w_mk, aev, opd, Fr.get, putO, Fr.norm, List.map_cons, List.map_nil, with1, with2, onInt, AV.lit, entry, ↓reduceIte, Nat.reduceEqDiff, Nat.reduceAdd, reduceCtorEq, true_and, and_true, Option.map_some, Option.map_none, Option.bind_some, Option.bind_none, cond_true, cond_false, binV, unV, fieldV, loadV, sto, cellsAV, newF, newL, Fr.map, Loc.kill, Loc.set, AO.kill, AV.kill, AV.mapN, AV.mapNL, List.filter_nil, List.filter_cons, allP, EndV, retV, resV, resL, frz, dropL, AV.pick, nilV, tupV, imp_self, ne_eq, Int.cast_ofNat_Int, Int.reduceLT, Int.reduceToNat, List.getD_cons_zero, List.getD_cons_succ, bsliceV, buildV, afill, repl, chunk, rvs, AV.rv, RV.nrm, List.getElem?_nil, List.append_assoc, Nat.reduceMul, Nat.reducePow, Nat.zero_lt_succ, Nat.zero_add, Nat.add_zero, List.length_cons, List.length_nil, Nat.reduceLeDiff, Nat.le_refl, List.take_succ_cons, List.take_zero, List.drop_succ_cons, List.drop_zero, indexV, lenV, rowOf_mapD, rowOf_mapI, rowOf_mapA, List.length_map, Int.toNat_natCast, List.getElem?_cons_zero, List.getElem?_cons_succ, and_self, implies_true, if_true, if_false, HQ_zn, HQ_zr, HQ_wn, HQ_wr, AV.nz, AV.nzL, RV.nrm, SEbin, SEnil, nilK, srcV, dstV, appName, List.length_append, Nat.mul_one, take_map_len, take_map_app, List.getElem?_cons_zero, List.map_append, SEmkmap, SEmset, mgetV, kvOf, getM, setM, c23, r23, u23_1, u23_2, v23_3, v23_4, v23_5, v23_6, v23_7, v23_8, v23_9, m23_9, u23_10, u23_11, u23_12, v23_13, u23_14, u23_15, u23_16, u23_17, u23_18, u23_19, u23_20, v23_21, v23_22, v23_23, m23_23, v23_24, v23_25, u23_26, u23_27, u23_28, u23_29, u23_30, u23_31, u23_32, v23_33, v23_34, v23_35, v23_36, v23_37, v23_38, v23_39, u23_40, u23_41, u23_42, u23_43, u23_44, u23_45, u23_46, u23_47, u23_48, u23_49, u23_50, u23_51, u23_52, u23_53, ty23, ty28, ty30, ty24, ty3, ty25, ty26, ty29, ty55, ty59, ty4, ty5, GeoD.av, DevD.av, GeoD.cells, DevD.cells, noN, geoOk_of, secRow, bytes, WrD.row, VolD.row]) | (with_reducible refine And.intro ?_ ?_) | (refine call_ro e54 ( geoFault_p g) rfl ?_ ?_ ?_ ?_) | (refine gcall_ro e54 ( geoFault_p g) rfl ?_ ?_ ?_ ?_) | (refine dcall_ro e54 ( geoFault_p g) rfl ?_ ?_ ?_ ?_) | (refine gdcall_ro rfl e54 ( geoFault_p g) rfl ?_ ?_ ?_ ?_) | (refine call_ro e55 ( sectorsOf_p g) rfl ?_ ?_ ?_ ?_) | (refine gcall_ro e55 ( sectorsOf_p g) rfl ?_ ?_ ?_ ?_) | (refine dcall_ro e55 ( sectorsOf_p g) rfl ?_ ?_ ?_ ?_) | (refine gdcall_ro rfl e55 ( sectorsOf_p g) rfl ?_ ?_ ?_ ?_) | (refine call_ro e24 ( In_p _ _ _) rfl ?_ ?_ ?_ ?_) | (refine gcall_ro e24 ( In_p _ _ _) rfl ?_ ?_ ?_ ?_) | (refine dcall_ro e24 ( In_p _ _ _) rfl ?_ ?_ ?_ ?_) | (refine gdcall_ro rfl e24 ( In_p _ _ _) rfl ?_ ?_ ?_ ?_) | (refine loop_nat (d.safe.length) (fun k => ∀ i, i < k → badS d.safe[i]! = false) (fun k => [(6, I k), (2, .lp (B + 2) 0), (3, .lp (B + 3) 0)]) (fun k => [(B + 2, .box g.cells), (B + 3, .box d.cells)]) ?_ (Wk.keep hcl ?_ ?_ ?_) fun k hk hF => ?_; rotate_left 1; (focus (simp [Fr.get, newF, Fr.map, AV.kill, AV.mapN, GeoD.av, DevD.av, GeoD.cells, DevD.cells, noN, geoOk_of, secRow, bytes, WrD.row, VolD.row] <;> fail)); (focus (simp [sto, newL, Loc.kill, Loc.set, AO.kill, AV.kill, AV.mapN, GeoD.av, DevD.av, GeoD.cells, DevD.cells, noN, geoOk_of, secRow, bytes, WrD.row, VolD.row] <;> fail)); (focus (simp [newL, Loc.kill, Loc.set, GeoD.av, DevD.av, GeoD.cells, DevD.cells, noN, geoOk_of, secRow, bytes, WrD.row, VolD.row] <;> fail)); (try have hw : IntKind.i64.wrap ((k : Int) + 1) = (k : Int) + 1 := IntWalk.i64_in _ (by omega))) | (refine loop_nat (d.cache.length) (fun k => ∀ i, i < k → badW d.safe.length d.cache[i]! = false) (fun k => [(7, I k), (2, .lp (B + 2) 0), (3, .lp (B + 3) 0)]) (fun k => [(B + 2, .box g.cells), (B + 3, .box d.cells)]) ?_ (Wk.keep hcl ?_ ?_ ?_) fun k hk hF => ?_; rotate_left 1; (focus (simp [Fr.get, newF, Fr.map, AV.kill, AV.mapN, GeoD.av, DevD.av, GeoD.cells, DevD.cells, noN, geoOk_of, secRow, bytes, WrD.row, VolD.row] <;> fail)); (focus (simp [sto, newL, Loc.kill, Loc.set, AO.kill, AV.kill, AV.mapN, GeoD.av, DevD.av, GeoD.cells, DevD.cells, noN, geoOk_of, secRow, bytes, WrD.row, VolD.row] <;> fail)); (focus (simp [newL, Loc.kill, Loc.set, GeoD.av, DevD.av, GeoD.cells, DevD.cells, noN, geoOk_of, secRow, bytes, WrD.row, VolD.row] <;> fail)); (try have hw : IntKind.i64.wrap ((k : Int) + 1) = (k : Int) + 1 := IntWalk.i64_in _ (by omega))) | (refine loop_nat (d.vols.length) (fun k => ∀ i, i < k → badV g d.vols[i]! = false) (fun k => [(8, I k), (2, .lp (B + 2) 0), (3, .lp (B + 3) 0)]) (fun k => [(B + 2, .box g.cells), (B + 3, .box d.cells)]) ?_ (Wk.keep hcl ?_ ?_ ?_) fun k hk hF => ?_; rotate_left 1; (focus (simp [Fr.get, newF, Fr.map, AV.kill, AV.mapN, GeoD.av, DevD.av, GeoD.cells, DevD.cells, noN, geoOk_of, secRow, bytes, WrD.row, VolD.row] <;> fail)); (focus (simp [sto, newL, Loc.kill, Loc.set, AO.kill, AV.kill, AV.mapN, GeoD.av, DevD.av, GeoD.cells, DevD.cells, noN, geoOk_of, secRow, bytes, WrD.row, VolD.row] <;> fail)); (focus (simp [newL, Loc.kill, Loc.set, GeoD.av, DevD.av, GeoD.cells, DevD.cells, noN, geoOk_of, secRow, bytes, WrD.row, VolD.row] <;> fail)); (try have hw : IntKind.i64.wrap ((k : Int) + 1) = (k : Int) + 1 := IntWalk.i64_in _ (by omega))) | (refine EndX.plain ?_) | (refine nil_split (fun hn => ?_) (fun hn => ?_)) | (refine gcall_no not_false ?_) | (refine gdcall_no not_false ?_) | (refine GuardS_of _ _ _ _ _ _ (fun hg => ?_) (fun hg => ?_)) | (refine GuardD_of _ _ _ _ (fun hg => ?_) (fun hg => ?_)) | (refine CondB_of _ _ _ _ _ _ _ ?_ (fun hg => ?_) (fun hg => ?_)))
  all_goals (try (first | ((first | unfold noN | unfold Fr.below | unfold Loc.below); simp [Fr.allN, AV.allN, AV.allNL, AO.allN]; done) | rfl | trivial | assumption | (intro row hrow; simp only [List.mem_map] at hrow; obtain ⟨x, _, rfl⟩ := hrow; rfl) | (refine Wk.keep hcl ?_ ?_ ?_; (focus (simp [Fr.get, GeoD.av, DevD.av, GeoD.cells, DevD.cells, noN, geoOk_of, secRow, bytes, WrD.row, VolD.row] <;> fail)); (focus (simp [sto, GeoD.av, DevD.av, GeoD.cells, DevD.cells, noN, geoOk_of, secRow, bytes, WrD.row, VolD.row] <;> fail)); (focus (simp <;> fail))) | (simp [allP, opd, Fr.get, Fr.below, Fr.allN, AV.allN, AV.allNL, Loc.below, AO.allN, noN, killO, killT, killD, mkNames, AO.kill, AV.kill, AV.mapN, AV.mapNL]; done) | (with_reducible exact ltD (by assumption)) | omega | (simp only [decide_eq_true_eq, decide_eq_false_iff_not] at *; omega)))
  all_goals (try (refine all_next hF ?_; (grind [badS, badW, badV, inR])))
  all_goals (try (
    congr 3
    have s1 : d.safe.any badS = false := any_no (geD (by assumption)) (by assumption)
    have s2 : d.cache.any (badW d.safe.length) = false := any_no (geD (by assumption)) (by assumption)
    have s3 : d.vols.any (badV g) = false := any_no (geD (by assumption)) (by assumption)
    have hs := sec_eq (g := g) (by grind)
    simp only [devF, s1, s2, s3, badD, hs]
    (grind [inR])))
  all_goals (try (
    congr 3
    have s1 : d.safe.any badS = false := any_no (geD (by assumption)) (by assumption)
    have s2 : d.cache.any (badW d.safe.length) = false := any_no (geD (by assumption)) (by assumption)
    have s3 : d.vols.any (badV g) = true := any_of (k := k) (ltD (by assumption)) (by grind [badV, inR])
    simp only [devF, s1, s2, s3]
    (grind)))
  all_goals (try (
    congr 3
    have s1 : d.safe.any badS = false := any_no (geD (by assumption)) (by assumption)
    have s2 : d.cache.any (badW d.safe.length) = true := any_of (k := k) (ltD (by assumption)) (by grind [badW, inR])
    simp only [devF, s1, s2]
    (grind)))
  all_goals (try (
    congr 3
    have s1 : d.safe.any badS = true := any_of (k := k) (ltD (by assumption)) (by grind [badS])
    simp only [devF, s1]
    (grind)))
  all_goals (try (
    congr 3
    simp only [devF, badD]
    have hs := sec_eq (g := g)
    (grind [inR, geoF])))
theorem devE_or (g : GeoD) (d : DevD) : devF g d = 0 ∨ ((devF g d == 0) = false ∧ (devF g d != 0) = true) := by
  by_cases h : devF g d = 0
  · exact .inl h
  · exact .inr ⟨by simpa using h, by simpa using h⟩
end Go.Proofs.Ytalhjhmphdgaoaa
