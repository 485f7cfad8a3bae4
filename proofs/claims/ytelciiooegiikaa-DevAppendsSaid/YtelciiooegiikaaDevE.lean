/- Devices that may be: the reference's check. -/
import Derived.Test.YtelciiooegiikaaDevD
import Derived.Test.YtelciiooegiikaaTypes
namespace Go.Proofs.Ytelciiooegiikaa
open Go.RowKit
set_option maxRecDepth 100000
def c13_1 : SC := (.seq (.reg [SO.mk (some 14) (.move (.tmp 5)) none, SO.mk (some 4) (.move (.tmp 14)) none]) (.keep [4] .ret))
theorem u13_1 : type_of% (@swc _ _ c13_1.eq_1) := @swc _ _ c13_1.eq_1
def c13_2 : SC := (.cond (.tmp 13) c13_1 .skip)
theorem u13_2 : type_of% (@swc _ _ c13_2.eq_1) := @swc _ _ c13_2.eq_1
def o13_3 : List SO := ((SO.mk (some 39) (.un .not (.tmp 38)) (some (35 , false))) :: (SO.mk (some 40) (.pick (.tmp 35) (.const (Value.bool true)) (.tmp 39)) none) :: [])
theorem v13_3 : type_of% (@swd _ _ o13_3.eq_1) := @swd _ _ o13_3.eq_1
def o13_4 : List SO := ((SO.mk (some 35) (.move (.tmp 34)) none) :: (SO.mk (some 36) (.faddr 28 (.tmp 3) 3) (some (35 , false))) :: (SO.mk (some 37) (.load 3 (.tmp 36)) (some (35 , false))) :: (SO.mk (some 38) (.call 28 [(.tmp 37), (.const (Value.int .i64 (-1))), (.const (Value.int .i64 1048576))]) (some (35 , false))) :: o13_3)
theorem v13_4 : type_of% (@swd _ _ o13_4.eq_1) := @swd _ _ o13_4.eq_1
def o13_5 : List SO := ((SO.mk (some 31) (.faddr 23 (.tmp 2) 4) (some (27 , false))) :: (SO.mk (some 32) (.load 3 (.tmp 31)) (some (27 , false))) :: (SO.mk (some 33) (.bin .gtr 3 (.tmp 30) (.tmp 32)) (some (27 , false))) :: (SO.mk (some 34) (.pick (.tmp 27) (.const (Value.bool true)) (.tmp 33)) none) :: o13_4)
theorem v13_5 : type_of% (@swd _ _ o13_5.eq_1) := @swd _ _ o13_5.eq_1
def o13_6 : List SO := ((SO.mk (some 27) (.move (.tmp 26)) none) :: (SO.mk (some 28) (.faddr 28 (.tmp 3) 2) (some (27 , false))) :: (SO.mk (some 29) (.load 26 (.tmp 28)) (some (27 , false))) :: (SO.mk (some 30) (.len 26 (.tmp 29)) (some (27 , false))) :: o13_5)
theorem v13_6 : type_of% (@swd _ _ o13_6.eq_1) := @swd _ _ o13_6.eq_1
def o13_7 : List SO := ((SO.mk (some 23) (.load 25 (.tmp 22)) (some (21 , false))) :: (SO.mk (some 24) (.len 25 (.tmp 23)) (some (21 , false))) :: (SO.mk (some 25) (.bin .gtr 3 (.tmp 24) (.const (Value.int .i64 2000))) (some (21 , false))) :: (SO.mk (some 26) (.pick (.tmp 21) (.const (Value.bool true)) (.tmp 25)) none) :: o13_6)
theorem v13_7 : type_of% (@swd _ _ o13_7.eq_1) := @swd _ _ o13_7.eq_1
def o13_8 : List SO := ((SO.mk (some 19) (.call 27 [(.tmp 18)]) none) :: (SO.mk (some 20) (.bin .neq 3 (.tmp 17) (.tmp 19)) none) :: (SO.mk (some 21) (.move (.tmp 20)) none) :: (SO.mk (some 22) (.faddr 28 (.tmp 3) 1) (some (21 , false))) :: o13_7)
theorem v13_8 : type_of% (@swd _ _ o13_8.eq_1) := @swd _ _ o13_8.eq_1
def o13_9 : List SO := ((SO.mk (some 15) (.faddr 28 (.tmp 3) 0) none) :: (SO.mk (some 16) (.load 24 (.tmp 15)) none) :: (SO.mk (some 17) (.len 24 (.tmp 16)) none) :: (SO.mk (some 18) (.load 23 (.tmp 2)) none) :: o13_8)
theorem v13_9 : type_of% (@swd _ _ o13_9.eq_1) := @swd _ _ o13_9.eq_1
theorem m13_9 (B : Nat) : mkNames B o13_9 = [] := (rfl)
def c13_10 : SC := (.seq (.reg [SO.mk (some 4) (.move (.const (Value.int .i64 9))) none]) (.keep [4] .ret))
theorem u13_10 : type_of% (@swc _ _ c13_10.eq_1) := @swc _ _ c13_10.eq_1
def c13_11 : SC := (.cond (.tmp 40) c13_10 .skip)
theorem u13_11 : type_of% (@swc _ _ c13_11.eq_1) := @swc _ _ c13_11.eq_1
def c13_12 : SC := (.cond (.tmp 45) .skip (.exit 0))
theorem u13_12 : type_of% (@swc _ _ c13_12.eq_1) := @swc _ _ c13_12.eq_1
def o13_13 : List SO := ((SO.mk (some 52) (.load 29 (.tmp 51)) none) :: (SO.mk (some 53) (.len 29 (.tmp 52)) none) :: (SO.mk (some 54) (.bin .neq 3 (.tmp 53) (.const (Value.int .i64 64))) none) :: [])
theorem v13_13 : type_of% (@swl _ _ o13_13.eq_1) := @swl _ _ o13_13.eq_1
def c13_14 : SC := (.seq (.reg [SO.mk (some 4) (.move (.const (Value.int .i64 9))) none]) (.keep [4] .ret))
theorem u13_14 : type_of% (@swc _ _ c13_14.eq_1) := @swc _ _ c13_14.eq_1
def c13_15 : SC := (.cond (.tmp 54) c13_14 .skip)
theorem u13_15 : type_of% (@swc _ _ c13_15.eq_1) := @swc _ _ c13_15.eq_1
def c13_16 : SC := (.reg [SO.mk (some 46) (.move (.tmp 6)) none, SO.mk (some 47) (.bin .add 3 (.tmp 46) (.const (Value.int .i64 1))) none, SO.mk (some 6) (.move (.tmp 47)) none])
theorem u13_16 : type_of% (@swc _ _ c13_16.eq_1) := @swc _ _ c13_16.eq_1
def c13_17 : SC := (.seq (.block 1 (.seq (.reg ((SO.mk (some 48) (.faddr 28 (.tmp 3) 0) none) :: (SO.mk (some 49) (.load 24 (.tmp 48)) none) :: (SO.mk (some 50) (.move (.tmp 6)) none) :: (SO.mk (some 51) (.iaddr 24 (.tmp 49) (.tmp 50)) none) :: o13_13)) (.keep [54, 6, 3, 2] c13_15))) (.keep [6, 3, 2] c13_16))
theorem u13_17 : type_of% (@swc _ _ c13_17.eq_1) := @swc _ _ c13_17.eq_1
def c13_18 : SC := (.seq (.seq (.reg [SO.mk (some 41) (.move (.tmp 6)) none, SO.mk (some 42) (.faddr 28 (.tmp 3) 0) none, SO.mk (some 43) (.load 24 (.tmp 42)) none, SO.mk (some 44) (.len 24 (.tmp 43)) none, SO.mk (some 45) (.bin .lss 3 (.tmp 41) (.tmp 44)) none]) (.keep [45, 6, 3, 2] c13_12)) (.keep [6, 3, 2] c13_17))
theorem u13_18 : type_of% (@swc _ _ c13_18.eq_1) := @swc _ _ c13_18.eq_1
def c13_19 : SC := (.block 0 (.loop (.keep [6, 3, 2] c13_18)))
theorem u13_19 : type_of% (@swc _ _ c13_19.eq_1) := @swc _ _ c13_19.eq_1
def c13_20 : SC := (.cond (.tmp 59) .skip (.exit 2))
theorem u13_20 : type_of% (@swc _ _ c13_20.eq_1) := @swc _ _ c13_20.eq_1
def o13_21 : List SO := ((SO.mk (some 70) (.len 24 (.tmp 69)) none) :: (SO.mk (some 71) (.bin .sub 3 (.tmp 70) (.const (Value.int .i64 1))) none) :: [])
theorem v13_21 : type_of% (@swd _ _ o13_21.eq_1) := @swd _ _ o13_21.eq_1
def o13_22 : List SO := ((SO.mk (some 66) (.faddr 39 (.tmp 65) 0) none) :: (SO.mk (some 67) (.load 3 (.tmp 66)) none) :: (SO.mk (some 68) (.faddr 28 (.tmp 3) 0) none) :: (SO.mk (some 69) (.load 24 (.tmp 68)) none) :: o13_21)
theorem v13_22 : type_of% (@swd _ _ o13_22.eq_1) := @swd _ _ o13_22.eq_1
def o13_23 : List SO := ((SO.mk (some 62) (.faddr 28 (.tmp 3) 1) none) :: (SO.mk (some 63) (.load 25 (.tmp 62)) none) :: (SO.mk (some 64) (.move (.tmp 7)) none) :: (SO.mk (some 65) (.iaddr 25 (.tmp 63) (.tmp 64)) none) :: o13_22)
theorem v13_23 : type_of% (@swd _ _ o13_23.eq_1) := @swd _ _ o13_23.eq_1
theorem m13_23 (B : Nat) : mkNames B o13_23 = [] := (rfl)
def o13_24 : List SO := ((SO.mk (some 80) (.load 29 (.tmp 79)) (some (74 , false))) :: (SO.mk (some 81) (.len 29 (.tmp 80)) (some (74 , false))) :: (SO.mk (some 82) (.bin .neq 3 (.tmp 81) (.const (Value.int .i64 64))) (some (74 , false))) :: (SO.mk (some 83) (.pick (.tmp 74) (.const (Value.bool true)) (.tmp 82)) none) :: [])
theorem v13_24 : type_of% (@swl _ _ o13_24.eq_1) := @swl _ _ o13_24.eq_1
def o13_25 : List SO := ((SO.mk (some 75) (.faddr 28 (.tmp 3) 1) (some (74 , false))) :: (SO.mk (some 76) (.load 25 (.tmp 75)) (some (74 , false))) :: (SO.mk (some 78) (.iaddr 25 (.tmp 76) (.tmp 77)) (some (74 , false))) :: (SO.mk (some 79) (.faddr 39 (.tmp 78) 1) (some (74 , false))) :: o13_24)
theorem v13_25 : type_of% (@swl _ _ o13_25.eq_1) := @swl _ _ o13_25.eq_1
def c13_26 : SC := (.seq (.reg [SO.mk (some 4) (.move (.const (Value.int .i64 9))) none]) (.keep [4] .ret))
theorem u13_26 : type_of% (@swc _ _ c13_26.eq_1) := @swc _ _ c13_26.eq_1
def c13_27 : SC := (.cond (.tmp 83) c13_26 .skip)
theorem u13_27 : type_of% (@swc _ _ c13_27.eq_1) := @swc _ _ c13_27.eq_1
def c13_28 : SC := (.reg [SO.mk (some 60) (.move (.tmp 7)) none, SO.mk (some 61) (.bin .add 3 (.tmp 60) (.const (Value.int .i64 1))) none, SO.mk (some 7) (.move (.tmp 61)) none])
theorem u13_28 : type_of% (@swc _ _ c13_28.eq_1) := @swc _ _ c13_28.eq_1
def c13_29 : SC := (.seq (.block 3 (.seq (.dreg false o13_23 ((SO.mk (some 72) (.call 28 [(.tmp 67), (.const (Value.int .i64 0)), (.tmp 71)]) none) :: (SO.mk (some 73) (.un .not (.tmp 72)) none) :: (SO.mk (some 74) (.move (.tmp 73)) none) :: (SO.mk (some 77) (.move (.tmp 7)) (some (74 , false))) :: o13_25)) (.keep [83, 7, 3, 2] c13_27))) (.keep [7, 3, 2] c13_28))
theorem u13_29 : type_of% (@swc _ _ c13_29.eq_1) := @swc _ _ c13_29.eq_1
def c13_30 : SC := (.seq (.seq (.reg [SO.mk (some 55) (.move (.tmp 7)) none, SO.mk (some 56) (.faddr 28 (.tmp 3) 1) none, SO.mk (some 57) (.load 25 (.tmp 56)) none, SO.mk (some 58) (.len 25 (.tmp 57)) none, SO.mk (some 59) (.bin .lss 3 (.tmp 55) (.tmp 58)) none]) (.keep [59, 7, 3, 2] c13_20)) (.keep [7, 3, 2] c13_29))
theorem u13_30 : type_of% (@swc _ _ c13_30.eq_1) := @swc _ _ c13_30.eq_1
def c13_31 : SC := (.block 2 (.loop (.keep [7, 3, 2] c13_30)))
theorem u13_31 : type_of% (@swc _ _ c13_31.eq_1) := @swc _ _ c13_31.eq_1
def c13_32 : SC := (.cond (.tmp 88) .skip (.exit 4))
theorem u13_32 : type_of% (@swc _ _ c13_32.eq_1) := @swc _ _ c13_32.eq_1
def o13_33 : List SO := ((SO.mk (some 95) (.load 41 (.tmp 94)) none) :: (SO.mk (some 9) (.alloc 41) none) :: (SO.mk none (.store 41 (.tmp 9) (.tmp 95)) none) :: [])
theorem v13_33 : type_of% (@swl _ _ o13_33.eq_1) := @swl _ _ o13_33.eq_1
def o13_34 : List SO := ((SO.mk (some 120) (.pick (.tmp 111) (.const (Value.bool true)) (.tmp 119)) none) :: [])
theorem v13_34 : type_of% (@swl _ _ o13_34.eq_1) := @swl _ _ o13_34.eq_1
def o13_35 : List SO := ((SO.mk (some 116) (.load 29 (.tmp 115)) (some (114 , true))) :: (SO.mk (some 117) (.len 29 (.tmp 116)) (some (114 , true))) :: (SO.mk (some 118) (.bin .gtr 3 (.tmp 117) (.const (Value.int .i64 0))) (some (114 , true))) :: (SO.mk (some 119) (.pick (.tmp 114) (.tmp 118) (.const (Value.bool false))) (some (111 , false))) :: o13_34)
theorem v13_35 : type_of% (@swl _ _ o13_35.eq_1) := @swl _ _ o13_35.eq_1
def o13_36 : List SO := ((SO.mk (some 112) (.faddr 41 (.tmp 9) 2) (some (111 , false))) :: (SO.mk (some 113) (.load 4 (.tmp 112)) (some (111 , false))) :: (SO.mk (some 114) (.move (.tmp 113)) (some (111 , false))) :: (SO.mk (some 115) (.faddr 41 (.tmp 9) 0) (some (114 , true))) :: o13_35)
theorem v13_36 : type_of% (@swl _ _ o13_36.eq_1) := @swl _ _ o13_36.eq_1
def o13_37 : List SO := ((SO.mk (some 108) (.call 28 [(.tmp 104), (.const (Value.int .i64 0)), (.tmp 107)]) (some (102 , false))) :: (SO.mk (some 109) (.un .not (.tmp 108)) (some (102 , false))) :: (SO.mk (some 110) (.pick (.tmp 102) (.const (Value.bool true)) (.tmp 109)) none) :: (SO.mk (some 111) (.move (.tmp 110)) none) :: o13_36)
theorem v13_37 : type_of% (@swl _ _ o13_37.eq_1) := @swl _ _ o13_37.eq_1
def o13_38 : List SO := ((SO.mk (some 104) (.load 3 (.tmp 103)) (some (102 , false))) :: (SO.mk (some 105) (.faddr 41 (.tmp 9) 0) (some (102 , false))) :: (SO.mk (some 106) (.load 29 (.tmp 105)) (some (102 , false))) :: (SO.mk (some 107) (.len 29 (.tmp 106)) (some (102 , false))) :: o13_37)
theorem v13_38 : type_of% (@swl _ _ o13_38.eq_1) := @swl _ _ o13_38.eq_1
def o13_39 : List SO := ((SO.mk (some 100) (.load 3 (.tmp 99)) none) :: (SO.mk (some 101) (.bin .gtr 3 (.tmp 98) (.tmp 100)) none) :: (SO.mk (some 102) (.move (.tmp 101)) none) :: (SO.mk (some 103) (.faddr 41 (.tmp 9) 1) (some (102 , false))) :: o13_38)
theorem v13_39 : type_of% (@swl _ _ o13_39.eq_1) := @swl _ _ o13_39.eq_1
def c13_40 : SC := (.seq (.reg [SO.mk (some 4) (.move (.const (Value.int .i64 9))) none]) (.keep [4] .ret))
theorem u13_40 : type_of% (@swc _ _ c13_40.eq_1) := @swc _ _ c13_40.eq_1
def c13_41 : SC := (.cond (.tmp 120) c13_40 .skip)
theorem u13_41 : type_of% (@swc _ _ c13_41.eq_1) := @swc _ _ c13_41.eq_1
def c13_42 : SC := (.seq (.reg ((SO.mk (some 96) (.faddr 41 (.tmp 9) 0) none) :: (SO.mk (some 97) (.load 29 (.tmp 96)) none) :: (SO.mk (some 98) (.len 29 (.tmp 97)) none) :: (SO.mk (some 99) (.faddr 23 (.tmp 2) 3) none) :: o13_39)) (.keep [120, 8, 2, 3] c13_41))
theorem u13_42 : type_of% (@swc _ _ c13_42.eq_1) := @swc _ _ c13_42.eq_1
def c13_43 : SC := (.reg [SO.mk (some 89) (.move (.tmp 8)) none, SO.mk (some 90) (.bin .add 3 (.tmp 89) (.const (Value.int .i64 1))) none, SO.mk (some 8) (.move (.tmp 90)) none])
theorem u13_43 : type_of% (@swc _ _ c13_43.eq_1) := @swc _ _ c13_43.eq_1
def c13_44 : SC := (.seq (.block 5 (.seq (.reg ((SO.mk (some 91) (.faddr 28 (.tmp 3) 2) none) :: (SO.mk (some 92) (.load 26 (.tmp 91)) none) :: (SO.mk (some 93) (.move (.tmp 8)) none) :: (SO.mk (some 94) (.iaddr 26 (.tmp 92) (.tmp 93)) none) :: o13_33)) (.keep [9, 8, 2, 3] c13_42))) (.keep [8, 2, 3] c13_43))
theorem u13_44 : type_of% (@swc _ _ c13_44.eq_1) := @swc _ _ c13_44.eq_1
def c13_45 : SC := (.seq (.seq (.reg [SO.mk (some 84) (.move (.tmp 8)) none, SO.mk (some 85) (.faddr 28 (.tmp 3) 2) none, SO.mk (some 86) (.load 26 (.tmp 85)) none, SO.mk (some 87) (.len 26 (.tmp 86)) none, SO.mk (some 88) (.bin .lss 3 (.tmp 84) (.tmp 87)) none]) (.keep [88, 3, 2, 8] c13_32)) (.keep [8, 2, 3] c13_44))
theorem u13_45 : type_of% (@swc _ _ c13_45.eq_1) := @swc _ _ c13_45.eq_1
def c13_46 : SC := (.block 4 (.loop (.keep [3, 2, 8] c13_45)))
theorem u13_46 : type_of% (@swc _ _ c13_46.eq_1) := @swc _ _ c13_46.eq_1
def c13_47 : SC := (.seq (.reg [SO.mk (some 4) (.move (.const (Value.int .i64 0))) none]) (.keep [4] .ret))
theorem u13_47 : type_of% (@swc _ _ c13_47.eq_1) := @swc _ _ c13_47.eq_1
def c13_48 : SC := (.seq (.seq (.reg [SO.mk (some 8) (.move (.const (Value.int .i64 0))) none]) (.keep [3, 2, 8] c13_46)) (.keep [] c13_47))
theorem u13_48 : type_of% (@swc _ _ c13_48.eq_1) := @swc _ _ c13_48.eq_1
def c13_49 : SC := (.seq (.seq (.reg [SO.mk (some 7) (.move (.const (Value.int .i64 0))) none]) (.keep [7, 3, 2] c13_31)) (.keep [3, 2] c13_48))
theorem u13_49 : type_of% (@swc _ _ c13_49.eq_1) := @swc _ _ c13_49.eq_1
def c13_50 : SC := (.seq (.seq (.reg [SO.mk (some 6) (.move (.const (Value.int .i64 0))) none]) (.keep [6, 3, 2] c13_19)) (.keep [3, 2] c13_49))
theorem u13_50 : type_of% (@swc _ _ c13_50.eq_1) := @swc _ _ c13_50.eq_1
def c13_51 : SC := (.seq (.seq (.dreg false o13_9 []) (.keep [40, 3, 2] c13_11)) (.keep [3, 2] c13_50))
theorem u13_51 : type_of% (@swc _ _ c13_51.eq_1) := @swc _ _ c13_51.eq_1
def c13_52 : SC := (.seq (.seq (.reg [SO.mk (some 12) (.move (.tmp 5)) none, SO.mk (some 13) (.bin .neq 31 (.tmp 12) (.const (Value.int .i64 0))) none]) (.keep [13, 5, 3, 2] c13_2)) (.keep [3, 2] c13_51))
theorem u13_52 : type_of% (@swc _ _ c13_52.eq_1) := @swc _ _ c13_52.eq_1
def c13_53 : SC := (.seq (.reg [SO.mk (some 10) (.load 23 (.tmp 2)) none, SO.mk (some 11) (.call 26 [(.tmp 10)]) none, SO.mk (some 5) (.move (.tmp 11)) none]) (.keep [5, 3, 2] c13_52))
theorem u13_53 : type_of% (@swc _ _ c13_53.eq_1) := @swc _ _ c13_53.eq_1
def c13 : SC := (.seq (.reg [SO.mk (some 2) (.box 23 (.tmp 0)) none, SO.mk (some 3) (.box 28 (.tmp 1)) none, SO.mk (some 4) (.move (.const (Value.int .i64 0))) none]) (.keep [3, 2] c13_53))
theorem c13_eq : annC Try.f13 = some c13 := by kernel_rfl
theorem r13 : Try.f13.results.toList = [.tmp 4] := by kernel_rfl
theorem e13 : enters Try.prog 13 = true := by kernel_rfl
end Go.Proofs.Ytelciiooegiikaa
namespace Go.Proofs.Ytelciiooegiikaa
open Go.RowKit
set_option maxHeartbeats 4000000
set_option maxRecDepth 20000
attribute [local irreducible] SW OSW SWL SWLn SWD SEcall SEcallv SDv SE SO1 SOg ACalls ACallv Wk EndV
set_option linter.unusedSimpArgs false
set_option linter.unusedVariables false
theorem any_of {α : Type} [Inhabited α] {xs : List α} {p : α → Bool} {k : Nat} (h : k < xs.length) (hp : p xs[k]! = true) : xs.any p = true := by
  rw [List.any_eq_true]; exact ⟨xs[k]!, by simp [h], hp⟩
theorem any_no {α : Type} [Inhabited α] {xs : List α} {p : α → Bool} {k : Nat} (h : xs.length ≤ k) (hF : ∀ i, i < k → p xs[i]! = false) : xs.any p = false := by
  rw [List.any_eq_false]
  intro x hx
  obtain ⟨i, hi, rfl⟩ := List.mem_iff_getElem.1 hx
  have := hF i (by omega)
  simp [hi] at this; simp [this]
theorem all_next {α : Type} [Inhabited α] {xs : List α} {p : α → Bool} {k : Nat} (hF : ∀ i, i < k → p xs[i]! = false) (hp : p xs[k]! = false) : ∀ i, i < k + 1 → p xs[i]! = false := by
  intro i hi
  rcases Nat.lt_or_ge i k with h | h
  · exact hF i h
  · have : i = k := by omega
    subst this; exact hp
theorem dev_sz {d : DevD} (h : d.av.sz) : d.safe.length ≤ 2 ^ 47 ∧ d.cache.length ≤ 2 ^ 47 ∧ d.vols.length ≤ 2 ^ 47 := by
  simp only [DevD.av, AV.sz] at h
  have h1 := h (.d (.ro (d.safe.map secRow))) (by simp)
  have h2 := h (.d (.ro (d.cache.map WrD.row))) (by simp)
  have h3 := h (.d (.ro (d.vols.map VolD.row))) (by simp)
  exact ⟨by simpa using Sized.len h1, by simpa using Sized.len h2, by simpa using Sized.len h3⟩
theorem devFault_p (g : GeoD) (d : DevD) : Pure Try.prog 13 [g.av, d.av] (I (devF g d)) := by
  refine pure_of follows Try.func13 c13_eq r13 (Nat.le_of_ble_eq_true rfl) fun B σ hcl hsz => ?_
  obtain ⟨z1, z2, z3⟩ := dev_sz (hsz d.av (by simp))
  clear hsz
  have hw1 : IntKind.i64.wrap ((d.safe.length : Int) - 1) = (d.safe.length : Int) - 1 := IntWalk.i64_in _ (by omega)
  repeat' (first | (simp -implicitDefEqProofs only [*, contN, contC, Nat.reduceBEq, Bool.or_false, Bool.or_true, Bool.false_or, Bool.true_or, Bool.not_true, Bool.not_false, SEconv, w_skip, w_ret, w_exit, w_reg, w_dreg, w_oreg, HO_app, w_odone, w_onil, w_ofst, w_obr, w_seq, SK_n, SK_r, SK_x, w_keep, w_block, w_cond, w_nil, w_cons, w_consg, w_nnil, w_ncons, w_dnil, w_dcons, w_dconsg, HK_app, HD_app, HQ_n, HQ_r, HQ_x, HQ_bn, HQ_br, HQ_bx, HQ_en, HQ_er, HQ_ex, CondB_true, CondB_false, SO1, w_sdv, SDe_alloc, SDe_box, SDe_bslice, SDe_app, true_imp_iff, false_imp_iff, and_false, false_and, not_false_eq_true, not_true_eq_false, addN, mkNames, killT, killD, killO, List.foldl_nil, List.foldl_cons, List.append_nil, List.nil_append, List.cons_append, GuardS_true, GuardS_false, GuardD_true, GuardD_false, DK_true, DK_false, lt_self_add, le_self_add, decide_true, decide_false, Bool.false_eq_true, Bool.true_eq_false, Nat.add_left_cancel_iff, SE, SEalloc, SEbox, SEstore, w_bs, SEbl, SEfz, SEbs0, fzName, osOf, AV.fz1, w_app, w_mk, aev, opd, Fr.get, putO, Fr.norm, List.map_cons, List.map_nil, with1, with2, onInt, AV.lit, entry, ↓reduceIte, Nat.reduceEqDiff, Nat.reduceAdd, reduceCtorEq, true_and, and_true, Option.map_some, Option.map_none, Option.bind_some, Option.bind_none, cond_true, cond_false, binV, unV, fieldV, loadV, sto, cellsAV, newF, newL, Fr.map, Loc.kill, Loc.set, AO.kill, AV.kill, AV.mapN, AV.mapNL, List.filter_nil, List.filter_cons, allP, EndV, retV, resV, resL, frz, dropL, AV.pick, nilV, tupV, imp_self, ne_eq, Int.cast_ofNat_Int, Int.reduceLT, Int.reduceToNat, List.getD_cons_zero, List.getD_cons_succ, bsliceV, buildV, afill, repl, chunk, rvs, AV.rv, RV.nrm, List.getElem?_nil, List.append_assoc, Nat.reduceMul, Nat.reducePow, Nat.zero_lt_succ, Nat.zero_add, Nat.add_zero, List.length_cons, List.length_nil, Nat.reduceLeDiff, Nat.le_refl, List.take_succ_cons, List.take_zero, List.drop_succ_cons, List.drop_zero, indexV, lenV, rowOf_mapD, rowOf_mapI, rowOf_mapA, List.length_map, Int.toNat_natCast, List.getElem?_cons_zero, List.getElem?_cons_succ, and_self, implies_true, if_true, if_false, HQ_zn, HQ_zr, HQ_wn, HQ_wr, AV.nz, AV.nzL, RV.nrm, SEbin, SEnil, nilK, srcV, dstV, appName, List.length_append, Nat.mul_one, take_map_len, take_map_app, List.getElem?_cons_zero, List.map_append, SEmkmap, SEmset, mgetV, kvOf, getM, setM, w_bsH, SEapA, SEapB, bsliceA, c13, r13, u13_1, u13_2, v13_3, v13_4, v13_5, v13_6, v13_7, v13_8, v13_9, m13_9, u13_10, u13_11, u13_12, v13_13, u13_14, u13_15, u13_16, u13_17, u13_18, u13_19, u13_20, v13_21, v13_22, v13_23, m13_23, v13_24, v13_25, u13_26, u13_27, u13_28, u13_29, u13_30, u13_31, u13_32, v13_33, v13_34, v13_35, v13_36, v13_37, v13_38, v13_39, u13_40, u13_41, u13_42, u13_43, u13_44, u13_45, u13_46, u13_47, u13_48, u13_49, u13_50, u13_51, u13_52, u13_53, ty23, ty28, ty31, ty24, ty3, ty25, ty26, ty29, ty39, ty41, ty4, ty5, GeoD.av, DevD.av, GeoD.cells, DevD.cells, noN, geoOk_of, secRow, bytes, WrD.row, VolD.row]) | (with_reducible refine And.intro ?_ ?_) | (refine call_ro e26 ( geoFault_p g) rfl ?_ ?_ ?_ ?_) | (refine gcall_ro e26 ( geoFault_p g) rfl ?_ ?_ ?_ ?_) | (refine dcall_ro e26 ( geoFault_p g) rfl ?_ ?_ ?_ ?_) | (refine gdcall_ro rfl e26 ( geoFault_p g) rfl ?_ ?_ ?_ ?_) | (refine call_ro e27 ( sectorsOf_p g) rfl ?_ ?_ ?_ ?_) | (refine gcall_ro e27 ( sectorsOf_p g) rfl ?_ ?_ ?_ ?_) | (refine dcall_ro e27 ( sectorsOf_p g) rfl ?_ ?_ ?_ ?_) | (refine gdcall_ro rfl e27 ( sectorsOf_p g) rfl ?_ ?_ ?_ ?_) | (refine call_ro e28 ( In_p _ _ _) rfl ?_ ?_ ?_ ?_) | (refine gcall_ro e28 ( In_p _ _ _) rfl ?_ ?_ ?_ ?_) | (refine dcall_ro e28 ( In_p _ _ _) rfl ?_ ?_ ?_ ?_) | (refine gdcall_ro rfl e28 ( In_p _ _ _) rfl ?_ ?_ ?_ ?_) | (refine loop_nat (d.safe.length) (fun k => ∀ i, i < k → badS d.safe[i]! = false) (fun k => [(6, I k), (2, .lp (B + 2) 0), (3, .lp (B + 3) 0)]) (fun k => [(B + 2, .box g.cells), (B + 3, .box d.cells)]) ?_ (Wk.keep hcl ?_ ?_ ?_) fun k hk hF => ?_; rotate_left 1; (focus (simp [Fr.get, newF, Fr.map, AV.kill, AV.mapN, GeoD.av, DevD.av, GeoD.cells, DevD.cells, noN, geoOk_of, secRow, bytes, WrD.row, VolD.row] <;> fail)); (focus (simp [sto, newL, Loc.kill, Loc.set, AO.kill, AV.kill, AV.mapN, GeoD.av, DevD.av, GeoD.cells, DevD.cells, noN, geoOk_of, secRow, bytes, WrD.row, VolD.row] <;> fail)); (focus (simp [newL, Loc.kill, Loc.set, GeoD.av, DevD.av, GeoD.cells, DevD.cells, noN, geoOk_of, secRow, bytes, WrD.row, VolD.row] <;> fail)); (try have hw : IntKind.i64.wrap ((k : Int) + 1) = (k : Int) + 1 := IntWalk.i64_in _ (by omega))) | (refine loop_nat (d.cache.length) (fun k => ∀ i, i < k → badW d.safe.length d.cache[i]! = false) (fun k => [(7, I k), (2, .lp (B + 2) 0), (3, .lp (B + 3) 0)]) (fun k => [(B + 2, .box g.cells), (B + 3, .box d.cells)]) ?_ (Wk.keep hcl ?_ ?_ ?_) fun k hk hF => ?_; rotate_left 1; (focus (simp [Fr.get, newF, Fr.map, AV.kill, AV.mapN, GeoD.av, DevD.av, GeoD.cells, DevD.cells, noN, geoOk_of, secRow, bytes, WrD.row, VolD.row] <;> fail)); (focus (simp [sto, newL, Loc.kill, Loc.set, AO.kill, AV.kill, AV.mapN, GeoD.av, DevD.av, GeoD.cells, DevD.cells, noN, geoOk_of, secRow, bytes, WrD.row, VolD.row] <;> fail)); (focus (simp [newL, Loc.kill, Loc.set, GeoD.av, DevD.av, GeoD.cells, DevD.cells, noN, geoOk_of, secRow, bytes, WrD.row, VolD.row] <;> fail)); (try have hw : IntKind.i64.wrap ((k : Int) + 1) = (k : Int) + 1 := IntWalk.i64_in _ (by omega))) | (refine loop_nat (d.vols.length) (fun k => ∀ i, i < k → badV g d.vols[i]! = false) (fun k => [(8, I k), (2, .lp (B + 2) 0), (3, .lp (B + 3) 0)]) (fun k => [(B + 2, .box g.cells), (B + 3, .box d.cells)]) ?_ (Wk.keep hcl ?_ ?_ ?_) fun k hk hF => ?_; rotate_left 1; (focus (simp [Fr.get, newF, Fr.map, AV.kill, AV.mapN, GeoD.av, DevD.av, GeoD.cells, DevD.cells, noN, geoOk_of, secRow, bytes, WrD.row, VolD.row] <;> fail)); (focus (simp [sto, newL, Loc.kill, Loc.set, AO.kill, AV.kill, AV.mapN, GeoD.av, DevD.av, GeoD.cells, DevD.cells, noN, geoOk_of, secRow, bytes, WrD.row, VolD.row] <;> fail)); (focus (simp [newL, Loc.kill, Loc.set, GeoD.av, DevD.av, GeoD.cells, DevD.cells, noN, geoOk_of, secRow, bytes, WrD.row, VolD.row] <;> fail)); (try have hw : IntKind.i64.wrap ((k : Int) + 1) = (k : Int) + 1 := IntWalk.i64_in _ (by omega))) | (refine EndX.plain ?_) | (refine nil_split (fun hn => ?_) (fun hn => ?_)) | (refine gcall_no not_false ?_) | (refine gdcall_no not_false ?_) | (refine GuardS_of _ _ _ _ _ _ (fun hg => ?_) (fun hg => ?_)) | (refine GuardD_of _ _ _ _ (fun hg => ?_) (fun hg => ?_)) | (refine CondB_of _ _ _ _ _ _ _ ?_ (fun hg => ?_) (fun hg => ?_)))
  all_goals (try (first | ((first | unfold noN | unfold Fr.below | unfold Loc.below); simp [Fr.allN, AV.allN, AV.allNL, AO.allN]; done) | rfl | trivial | assumption | (intro row hrow; simp only [List.mem_map] at hrow; obtain ⟨x, _, rfl⟩ := hrow; rfl) | (refine Wk.keep hcl ?_ ?_ ?_; (focus (simp [Fr.get, GeoD.av, DevD.av, GeoD.cells, DevD.cells, noN, geoOk_of, secRow, bytes, WrD.row, VolD.row] <;> fail)); (focus (simp [sto, GeoD.av, DevD.av, GeoD.cells, DevD.cells, noN, geoOk_of, secRow, bytes, WrD.row, VolD.row] <;> fail)); (focus (simp <;> fail))) | (simp [allP, opd, Fr.get, Fr.below, Fr.allN, AV.allN, AV.allNL, Loc.below, AO.allN, noN, killO, killT, killD, mkNames, AO.kill, AV.kill, AV.mapN, AV.mapNL]; done) | (with_reducible exact ltD (by assumption)) | omega | (simp only [decide_eq_true_eq, decide_eq_false_iff_not] at *; omega)))
  all_goals (try (refine all_next hF ?_; (grind [badS, badW, badV, inR])))
  all_goals (try (
    congr 3
    have s1 : d.safe.any badS = false := any_no (geD (by assumption)) (by assumption)
    have s2 : d.cache.any (badW d.safe.length) = false := any_no (geD (by assumption)) (by assumption)
    have s3 : d.vols.any (badV g) = false := any_no (geD (by assumption)) (by assumption)
    have hs := sec_eq (g := g) (by grind)
    simp only [devF, s1, s2, s3, badD, hs]
    (grind [inR])))
  all_goals (try (
    congr 3
    have s1 : d.safe.any badS = false := any_no (geD (by assumption)) (by assumption)
    have s2 : d.cache.any (badW d.safe.length) = false := any_no (geD (by assumption)) (by assumption)
    have s3 : d.vols.any (badV g) = true := any_of (k := k) (ltD (by assumption)) (by grind [badV, inR])
    simp only [devF, s1, s2, s3]
    (grind)))
  all_goals (try (
    congr 3
    have s1 : d.safe.any badS = false := any_no (geD (by assumption)) (by assumption)
    have s2 : d.cache.any (badW d.safe.length) = true := any_of (k := k) (ltD (by assumption)) (by grind [badW, inR])
    simp only [devF, s1, s2]
    (grind)))
  all_goals (try (
    congr 3
    have s1 : d.safe.any badS = true := any_of (k := k) (ltD (by assumption)) (by grind [badS])
    simp only [devF, s1]
    (grind)))
  all_goals (try (
    congr 3
    simp only [devF, badD]
    have hs := sec_eq (g := g)
    (grind [inR, geoF])))
theorem devE_or (g : GeoD) (d : DevD) : devF g d = 0 ∨ ((devF g d == 0) = false ∧ (devF g d != 0) = true) := by
  by_cases h : devF g d = 0
  · exact .inl h
  · exact .inr ⟨by simpa using h, by simpa using h⟩
end Go.Proofs.Ytelciiooegiikaa
