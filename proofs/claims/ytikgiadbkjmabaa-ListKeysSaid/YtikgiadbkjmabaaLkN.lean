/- The reference's KeysOf. -/
import Derived.Test.YtikgiadbkjmabaaLkM
import Derived.Test.YtikgiadbkjmabaaTypes
namespace Go.Proofs.Ytikgiadbkjmabaa
open Go.RowKit
set_option maxRecDepth 100000
def o9_1:List SO:=((SO.mk (some 25) (.call 14 [(.tmp 21),(.tmp 22),(.tmp 23),(.tmp 24)]) none) :: (SO.mk (some 15) (.move (.tmp 25)) none) :: [])
theorem v9_1:type_of% (@swl _ _ o9_1.eq_1):=@swl _ _ o9_1.eq_1
def o9_2:List SO:=((SO.mk (some 30) (.len 9 (.tmp 29)) (some (28 ,true))) :: (SO.mk (some 31) (.bin .gtr 3 (.tmp 30) (.const (Value.int .i64 1))) (some (28 ,true))) :: (SO.mk (some 32) (.pick (.tmp 28) (.tmp 31) (.const (Value.bool false))) none) :: [])
theorem v9_2:type_of% (@swl _ _ o9_2.eq_1):=@swl _ _ o9_2.eq_1
def c9_3:SC:=(.cond (.tmp 32) (.reg [SO.mk (some 15) (.move (.const (Value.int .i64 1))) none]) .skip)
theorem u9_3:type_of% (@swc _ _ c9_3.eq_1):=@swc _ _ c9_3.eq_1
def c9_4:SC:=(.seq (.reg [SO.mk (some 35) (.move (.tmp 15)) none,SO.mk (some 12) (.move (.const (Value.slice none 0 0))) none,SO.mk (some 13) (.move (.const (Value.bool false))) none,SO.mk (some 14) (.move (.tmp 35)) none]) (.keep [12,13,14] .ret))
theorem u9_4:type_of% (@swc _ _ c9_4.eq_1):=@swc _ _ c9_4.eq_1
def c9_5:SC:=(.cond (.tmp 34) c9_4 .skip)
theorem u9_5:type_of% (@swc _ _ c9_5.eq_1):=@swc _ _ c9_5.eq_1
def c9_6:SC:=(.cond (.tmp 43) .skip (.exit 0))
theorem u9_6:type_of% (@swc _ _ c9_6.eq_1):=@swc _ _ c9_6.eq_1
def o9_7:List SO:=((SO.mk (some 66) (.faddr 41 (.tmp 65) 4) (some (62 ,false))) :: (SO.mk (some 67) (.load 4 (.tmp 66)) (some (62 ,false))) :: (SO.mk (some 68) (.pick (.tmp 62) (.const (Value.bool true)) (.tmp 67)) none) :: [])
theorem v9_7:type_of% (@swd _ _ o9_7.eq_1):=@swd _ _ o9_7.eq_1
def o9_8:List SO:=((SO.mk (some 62) (.move (.tmp 61)) none) :: (SO.mk (some 63) (.move (.tmp 16)) (some (62 ,false))) :: (SO.mk (some 64) (.move (.tmp 18)) (some (62 ,false))) :: (SO.mk (some 65) (.iaddr 23 (.tmp 63) (.tmp 64)) (some (62 ,false))) :: o9_7)
theorem v9_8:type_of% (@swd _ _ o9_8.eq_1):=@swd _ _ o9_8.eq_1
def o9_9:List SO:=((SO.mk (some 58) (.faddr 41 (.tmp 57) 2) (some (48 ,true))) :: (SO.mk (some 59) (.load 9 (.tmp 58)) (some (48 ,true))) :: (SO.mk (some 60) (.bin .eql 9 (.tmp 54) (.tmp 59)) (some (48 ,true))) :: (SO.mk (some 61) (.pick (.tmp 48) (.tmp 60) (.const (Value.bool false))) none) :: o9_8)
theorem v9_9:type_of% (@swd _ _ o9_9.eq_1):=@swd _ _ o9_9.eq_1
def o9_10:List SO:=((SO.mk (some 54) (.load 9 (.tmp 53)) (some (48 ,true))) :: (SO.mk (some 55) (.move (.tmp 16)) (some (48 ,true))) :: (SO.mk (some 56) (.move (.tmp 18)) (some (48 ,true))) :: (SO.mk (some 57) (.iaddr 23 (.tmp 55) (.tmp 56)) (some (48 ,true))) :: o9_9)
theorem v9_10:type_of% (@swd _ _ o9_10.eq_1):=@swd _ _ o9_10.eq_1
def o9_11:List SO:=((SO.mk (some 50) (.move (.tmp 18)) (some (48 ,true))) :: (SO.mk (some 51) (.bin .sub 3 (.tmp 50) (.const (Value.int .i64 1))) (some (48 ,true))) :: (SO.mk (some 52) (.iaddr 23 (.tmp 49) (.tmp 51)) (some (48 ,true))) :: (SO.mk (some 53) (.faddr 41 (.tmp 52) 2) (some (48 ,true))) :: o9_10)
theorem v9_11:type_of% (@swd _ _ o9_11.eq_1):=@swd _ _ o9_11.eq_1
def o9_12:List SO:=((SO.mk (some 46) (.move (.tmp 18)) none) :: (SO.mk (some 47) (.bin .gtr 3 (.tmp 46) (.const (Value.int .i64 0))) none) :: (SO.mk (some 48) (.move (.tmp 47)) none) :: (SO.mk (some 49) (.move (.tmp 16)) (some (48 ,true))) :: o9_11)
theorem v9_12:type_of% (@swd _ _ o9_12.eq_1):=@swd _ _ o9_12.eq_1
theorem m9_12 (B:Nat):mkNames B o9_12 = []:=(rfl)
def c9_13:SC:=(.cond (.tmp 68) (.exit 1) .skip)
theorem u9_13:type_of% (@swc _ _ c9_13.eq_1):=@swc _ _ c9_13.eq_1
def o9_14:List SO:=((SO.mk (some 73) (.call 16 [(.tmp 72),(.const (Value.bool true))]) none) :: (SO.mk (some 19) (.alloc 43) none) :: (SO.mk none (.store 43 (.tmp 19) (.tmp 73)) none) :: [])
theorem v9_14:type_of% (@swl _ _ o9_14.eq_1):=@swl _ _ o9_14.eq_1
def o9_15:List SO:=((SO.mk (some 84) (.move (.tmp 83)) none) :: (SO.mk (some 85) (.move (.tmp 3)) (some (84 ,true))) :: (SO.mk (some 86) (.bin .neq 9 (.tmp 85) (.const (Value.string ⟨#[]⟩))) (some (84 ,true))) :: (SO.mk (some 87) (.pick (.tmp 84) (.tmp 86) (.const (Value.bool false))) none) :: [])
theorem v9_15:type_of% (@swl _ _ o9_15.eq_1):=@swl _ _ o9_15.eq_1
def o9_16:List SO:=((SO.mk (some 80) (.faddr 41 (.tmp 79) 2) none) :: (SO.mk (some 81) (.load 9 (.tmp 80)) none) :: (SO.mk (some 82) (.len 9 (.tmp 81)) none) :: (SO.mk (some 83) (.bin .lss 3 (.tmp 76) (.tmp 82)) none) :: o9_15)
theorem v9_16:type_of% (@swl _ _ o9_16.eq_1):=@swl _ _ o9_16.eq_1
def c9_17:SC:=(.cond (.tmp 87) .skip (.exit 2))
theorem u9_17:type_of% (@swc _ _ c9_17.eq_1):=@swc _ _ c9_17.eq_1
def o9_18:List SO:=((SO.mk (some 98) (.idx 9 (.tmp 97) (.const (Value.int .i64 0))) none) :: (SO.mk (some 99) (.bin .eql 5 (.tmp 96) (.tmp 98)) none) :: [])
theorem v9_18:type_of% (@swd _ _ o9_18.eq_1):=@swd _ _ o9_18.eq_1
def o9_19:List SO:=((SO.mk (some 94) (.load 9 (.tmp 93)) none) :: (SO.mk (some 95) (.move (.tmp 20)) none) :: (SO.mk (some 96) (.idx 9 (.tmp 94) (.tmp 95)) none) :: (SO.mk (some 97) (.move (.tmp 3)) none) :: o9_18)
theorem v9_19:type_of% (@swd _ _ o9_19.eq_1):=@swd _ _ o9_19.eq_1
def o9_20:List SO:=((SO.mk (some 90) (.move (.tmp 16)) none) :: (SO.mk (some 91) (.move (.tmp 18)) none) :: (SO.mk (some 92) (.iaddr 23 (.tmp 90) (.tmp 91)) none) :: (SO.mk (some 93) (.faddr 41 (.tmp 92) 2) none) :: o9_19)
theorem v9_20:type_of% (@swd _ _ o9_20.eq_1):=@swd _ _ o9_20.eq_1
theorem m9_20 (B:Nat):mkNames B o9_20 = []:=(rfl)
def o9_21:List SO:=((SO.mk (some 108) (.build 43 [(0 ,(.tmp 107)),(1 ,(.const (Value.bool true)))]) none) :: (SO.mk none (.store 43 (.tmp 19) (.tmp 108)) none) :: [])
theorem v9_21:type_of% (@swl _ _ o9_21.eq_1):=@swl _ _ o9_21.eq_1
def o9_22:List SO:=((SO.mk (some 104) (.load 9 (.tmp 103)) none) :: (SO.mk (some 105) (.move (.tmp 20)) none) :: (SO.mk (some 106) (.bin .add 3 (.tmp 105) (.const (Value.int .i64 1))) none) :: (SO.mk (some 107) (.slice 9 (.tmp 104) none (some (.tmp 106))) none) :: o9_21)
theorem v9_22:type_of% (@swl _ _ o9_22.eq_1):=@swl _ _ o9_22.eq_1
def c9_23:SC:=(.seq (.reg ((SO.mk (some 100) (.move (.tmp 16)) none) :: (SO.mk (some 101) (.move (.tmp 18)) none) :: (SO.mk (some 102) (.iaddr 23 (.tmp 100) (.tmp 101)) none) :: (SO.mk (some 103) (.faddr 41 (.tmp 102) 2) none) :: o9_22)) (.keep [17,19,18,4,16,3,2,5] (.exit 2)))
theorem u9_23:type_of% (@swc _ _ c9_23.eq_1):=@swc _ _ c9_23.eq_1
def c9_24:SC:=(.cond (.tmp 99) c9_23 .skip)
theorem u9_24:type_of% (@swc _ _ c9_24.eq_1):=@swc _ _ c9_24.eq_1
def c9_25:SC:=(.reg [SO.mk (some 88) (.move (.tmp 20)) none,SO.mk (some 89) (.bin .add 3 (.tmp 88) (.const (Value.int .i64 1))) none,SO.mk (some 20) (.move (.tmp 89)) none])
theorem u9_25:type_of% (@swc _ _ c9_25.eq_1):=@swc _ _ c9_25.eq_1
def c9_26:SC:=(.seq (.block 3 (.seq (.dreg false o9_20 []) (.keep [99,20,17,19,18,4,16,3,2,5] c9_24))) (.keep [20,17,19,18,4,16,3,2,5] c9_25))
theorem u9_26:type_of% (@swc _ _ c9_26.eq_1):=@swc _ _ c9_26.eq_1
def c9_27:SC:=(.seq (.seq (.reg ((SO.mk (some 76) (.move (.tmp 20)) none) :: (SO.mk (some 77) (.move (.tmp 16)) none) :: (SO.mk (some 78) (.move (.tmp 18)) none) :: (SO.mk (some 79) (.iaddr 23 (.tmp 77) (.tmp 78)) none) :: o9_16)) (.keep [87,20,17,19,18,4,16,3,2,5] c9_17)) (.keep [20,17,19,18,4,16,3,2,5] c9_26))
theorem u9_27:type_of% (@swc _ _ c9_27.eq_1):=@swc _ _ c9_27.eq_1
def c9_28:SC:=(.block 2 (.loop (.keep [20,17,19,18,4,16,3,2,5] c9_27)))
theorem u9_28:type_of% (@swc _ _ c9_28.eq_1):=@swc _ _ c9_28.eq_1
def c9_29:SC:=(.cond (.tmp 112) (.exit 1) .skip)
theorem u9_29:type_of% (@swc _ _ c9_29.eq_1):=@swc _ _ c9_29.eq_1
def o9_30:List SO:=((SO.mk (some 125) (.pick (.tmp 116) (.tmp 124) (.const (Value.bool false))) none) :: [])
theorem v9_30:type_of% (@swd _ _ o9_30.eq_1):=@swd _ _ o9_30.eq_1
def o9_31:List SO:=((SO.mk (some 121) (.iaddr 29 (.tmp 117) (.tmp 120)) (some (116 ,true))) :: (SO.mk (some 122) (.load 43 (.tmp 121)) (some (116 ,true))) :: (SO.mk (some 123) (.load 43 (.tmp 19)) (some (116 ,true))) :: (SO.mk (some 124) (.bin .eql 43 (.tmp 122) (.tmp 123)) (some (116 ,true))) :: o9_30)
theorem v9_31:type_of% (@swd _ _ o9_31.eq_1):=@swd _ _ o9_31.eq_1
def o9_32:List SO:=((SO.mk (some 117) (.move (.tmp 17)) (some (116 ,true))) :: (SO.mk (some 118) (.move (.tmp 17)) (some (116 ,true))) :: (SO.mk (some 119) (.len 29 (.tmp 118)) (some (116 ,true))) :: (SO.mk (some 120) (.bin .sub 3 (.tmp 119) (.const (Value.int .i64 1))) (some (116 ,true))) :: o9_31)
theorem v9_32:type_of% (@swd _ _ o9_32.eq_1):=@swd _ _ o9_32.eq_1
def o9_33:List SO:=((SO.mk (some 113) (.move (.tmp 17)) none) :: (SO.mk (some 114) (.len 29 (.tmp 113)) none) :: (SO.mk (some 115) (.bin .gtr 3 (.tmp 114) (.const (Value.int .i64 0))) none) :: (SO.mk (some 116) (.move (.tmp 115)) none) :: o9_32)
theorem v9_33:type_of% (@swd _ _ o9_33.eq_1):=@swd _ _ o9_33.eq_1
theorem m9_33 (B:Nat):mkNames B o9_33 = []:=(rfl)
def c9_34:SC:=(.cond (.tmp 125) (.exit 1) .skip)
theorem u9_34:type_of% (@swc _ _ c9_34.eq_1):=@swc _ _ c9_34.eq_1
def c9_35:SC:=(.reg [SO.mk (some 126) (.move (.tmp 17)) none,SO.mk (some 127) (.load 43 (.tmp 19)) none,SO.mk (some 128) (.bslice 29 1 [(0 ,(.tmp 127))]) none,SO.mk (some 129) (.app 29 29 (.tmp 126) (.tmp 128)) none,SO.mk (some 17) (.move (.tmp 129)) none])
theorem u9_35:type_of% (@swc _ _ c9_35.eq_1):=@swc _ _ c9_35.eq_1
def c9_36:SC:=(.seq (.seq (.dreg false o9_33 []) (.keep [125,17,19,18,4,16,3,2,5] c9_34)) (.keep [17,19,18,4,16,3,2,5] c9_35))
theorem u9_36:type_of% (@swc _ _ c9_36.eq_1):=@swc _ _ c9_36.eq_1
def c9_37:SC:=(.seq (.seq (.reg [SO.mk (some 109) (.faddr 43 (.tmp 19) 0) none,SO.mk (some 110) (.load 9 (.tmp 109)) none,SO.mk (some 111) (.move (.tmp 4)) none,SO.mk (some 112) (.bin .leq 9 (.tmp 110) (.tmp 111)) none]) (.keep [112,17,19,18,4,16,3,2,5] c9_29)) (.keep [17,19,18,4,16,3,2,5] c9_36))
theorem u9_37:type_of% (@swc _ _ c9_37.eq_1):=@swc _ _ c9_37.eq_1
def c9_38:SC:=(.seq (.seq (.reg [SO.mk (some 74) (.move (.tmp 2)) none,SO.mk (some 75) (.len 9 (.tmp 74)) none,SO.mk (some 20) (.move (.tmp 75)) none]) (.keep [20,17,19,18,4,16,3,2,5] c9_28)) (.keep [17,19,18,4,16,3,2,5] c9_37))
theorem u9_38:type_of% (@swc _ _ c9_38.eq_1):=@swc _ _ c9_38.eq_1
def c9_39:SC:=(.seq (.reg ((SO.mk (some 69) (.move (.tmp 16)) none) :: (SO.mk (some 70) (.move (.tmp 18)) none) :: (SO.mk (some 71) (.iaddr 23 (.tmp 69) (.tmp 70)) none) :: (SO.mk (some 72) (.load 41 (.tmp 71)) none) :: o9_14)) (.keep [17,19,18,4,16,3,2,5] c9_38))
theorem u9_39:type_of% (@swc _ _ c9_39.eq_1):=@swc _ _ c9_39.eq_1
def c9_40:SC:=(.reg [SO.mk (some 44) (.move (.tmp 18)) none,SO.mk (some 45) (.bin .add 3 (.tmp 44) (.const (Value.int .i64 1))) none,SO.mk (some 18) (.move (.tmp 45)) none])
theorem u9_40:type_of% (@swc _ _ c9_40.eq_1):=@swc _ _ c9_40.eq_1
def c9_41:SC:=(.seq (.block 1 (.seq (.seq (.dreg false o9_12 []) (.keep [68,17,18,4,16,3,2,5] c9_13)) (.keep [17,18,4,16,3,2,5] c9_39))) (.keep [18,4,16,3,2,5,17] c9_40))
theorem u9_41:type_of% (@swc _ _ c9_41.eq_1):=@swc _ _ c9_41.eq_1
def c9_42:SC:=(.seq (.seq (.reg [SO.mk (some 40) (.move (.tmp 18)) none,SO.mk (some 41) (.move (.tmp 16)) none,SO.mk (some 42) (.len 23 (.tmp 41)) none,SO.mk (some 43) (.bin .lss 3 (.tmp 40) (.tmp 42)) none]) (.keep [43,2,3,16,4,18,5,17] c9_6)) (.keep [17,18,4,16,3,2,5] c9_41))
theorem u9_42:type_of% (@swc _ _ c9_42.eq_1):=@swc _ _ c9_42.eq_1
def c9_43:SC:=(.block 0 (.loop (.keep [2,3,16,4,18,5,17] c9_42)))
theorem u9_43:type_of% (@swc _ _ c9_43.eq_1):=@swc _ _ c9_43.eq_1
def o9_44:List SO:=((SO.mk (some 13) (.move (.const (Value.bool true))) none) :: (SO.mk (some 14) (.move (.const (Value.int .i64 0))) none) :: [])
theorem v9_44:type_of% (@swl _ _ o9_44.eq_1):=@swl _ _ o9_44.eq_1
def c9_45:SC:=(.seq (.reg ((SO.mk (some 134) (.move (.tmp 17)) none) :: (SO.mk (some 135) (.move (.tmp 5)) none) :: (SO.mk (some 136) (.slice 29 (.tmp 134) none (some (.tmp 135))) none) :: (SO.mk (some 12) (.move (.tmp 136)) none) :: o9_44)) (.keep [12,13,14] .ret))
theorem u9_45:type_of% (@swc _ _ c9_45.eq_1):=@swc _ _ c9_45.eq_1
def c9_46:SC:=(.cond (.tmp 133) c9_45 .skip)
theorem u9_46:type_of% (@swc _ _ c9_46.eq_1):=@swc _ _ c9_46.eq_1
def c9_47:SC:=(.seq (.reg [SO.mk (some 137) (.move (.tmp 17)) none,SO.mk (some 12) (.move (.tmp 137)) none,SO.mk (some 13) (.move (.const (Value.bool false))) none,SO.mk (some 14) (.move (.const (Value.int .i64 0))) none]) (.keep [12,13,14] .ret))
theorem u9_47:type_of% (@swc _ _ c9_47.eq_1):=@swc _ _ c9_47.eq_1
def c9_48:SC:=(.seq (.seq (.reg [SO.mk (some 130) (.move (.tmp 17)) none,SO.mk (some 131) (.len 29 (.tmp 130)) none,SO.mk (some 132) (.move (.tmp 5)) none,SO.mk (some 133) (.bin .gtr 3 (.tmp 131) (.tmp 132)) none]) (.keep [133,5,17] c9_46)) (.keep [17] c9_47))
theorem u9_48:type_of% (@swc _ _ c9_48.eq_1):=@swc _ _ c9_48.eq_1
def c9_49:SC:=(.seq (.seq (.reg [SO.mk (some 18) (.move (.const (Value.int .i64 0))) none]) (.keep [2,3,16,4,18,5,17] c9_43)) (.keep [5,17] c9_48))
theorem u9_49:type_of% (@swc _ _ c9_49.eq_1):=@swc _ _ c9_49.eq_1
def c9_50:SC:=(.seq (.reg [SO.mk (some 17) (.move (.const (Value.slice none 0 0))) none]) (.keep [2,3,16,4,5,17] c9_49))
theorem u9_50:type_of% (@swc _ _ c9_50.eq_1):=@swc _ _ c9_50.eq_1
def c9_51:SC:=(.seq (.reg [SO.mk (some 36) (.load 28 (.tmp 6)) none,SO.mk (some 37) (.move (.tmp 1)) none,SO.mk (some 38) (.move (.tmp 2)) none,SO.mk (some 39) (.call 15 [(.tmp 36),(.tmp 37),(.tmp 38)]) none,SO.mk (some 16) (.move (.tmp 39)) none]) (.keep [2,3,16,4,5] c9_50))
theorem u9_51:type_of% (@swc _ _ c9_51.eq_1):=@swc _ _ c9_51.eq_1
def c9_52:SC:=(.seq (.seq (.reg [SO.mk (some 33) (.move (.tmp 15)) none,SO.mk (some 34) (.bin .neq 30 (.tmp 33) (.const (Value.int .i64 0))) none]) (.keep [34,15,6,1,2,3,4,5] c9_5)) (.keep [6,1,2,3,4,5] c9_51))
theorem u9_52:type_of% (@swc _ _ c9_52.eq_1):=@swc _ _ c9_52.eq_1
def c9_53:SC:=(.seq (.seq (.reg ((SO.mk (some 26) (.move (.tmp 15)) none) :: (SO.mk (some 27) (.bin .eql 30 (.tmp 26) (.const (Value.int .i64 0))) none) :: (SO.mk (some 28) (.move (.tmp 27)) none) :: (SO.mk (some 29) (.move (.tmp 3)) (some (28 ,true))) :: o9_2)) (.keep [32,15,6,1,2,3,4,5] c9_3)) (.keep [15,6,1,2,3,4,5] c9_52))
theorem u9_53:type_of% (@swc _ _ c9_53.eq_1):=@swc _ _ c9_53.eq_1
def c9_54:SC:=(.seq (.reg ((SO.mk (some 21) (.load 28 (.tmp 6)) none) :: (SO.mk (some 22) (.move (.tmp 1)) none) :: (SO.mk (some 23) (.move (.tmp 2)) none) :: (SO.mk (some 24) (.move (.tmp 5)) none) :: o9_1)) (.keep [15,6,1,2,3,4,5] c9_53))
theorem u9_54:type_of% (@swc _ _ c9_54.eq_1):=@swc _ _ c9_54.eq_1
def c9:SC:=(.seq (.reg [SO.mk (some 6) (.box 28 (.tmp 0)) none,SO.mk (some 12) (.move (.const (Value.slice none 0 0))) none,SO.mk (some 13) (.move (.const (Value.bool false))) none,SO.mk (some 14) (.move (.const (Value.int .i64 0))) none]) (.keep [6,1,2,3,4,5] c9_54))
theorem c9_eq:annC Try.f9 = some c9:=by kernel_rfl
theorem r9:Try.f9.results.toList = [.tmp 12,.tmp 13,.tmp 14]:=by kernel_rfl
theorem e9:enters Try.prog 9 = true:=by kernel_rfl
end Go.Proofs.Ytikgiadbkjmabaa
namespace Go.Proofs.Ytikgiadbkjmabaa
open Go.RowKit
set_option maxHeartbeats 4000000
set_option maxRecDepth 20000
attribute [local irreducible] SW OSW SWL SWLn SWD SEcall SEcallv SDv SE SO1 SOg ACalls ACallv Wk EndV
set_option linter.unusedSimpArgs false
set_option linter.unusedVariables false
theorem ext_at (k:ByteArray) (p m:Nat) (h:p + m < k.size):(k.extract p k.size).data.toList[m]? = some (k.data.getD (p + m) 0):=by
  rw [Array.getElem?_toList,ByteArray.data_extract,Array.getElem?_extract]
  have:k.data.size = k.size:=rfl
  rw [if_pos (by omega),Array.getElem?_eq_getElem (by omega)]
  have h2:p + m < k.data.size:=by omega
  simp only [Array.getD,h2,dite_true]
  rfl
theorem ext_no (k:ByteArray) (p m:Nat) (h:k.size ≤ p + m):(k.extract p k.size).data.toList[m]? = none:=by
  rw [Array.getElem?_toList,ByteArray.data_extract,Array.getElem?_extract]
  have:k.data.size = k.size:=rfl
  rw [if_neg (by omega)]
theorem byte_ne {a b:UInt8} (h:((a.toNat:Int) == (b.toNat:Int)) = false):a ≠ b:=fun e=>by subst e;simp at h
theorem byte_eq {a b:UInt8} (h:((a.toNat:Int) == (b.toNat:Int)) = true):a = b:=by
  have:=eq_of_beq h
  exact UInt8.toNat_inj.1 (by omega)
theorem ix_cases (l:List UInt8) (c:UInt8):(Lib.indexByte l c = -1 ∧ ∀ m:Nat,l[m]? ≠ some c) ∨ ∃ o:Nat,Lib.indexByte l c = o ∧ l[o]? = some c ∧ ∀ m:Nat,m < o → l[m]? ≠ some c:=by
  have h:=Lib.indexByte_ge l c
  rcases Int.lt_or_eq_of_le h with h1 | h1
  · obtain ⟨o,ho⟩:=Int.eq_ofNat_of_zero_le (show 0 ≤ Lib.indexByte l c by omega)
    obtain ⟨g1,g2⟩:=Lib.indexByte_some ho
    exact .inr ⟨o,ho,g1,g2⟩
  · exact .inl ⟨h1.symm,Lib.indexByte_none h1.symm⟩
theorem ix_hit {pre d k:ByteArray} {t:Nat} (hd:d.size = 1) (ht:pre.size + t < k.size) (hm:(((k.data.getD (pre.size + t) 0).toNat:Int) == ((d.data.getD 0 0).toNat:Int)) = true) (hF:∀ m,m < t → (((k.data.getD (pre.size + m) 0).toNat:Int) == ((d.data.getD 0 0).toNat:Int)) = false):ixF (k.extract pre.size k.size) d = t:=by
  unfold ixF
  rw [show (d.size == 0) = false by rw [hd];rfl,cond_false]
  have e:=byte_eq hm
  rcases ix_cases (k.extract pre.size k.size).data.toList (d.data.getD 0 0) with ⟨_,h2⟩ | ⟨o,h1,h2,h3⟩
  · exact absurd (by rw [ext_at k pre.size t ht,e]) (h2 t)
  · rw [h1]
    rcases Nat.lt_trichotomy o t with h | h | h
    · rw [ext_at k pre.size o (by omega)] at h2
      exact absurd (Option.some.inj h2) (byte_ne (hF o h))
    · rw [h]
    · exact absurd (by rw [ext_at k pre.size t ht,e]) (h3 t h)
theorem ix_miss {pre d k:ByteArray} {t:Nat} (hd:d.size = 1) (ht:k.size ≤ pre.size + t) (hF:∀ m,m < t → (((k.data.getD (pre.size + m) 0).toNat:Int) == ((d.data.getD 0 0).toNat:Int)) = false):ixF (k.extract pre.size k.size) d = -1:=by
  unfold ixF
  rw [show (d.size == 0) = false by rw [hd];rfl,cond_false]
  rcases ix_cases (k.extract pre.size k.size).data.toList (d.data.getD 0 0) with ⟨h1,_⟩ | ⟨o,_,h2,_⟩
  · exact h1
  · rcases Nat.lt_or_ge (pre.size + o) k.size with h | h
    · rw [ext_at k pre.size o h] at h2
      exact absurd (Option.some.inj h2) (byte_ne (hF o (by omega)))
    · rw [ext_no k pre.size o h] at h2;cases h2
theorem key_hit {pre d:ByteArray} {v:VerD} {t:Nat} (hd:d.size = 1) (ht:pre.size + t < v.key.size) (hm:(((v.key.data.getD (pre.size + t) 0).toNat:Int) == ((d.data.getD 0 0).toNat:Int)) = true) (hF:∀ m,m < t → (((v.key.data.getD (pre.size + m) 0).toNat:Int) == ((d.data.getD 0 0).toNat:Int)) = false):keyR pre d v = comR (v.key.extract 0 (pre.size + t + 1)):=by
  unfold keyR
  rw [ix_hit hd ht hm hF,show (d.size != 0) = true by rw [hd];rfl,decide_eq_true (show (t:Int) ≥ 0 by omega)]
  rfl
theorem key_no {pre d:ByteArray} {v:VerD} {t:Nat} (hd:d.size = 1) (ht:v.key.size ≤ pre.size + t) (hF:∀ m,m < t → (((v.key.data.getD (pre.size + m) 0).toNat:Int) == ((d.data.getD 0 0).toNat:Int)) = false):keyR pre d v = rowD v true:=by
  unfold keyR
  rw [ix_miss hd ht hF,decide_eq_false (by omega),Bool.and_false]
  rfl
theorem keysOf_p (s:SttD) (hc:Pure Try.prog 31 [s.av] (Bo (mayF s))) (hw:s.vers.length * 120 ≤ 2 ^ 47) (hkz:∀ v ∈ s.vers,v.key.size ≤ 2 ^ 47) (hup:mayF s = true → s.vers.Pairwise (fun a b=>a.id < b.id)) (name pre d after:ByteArray) (most:Int) :
    Pure Try.prog 9 [s.av,.d (.v (.string name)),.d (.v (.string pre)),.d (.v (.string d)),.d (.v (.string after)),I most] (pgV (kF (listF s name pre most) d) (oL pre d after (oK s.vers name pre s.vers.length) (oK s.vers name pre s.vers.length).length) most):=by
  refine pureZ_of follows Try.func9 c9_eq r9 (Nat.le_of_ble_eq_true rfl) fun B σ hcl hsz=>?_
  clear hsz
  have h1:=listFault_p s hc name pre most
  have h2:=sorted_p s hw name pre
  have h3:=oK_all s name pre
  have h4:=@listF_most s name pre most
  have hm:listF s name pre most = 0 → mayF s = true:=fun h=>by
    cases hb:mayF s
    · unfold listF at h;rw [hb] at h;cases h
    · rfl
  have h8:listF s name pre most = 0 → ∀ v ∈ oK s.vers name pre s.vers.length,pre.size ≤ v.key.size ∧ v.key.size ≤ 2 ^ 47:=fun h=>oK_pre s.vers name pre hkz ((hup (hm h)).filter _)
  generalize listF s name pre most = e at h1 h4 h8 ⊢
  clear hm
  generalize oK s.vers name pre s.vers.length = l at h2 h3 h8 ⊢
  unfold pgV kF
  cases he:(e == 0)
  · have he':(e != 0) = true:=by simp only [bne,he,Bool.not_false]
    simp only [cond_false,he]
    repeat' (first | (simp -implicitDefEqProofs only [*,Nat.reduceBEq,↓reduceIte,Nat.reduceEqDiff,Nat.reduceAdd,reduceCtorEq,AO.kill,Int.reduceLT,Int.reduceToNat,List.getElem?_nil,Nat.reduceMul,Nat.reducePow,Nat.reduceLeDiff,rowOf_mapD,rowOf_mapI,rowOf_mapA,List.getElem?_cons_zero,List.getElem?_cons_succ,take_map_len,take_map_app,List.getElem?_cons_zero,c9,r9,v9_1,v9_2,u9_3,u9_4,u9_5,u9_6,v9_7,v9_8,v9_9,v9_10,v9_11,v9_12,m9_12,u9_13,v9_14,v9_15,v9_16,u9_17,v9_18,v9_19,v9_20,m9_20,v9_21,v9_22,u9_23,u9_24,u9_25,u9_26,u9_27,u9_28,u9_29,v9_30,v9_31,v9_32,v9_33,m9_33,u9_34,u9_35,u9_36,u9_37,u9_38,u9_39,u9_40,u9_41,u9_42,u9_43,v9_44,u9_45,u9_46,u9_47,u9_48,u9_49,u9_50,u9_51,u9_52,u9_53,u9_54,ty28,ty30,ty9,ty3,ty23,ty41,ty4,ty43,ty5,ty29,SttD.av,SttD.cells,ints,mvcgen_simp]) | (with_reducible refine And.intro ?_ ?_) | (refine call_ro e14 ( h1) rfl ?_ ?_ ?_ ?_) | (refine gcall_ro e14 ( h1) rfl ?_ ?_ ?_ ?_) | (refine dcall_ro e14 ( h1) rfl ?_ ?_ ?_ ?_) | (refine gdcall_ro rfl e14 ( h1) rfl ?_ ?_ ?_ ?_) | (refine EndX.plain ?_) | (refine nil_split (fun hn=>?_) (fun hn=>?_)) | (refine gcall_no not_false ?_) | (refine gdcall_no not_false ?_) | (refine GuardS_of _ _ _ _ _ _ (fun hg=>?_) (fun hg=>?_)) | (refine GuardD_of _ _ _ _ (fun hg=>?_) (fun hg=>?_)) | (refine CondB_of _ _ _ _ _ _ _ ?_ (fun hg=>?_) (fun hg=>?_)))
    all_goals (try (first | ((first | unfold noN | unfold Fr.below | unfold Loc.below);simp [Fr.allN,AV.allN,AV.allNL,AO.allN];done) | rfl | trivial | assumption | (intro row hrow;simp only [List.mem_map] at hrow;obtain ⟨x,_,rfl⟩:=hrow;rfl) | (refine Wk.keep hcl ?_ ?_ ?_;(focus (simp [Fr.get,SttD.av,SttD.cells,ints]<;>fail));(focus (simp [sto,SttD.av,SttD.cells,ints]<;>fail));(focus (simp<;>fail))) | (simp [allP,opd,Fr.get,Fr.below,Fr.allN,AV.allN,AV.allNL,Loc.below,AO.allN,noN,killO,killT,killD,mkNames,AO.kill,AV.kill,AV.mapN,AV.mapNL];done) | (with_reducible exact ltD (by assumption)) | omega | (simp only [decide_eq_true_eq,decide_eq_false_iff_not] at *;omega)))
  have he':(e != 0) = false:=by simp only [bne,he,Bool.not_true]
  obtain rfl:e = 0:=eq_of_beq he
  simp only [cond_true,beq_self_eq_true]
  cases hd1:decide ((d.size:Int) > 1)
  rotate_left 1
  · simp only [cond_true]
    have q1:((1:Int) == 0) = false:=rfl
    have q2:((1:Int) != 0) = true:=rfl
    simp only [q1,cond_false]
    repeat' (first | (simp -implicitDefEqProofs only [*,Nat.reduceBEq,↓reduceIte,Nat.reduceEqDiff,Nat.reduceAdd,reduceCtorEq,AO.kill,Int.reduceLT,Int.reduceToNat,List.getElem?_nil,Nat.reduceMul,Nat.reducePow,Nat.reduceLeDiff,rowOf_mapD,rowOf_mapI,rowOf_mapA,List.getElem?_cons_zero,List.getElem?_cons_succ,take_map_len,take_map_app,List.getElem?_cons_zero,c9,r9,v9_1,v9_2,u9_3,u9_4,u9_5,u9_6,v9_7,v9_8,v9_9,v9_10,v9_11,v9_12,m9_12,u9_13,v9_14,v9_15,v9_16,u9_17,v9_18,v9_19,v9_20,m9_20,v9_21,v9_22,u9_23,u9_24,u9_25,u9_26,u9_27,u9_28,u9_29,v9_30,v9_31,v9_32,v9_33,m9_33,u9_34,u9_35,u9_36,u9_37,u9_38,u9_39,u9_40,u9_41,u9_42,u9_43,v9_44,u9_45,u9_46,u9_47,u9_48,u9_49,u9_50,u9_51,u9_52,u9_53,u9_54,ty28,ty30,ty9,ty3,ty23,ty41,ty4,ty43,ty5,ty29,SttD.av,SttD.cells,ints,beq_self_eq_true,mvcgen_simp]) | (with_reducible refine And.intro ?_ ?_) | (refine call_ro e14 ( h1) rfl ?_ ?_ ?_ ?_) | (refine gcall_ro e14 ( h1) rfl ?_ ?_ ?_ ?_) | (refine dcall_ro e14 ( h1) rfl ?_ ?_ ?_ ?_) | (refine gdcall_ro rfl e14 ( h1) rfl ?_ ?_ ?_ ?_) | (refine EndX.plain ?_) | (refine nil_split (fun hn=>?_) (fun hn=>?_)) | (refine gcall_no not_false ?_) | (refine gdcall_no not_false ?_) | (refine GuardS_of _ _ _ _ _ _ (fun hg=>?_) (fun hg=>?_)) | (refine GuardD_of _ _ _ _ (fun hg=>?_) (fun hg=>?_)) | (refine CondB_of _ _ _ _ _ _ _ ?_ (fun hg=>?_) (fun hg=>?_)))
    all_goals (try (first | ((first | unfold noN | unfold Fr.below | unfold Loc.below);simp [Fr.allN,AV.allN,AV.allNL,AO.allN];done) | rfl | trivial | assumption | (intro row hrow;simp only [List.mem_map] at hrow;obtain ⟨x,_,rfl⟩:=hrow;rfl) | (refine Wk.keep hcl ?_ ?_ ?_;(focus (simp [Fr.get,SttD.av,SttD.cells,ints,beq_self_eq_true]<;>fail));(focus (simp [sto,SttD.av,SttD.cells,ints,beq_self_eq_true]<;>fail));(focus (simp<;>fail))) | (simp [allP,opd,Fr.get,Fr.below,Fr.allN,AV.allN,AV.allNL,Loc.below,AO.allN,noN,killO,killT,killD,mkNames,AO.kill,AV.kill,AV.mapN,AV.mapNL];done) | (with_reducible exact ltD (by assumption)) | omega | (simp only [decide_eq_true_eq,decide_eq_false_iff_not] at *;omega)))
  simp only [cond_false,beq_self_eq_true,cond_true]
  obtain ⟨m1,m2⟩:=h4 rfl
  have h8:=h8 rfl
  repeat' (first | (simp -implicitDefEqProofs only [*,Nat.reduceBEq,↓reduceIte,Nat.reduceEqDiff,Nat.reduceAdd,reduceCtorEq,AO.kill,Int.reduceLT,Int.reduceToNat,List.getElem?_nil,Nat.reduceMul,Nat.reducePow,Nat.reduceLeDiff,rowOf_mapD,rowOf_mapI,rowOf_mapA,List.getElem?_cons_zero,List.getElem?_cons_succ,take_map_len,take_map_app,List.getElem?_cons_zero,c9,r9,v9_1,v9_2,u9_3,u9_4,u9_5,u9_6,v9_7,v9_8,v9_9,v9_10,v9_11,v9_12,m9_12,u9_13,v9_14,v9_15,v9_16,u9_17,v9_18,v9_19,v9_20,m9_20,v9_21,v9_22,u9_23,u9_24,u9_25,u9_26,u9_27,u9_28,u9_29,v9_30,v9_31,v9_32,v9_33,m9_33,u9_34,u9_35,u9_36,u9_37,u9_38,u9_39,u9_40,u9_41,u9_42,u9_43,v9_44,u9_45,u9_46,u9_47,u9_48,u9_49,u9_50,u9_51,u9_52,u9_53,u9_54,ty28,ty30,ty9,ty3,ty23,ty41,ty4,ty43,ty5,ty29,SttD.av,SttD.cells,ints,beq_self_eq_true,mvcgen_simp]) | (with_reducible refine And.intro ?_ ?_) | (refine call_ro e14 ( h1) rfl ?_ ?_ ?_ ?_) | (refine gcall_ro e14 ( h1) rfl ?_ ?_ ?_ ?_) | (refine dcall_ro e14 ( h1) rfl ?_ ?_ ?_ ?_) | (refine gdcall_ro rfl e14 ( h1) rfl ?_ ?_ ?_ ?_) | (refine call_ro e15 ( h2) rfl ?_ ?_ ?_ ?_) | (refine gcall_ro e15 ( h2) rfl ?_ ?_ ?_ ?_) | (refine dcall_ro e15 ( h2) rfl ?_ ?_ ?_ ?_) | (refine gdcall_ro rfl e15 ( h2) rfl ?_ ?_ ?_ ?_) | (refine EndX.plain ?_) | (refine nil_split (fun hn=>?_) (fun hn=>?_)) | (refine gcall_no not_false ?_) | (refine gdcall_no not_false ?_) | (refine GuardS_of _ _ _ _ _ _ (fun hg=>?_) (fun hg=>?_)) | (refine GuardD_of _ _ _ _ (fun hg=>?_) (fun hg=>?_)) | (refine CondB_of _ _ _ _ _ _ _ ?_ (fun hg=>?_) (fun hg=>?_)))
  all_goals (try (first | ((first | unfold noN | unfold Fr.below | unfold Loc.below);simp [Fr.allN,AV.allN,AV.allNL,AO.allN];done) | rfl | trivial | assumption | (intro row hrow;simp only [List.mem_map] at hrow;obtain ⟨x,_,rfl⟩:=hrow;rfl) | (refine Wk.keep hcl ?_ ?_ ?_;(focus (simp [Fr.get,SttD.av,SttD.cells,ints,beq_self_eq_true]<;>fail));(focus (simp [sto,SttD.av,SttD.cells,ints,beq_self_eq_true]<;>fail));(focus (simp<;>fail))) | (simp [allP,opd,Fr.get,Fr.below,Fr.allN,AV.allN,AV.allNL,Loc.below,AO.allN,noN,killO,killT,killD,mkNames,AO.kill,AV.kill,AV.mapN,AV.mapNL];done) | (with_reducible exact ltD (by assumption)) | omega | (simp only [decide_eq_true_eq,decide_eq_false_iff_not] at *;omega)))
  have hd:d.size ≤ 1:=by have:=of_decide_eq_false hd1;omega
  refine loop_nat l.length (fun _=>True) (fun i=>[(2,.d (.v (.string pre))),(3,.d (.v (.string d))),(16,.d (.ro (l.map VerD.row))),(4,.d (.v (.string after))),(18,I i),(5,I most),(17,.os (B + 17) (oL pre d after l i).length)]) (fun i=>[(B + 17,.arr 7 43 ((oL pre d after l i).map RowD.row))]) trivial (Wk.trans (Wk.nameF (s:=17) (n:=B + 17) (k:=7) (E:=43) rfl (by omega) (.inl (by omega)) (fun m=>AO.kill_below (q:=fun m=>decide (m < B)) (by simp) _ (hcl m).1)) (Wk.keep hcl ?_ ?_ ?_)) fun i hi _=>?_
  · simp [Fr.get,newF,Fr.map,AV.kill,AV.mapN,oL]
  · simp [sto,newL,Loc.kill,Loc.set,AO.kill,AV.kill,AV.mapN,oL]
  · simp [newL,Loc.kill,Loc.set]
  clear h1 h2 hc hup
  have hol:=oL_len pre d after l i
  rcases Nat.lt_or_eq_of_le hi with hlt | rfl
  rotate_left 1
  · have hdk:decide ((l.length:Int) < (l.length:Int)) = false:=by simp
    unfold pageL
    have hto:List.take (oL pre d after l l.length).length ((oL pre d after l l.length).map RowD.row) = (oL pre d after l l.length).map RowD.row:=List.take_of_length_le (by simp)
    repeat' (first | (simp -implicitDefEqProofs only [*,Nat.reduceBEq,↓reduceIte,Nat.reduceEqDiff,Nat.reduceAdd,reduceCtorEq,AO.kill,Int.reduceLT,Int.reduceToNat,List.getElem?_nil,Nat.reduceMul,Nat.reducePow,Nat.reduceLeDiff,rowOf_mapD,rowOf_mapI,rowOf_mapA,List.getElem?_cons_zero,List.getElem?_cons_succ,take_map_len,take_map_app,List.getElem?_cons_zero,c9,r9,v9_1,v9_2,u9_3,u9_4,u9_5,u9_6,v9_7,v9_8,v9_9,v9_10,v9_11,v9_12,m9_12,u9_13,v9_14,v9_15,v9_16,u9_17,v9_18,v9_19,v9_20,m9_20,v9_21,v9_22,u9_23,u9_24,u9_25,u9_26,u9_27,u9_28,u9_29,v9_30,v9_31,v9_32,v9_33,m9_33,u9_34,u9_35,u9_36,u9_37,u9_38,u9_39,u9_40,u9_41,u9_42,u9_43,v9_44,u9_45,u9_46,u9_47,u9_48,u9_49,u9_50,u9_51,u9_52,u9_53,u9_54,ty28,ty30,ty9,ty3,ty23,ty41,ty4,ty43,ty5,ty29,bnd,sliceV,Option.getD_some,Option.getD_none,mvcgen_simp]) | (with_reducible refine And.intro ?_ ?_) | (refine EndX.plain ?_) | (refine nil_split (fun hn=>?_) (fun hn=>?_)) | (refine gcall_no not_false ?_) | (refine gdcall_no not_false ?_) | (refine GuardS_of _ _ _ _ _ _ (fun hg=>?_) (fun hg=>?_)) | (refine GuardD_of _ _ _ _ (fun hg=>?_) (fun hg=>?_)) | (refine CondB_of _ _ _ _ _ _ _ ?_ (fun hg=>?_) (fun hg=>?_)))
    all_goals (try (first | ((first | unfold noN | unfold Fr.below | unfold Loc.below);simp [Fr.allN,AV.allN,AV.allNL,AO.allN];done) | rfl | trivial | assumption | (intro row hrow;simp only [List.mem_map] at hrow;obtain ⟨x,_,rfl⟩:=hrow;rfl) | (refine Wk.keep hcl ?_ ?_ ?_;(focus (simp [Fr.get,bnd,sliceV,Option.getD_some,Option.getD_none]<;>fail));(focus (simp [sto,bnd,sliceV,Option.getD_some,Option.getD_none]<;>fail));(focus (simp<;>fail))) | (simp [allP,opd,Fr.get,Fr.below,Fr.allN,AV.allN,AV.allNL,Loc.below,AO.allN,noN,killO,killT,killD,mkNames,AO.kill,AV.kill,AV.mapN,AV.mapNL];done) | (with_reducible exact ltD (by assumption)) | omega | (simp only [decide_eq_true_eq,decide_eq_false_iff_not] at *;omega)))
    all_goals (try (simp only [decide_eq_true_eq,decide_eq_false_iff_not] at hg))
    rw [if_pos (by omega),List.map_take]
  have hwk:IntKind.i64.wrap ((i:Int) + 1) = ((i + 1:Nat):Int):=(IntWalk.i64_in _ (by omega)).trans (by omega)
  have hdk:decide ((i:Int) < (l.length:Int)) = true:=by simpa using hlt
  have hr1:rowOf (l.map VerD.row) i = VerD.row l[i]!:=rowOf_map _ _ _ hlt
  obtain ⟨g2,g3⟩:=h8 l[i]! (by rw [getElem!_pos l i hlt];exact List.getElem_mem _)
  rw [oL_s]
  generalize oL pre d after l i = o at hol ⊢
  have hto:List.take o.length (o.map RowD.row) = o.map RowD.row:=List.take_of_length_le (by simp)
  have hlast:o = [] ∨ 0 < o.length:=by cases o<;>simp
  have hww:∀ (n t:Nat),n ≤ 2 ^ 47 → decide (((pre.size + t:Nat):Int) < (n:Int)) = true → IntKind.i64.wrap (((pre.size + t:Nat):Int) + 1) = ((pre.size + t + 1:Nat):Int):=fun n t h h2=>by
    have:=of_decide_eq_true h2
    exact (IntWalk.i64_in _ (by omega)).trans (by omega)
  have hcase:(i = 0 ∧ latB l i = true) ∨ (0 < i ∧ latB l i = !(l[i - 1]!.key.toList == l[i]!.key.toList)):=by
    rcases Nat.eq_zero_or_pos i with rfl | h0
    · exact .inl ⟨rfl,rfl⟩
    · refine .inr ⟨h0,?_⟩
      unfold latB
      rw [show (i == 0) = false by rw [beq_eq_false_iff_ne];omega];rfl
  rcases hcase with ⟨h0,hlb⟩ | ⟨h0,hlb⟩
  · have hi0:decide ((i:Int) > 0) = false:=by rw [h0];rfl
    rw [hlb,cond_true]
    clear h0 hlb
    generalize l[i]! = u at g2 g3 hr1 ⊢
    obtain ⟨uid,ubkt,ukey,unull,umark,usize,utime,utier,usecs,uvol,upos,util⟩:=u
    simp only at g2 g3
    have hww:=fun t=>hww ukey.size t g3
    cases umark
    rotate_left 1
    · have e1:stepV pre d after o ⟨uid,ubkt,ukey,unull,true,usize,utime,utier,usecs,uvol,upos,util⟩ = o:=rfl
      rw [e1]
      repeat' (first | (simp -implicitDefEqProofs only [*,Nat.reduceBEq,↓reduceIte,Nat.reduceEqDiff,Nat.reduceAdd,reduceCtorEq,AO.kill,Int.reduceLT,Int.reduceToNat,List.getElem?_nil,Nat.reduceMul,Nat.reducePow,Nat.reduceLeDiff,rowOf_mapD,rowOf_mapI,rowOf_mapA,List.getElem?_cons_zero,List.getElem?_cons_succ,take_map_len,take_map_app,List.getElem?_cons_zero,c9,r9,v9_1,v9_2,u9_3,u9_4,u9_5,u9_6,v9_7,v9_8,v9_9,v9_10,v9_11,v9_12,m9_12,u9_13,v9_14,v9_15,v9_16,u9_17,v9_18,v9_19,v9_20,m9_20,v9_21,v9_22,u9_23,u9_24,u9_25,u9_26,u9_27,u9_28,u9_29,v9_30,v9_31,v9_32,v9_33,m9_33,u9_34,u9_35,u9_36,u9_37,u9_38,u9_39,u9_40,u9_41,u9_42,u9_43,v9_44,u9_45,u9_46,u9_47,u9_48,u9_49,u9_50,u9_51,u9_52,u9_53,u9_54,ty28,ty30,ty9,ty3,ty23,ty41,ty4,ty43,ty5,ty29,VerD.row,ints,mvcgen_simp]) | (with_reducible refine And.intro ?_ ?_) | (refine EndX.plain ?_) | (refine nil_split (fun hn=>?_) (fun hn=>?_)) | (refine gcall_no not_false ?_) | (refine gdcall_no not_false ?_) | (refine GuardS_of _ _ _ _ _ _ (fun hg=>?_) (fun hg=>?_)) | (refine GuardD_of _ _ _ _ (fun hg=>?_) (fun hg=>?_)) | (refine CondB_of _ _ _ _ _ _ _ ?_ (fun hg=>?_) (fun hg=>?_)))
      all_goals (try (first | ((first | unfold noN | unfold Fr.below | unfold Loc.below);simp [Fr.allN,AV.allN,AV.allNL,AO.allN];done) | rfl | trivial | assumption | (intro row hrow;simp only [List.mem_map] at hrow;obtain ⟨x,_,rfl⟩:=hrow;rfl) | (refine Wk.keep hcl ?_ ?_ ?_;(focus (simp [Fr.get,VerD.row,ints]<;>fail));(focus (simp [sto,VerD.row,ints]<;>fail));(focus (simp<;>fail))) | (simp [allP,opd,Fr.get,Fr.below,Fr.allN,AV.allN,AV.allNL,Loc.below,AO.allN,noN,killO,killT,killD,mkNames,AO.kill,AV.kill,AV.mapN,AV.mapNL];done) | (with_reducible exact ltD (by assumption)) | omega | (simp only [decide_eq_true_eq,decide_eq_false_iff_not] at *;omega)))
    have hrow:=rowOf_p ⟨uid,ubkt,ukey,unull,false,usize,utime,utier,usecs,uvol,upos,util⟩ true
    have e1:stepV pre d after o ⟨uid,ubkt,ukey,unull,false,usize,utime,utier,usecs,uvol,upos,util⟩ = stepO after o (keyR pre d ⟨uid,ubkt,ukey,unull,false,usize,utime,utier,usecs,uvol,upos,util⟩):=rfl
    rw [e1]
    rcases Nat.lt_or_eq_of_le hd with hd0 | hd0
    · obtain rfl:=no_byte (d:=d) (by omega)
      have hq:keyR pre ⟨#[]⟩ ⟨uid,ubkt,ukey,unull,false,usize,utime,utier,usecs,uvol,upos,util⟩ = (⟨ukey,false,uid,false,true,usize,utier⟩:RowD):=rfl
      rw [hq]
      rcases hlast with rfl | hlast
      · have hl0:decide (((([]:List RowD).length:Nat):Int) > 0) = false:=rfl
        repeat' (first | (simp -implicitDefEqProofs only [*,Nat.reduceBEq,↓reduceIte,Nat.reduceEqDiff,Nat.reduceAdd,reduceCtorEq,AO.kill,Int.reduceLT,Int.reduceToNat,List.getElem?_nil,Nat.reduceMul,Nat.reducePow,Nat.reduceLeDiff,rowOf_mapD,rowOf_mapI,rowOf_mapA,List.getElem?_cons_zero,List.getElem?_cons_succ,take_map_len,take_map_app,List.getElem?_cons_zero,c9,r9,v9_1,v9_2,u9_3,u9_4,u9_5,u9_6,v9_7,v9_8,v9_9,v9_10,v9_11,v9_12,m9_12,u9_13,v9_14,v9_15,v9_16,u9_17,v9_18,v9_19,v9_20,m9_20,v9_21,v9_22,u9_23,u9_24,u9_25,u9_26,u9_27,u9_28,u9_29,v9_30,v9_31,v9_32,v9_33,m9_33,u9_34,u9_35,u9_36,u9_37,u9_38,u9_39,u9_40,u9_41,u9_42,u9_43,v9_44,u9_45,u9_46,u9_47,u9_48,u9_49,u9_50,u9_51,u9_52,u9_53,u9_54,ty28,ty30,ty9,ty3,ty23,ty41,ty4,ty43,ty5,ty29,VerD.row,ints,RowD.row,rowD,comR,bnd,sliceV,idxV,Option.getD_some,Option.getD_none,beq_self_eq_true,feqE,str_ext0,mvcgen_simp]) | (with_reducible refine And.intro ?_ ?_) | (refine call_ro e16 ( hrow) rfl ?_ ?_ ?_ ?_) | (refine gcall_ro e16 ( hrow) rfl ?_ ?_ ?_ ?_) | (refine dcall_ro e16 ( hrow) rfl ?_ ?_ ?_ ?_) | (refine gdcall_ro rfl e16 ( hrow) rfl ?_ ?_ ?_ ?_) | (refine loop_nat (0) (fun t=>∀ m,m < t → (((ukey.data.getD (pre.size + m) 0).toNat:Int) == (((ByteArray.mk #[]).data.getD 0 0).toNat:Int)) = false) (fun t=>[(20,I (pre.size + t:Nat)),(17,.os (B + 17) 0),(19,.lp (B + 19) 0),(18,I i),(4,.d (.v (.string after))),(16,.d (.ro (l.map VerD.row))),(3,.d (.v (.string (ByteArray.mk #[])))),(2,.d (.v (.string pre))),(5,I most)]) (fun t=>[(B + 17,.arr 7 43 []),(B + 19,.box ((⟨ukey,false,uid,false,true,usize,utier⟩:RowD).row.map .d))]) ?_ (Wk.keep hcl ?_ ?_ ?_) fun t ht hFt=>?_;rotate_left 1;(focus (simp [Fr.get,newF,Fr.map,AV.kill,AV.mapN,VerD.row,ints,RowD.row,rowD,comR,bnd,sliceV,idxV,Option.getD_some,Option.getD_none,beq_self_eq_true,feqE,str_ext0]<;>fail));(focus (simp [sto,newL,Loc.kill,Loc.set,AO.kill,AV.kill,AV.mapN,VerD.row,ints,RowD.row,rowD,comR,bnd,sliceV,idxV,Option.getD_some,Option.getD_none,beq_self_eq_true,feqE,str_ext0]<;>fail));(focus (simp [newL,Loc.kill,Loc.set,VerD.row,ints,RowD.row,rowD,comR,bnd,sliceV,idxV,Option.getD_some,Option.getD_none,beq_self_eq_true,feqE,str_ext0]<;>fail));(try have hwt:IntKind.i64.wrap ((t:Int) + 1) = (t:Int) + 1:=IntWalk.i64_in _ (by omega))) | (refine EndX.plain ?_) | (refine nil_split (fun hn=>?_) (fun hn=>?_)) | (refine gcall_no not_false ?_) | (refine gdcall_no not_false ?_) | (refine GuardS_of _ _ _ _ _ _ (fun hg=>?_) (fun hg=>?_)) | (refine GuardD_of _ _ _ _ (fun hg=>?_) (fun hg=>?_)) | (refine CondB_of _ _ _ _ _ _ _ ?_ (fun hg=>?_) (fun hg=>?_)))
        all_goals (try (first | ((first | unfold noN | unfold Fr.below | unfold Loc.below);simp [Fr.allN,AV.allN,AV.allNL,AO.allN];done) | rfl | trivial | assumption | (intro row hrow;simp only [List.mem_map] at hrow;obtain ⟨x,_,rfl⟩:=hrow;rfl) | (refine Wk.keep hcl ?_ ?_ ?_;(focus (simp [Fr.get,VerD.row,ints,RowD.row,rowD,comR,bnd,sliceV,idxV,Option.getD_some,Option.getD_none,beq_self_eq_true,feqE,str_ext0]<;>fail));(focus (simp [sto,VerD.row,ints,RowD.row,rowD,comR,bnd,sliceV,idxV,Option.getD_some,Option.getD_none,beq_self_eq_true,feqE,str_ext0]<;>fail));(focus (simp<;>fail))) | (simp [allP,opd,Fr.get,Fr.below,Fr.allN,AV.allN,AV.allNL,Loc.below,AO.allN,noN,killO,killT,killD,mkNames,AO.kill,AV.kill,AV.mapN,AV.mapNL];done) | (with_reducible exact ltD (by assumption)) | omega | (simp only [decide_eq_true_eq,decide_eq_false_iff_not] at *;omega)))
        all_goals (try (simp only [List.length_map];omega))
        all_goals (try (simp only [decide_eq_true_eq,decide_eq_false_iff_not] at *;omega))
        all_goals first
          | (have hle:leB ukey after = true:=leB_c (by assumption)
             rw [stO_1 (r:=(⟨ukey,false,uid,false,true,usize,utier⟩:RowD)) hle]
             refine Wk.keep hcl ?_ ?_ ?_<;>simp [Fr.get,sto]
             done)
          | (have hle:leB ukey after = false:=leB_c (by assumption)
             rw [stO_4 (r:=(⟨ukey,false,uid,false,true,usize,utier⟩:RowD)) hle]
             refine Wk.keep hcl ?_ ?_ ?_<;>simp [Fr.get,sto,RowD.row]
             done)
      have hl1:decide ((o.length:Int) > 0) = true:=by simpa using hlast
      have hwl:IntKind.i64.wrap ((o.length:Int) - 1) = ((o.length - 1:Nat):Int):=(IntWalk.i64_in _ (by omega)).trans (by omega)
      have hrl:rowOf (o.map RowD.row) (o.length - 1) = RowD.row o[o.length - 1]!:=rowOf_map _ _ _ (by omega)
      generalize hwr:o[o.length - 1]! = wr at hrl
      obtain ⟨wk,wc,wi,wm,wl,ws,wt⟩:=wr
      repeat' (first | (simp -implicitDefEqProofs only [*,Nat.reduceBEq,↓reduceIte,Nat.reduceEqDiff,Nat.reduceAdd,reduceCtorEq,AO.kill,Int.reduceLT,Int.reduceToNat,List.getElem?_nil,Nat.reduceMul,Nat.reducePow,Nat.reduceLeDiff,rowOf_mapD,rowOf_mapI,rowOf_mapA,List.getElem?_cons_zero,List.getElem?_cons_succ,take_map_len,take_map_app,List.getElem?_cons_zero,c9,r9,v9_1,v9_2,u9_3,u9_4,u9_5,u9_6,v9_7,v9_8,v9_9,v9_10,v9_11,v9_12,m9_12,u9_13,v9_14,v9_15,v9_16,u9_17,v9_18,v9_19,v9_20,m9_20,v9_21,v9_22,u9_23,u9_24,u9_25,u9_26,u9_27,u9_28,u9_29,v9_30,v9_31,v9_32,v9_33,m9_33,u9_34,u9_35,u9_36,u9_37,u9_38,u9_39,u9_40,u9_41,u9_42,u9_43,v9_44,u9_45,u9_46,u9_47,u9_48,u9_49,u9_50,u9_51,u9_52,u9_53,u9_54,ty28,ty30,ty9,ty3,ty23,ty41,ty4,ty43,ty5,ty29,VerD.row,ints,RowD.row,rowD,comR,bnd,sliceV,idxV,Option.getD_some,Option.getD_none,beq_self_eq_true,feqE,str_ext0,mvcgen_simp]) | (with_reducible refine And.intro ?_ ?_) | (refine call_ro e16 ( hrow) rfl ?_ ?_ ?_ ?_) | (refine gcall_ro e16 ( hrow) rfl ?_ ?_ ?_ ?_) | (refine dcall_ro e16 ( hrow) rfl ?_ ?_ ?_ ?_) | (refine gdcall_ro rfl e16 ( hrow) rfl ?_ ?_ ?_ ?_) | (refine loop_nat (0) (fun t=>∀ m,m < t → (((ukey.data.getD (pre.size + m) 0).toNat:Int) == (((ByteArray.mk #[]).data.getD 0 0).toNat:Int)) = false) (fun t=>[(20,I (pre.size + t:Nat)),(17,.os (B + 17) o.length),(19,.lp (B + 19) 0),(18,I i),(4,.d (.v (.string after))),(16,.d (.ro (l.map VerD.row))),(3,.d (.v (.string (ByteArray.mk #[])))),(2,.d (.v (.string pre))),(5,I most)]) (fun t=>[(B + 17,.arr 7 43 (o.map RowD.row)),(B + 19,.box ((⟨ukey,false,uid,false,true,usize,utier⟩:RowD).row.map .d))]) ?_ (Wk.keep hcl ?_ ?_ ?_) fun t ht hFt=>?_;rotate_left 1;(focus (simp [Fr.get,newF,Fr.map,AV.kill,AV.mapN,VerD.row,ints,RowD.row,rowD,comR,bnd,sliceV,idxV,Option.getD_some,Option.getD_none,beq_self_eq_true,feqE,str_ext0]<;>fail));(focus (simp [sto,newL,Loc.kill,Loc.set,AO.kill,AV.kill,AV.mapN,VerD.row,ints,RowD.row,rowD,comR,bnd,sliceV,idxV,Option.getD_some,Option.getD_none,beq_self_eq_true,feqE,str_ext0]<;>fail));(focus (simp [newL,Loc.kill,Loc.set,VerD.row,ints,RowD.row,rowD,comR,bnd,sliceV,idxV,Option.getD_some,Option.getD_none,beq_self_eq_true,feqE,str_ext0]<;>fail));(try have hwt:IntKind.i64.wrap ((t:Int) + 1) = (t:Int) + 1:=IntWalk.i64_in _ (by omega))) | (refine EndX.plain ?_) | (refine nil_split (fun hn=>?_) (fun hn=>?_)) | (refine gcall_no not_false ?_) | (refine gdcall_no not_false ?_) | (refine GuardS_of _ _ _ _ _ _ (fun hg=>?_) (fun hg=>?_)) | (refine GuardD_of _ _ _ _ (fun hg=>?_) (fun hg=>?_)) | (refine CondB_of _ _ _ _ _ _ _ ?_ (fun hg=>?_) (fun hg=>?_)))
      all_goals (try (first | ((first | unfold noN | unfold Fr.below | unfold Loc.below);simp [Fr.allN,AV.allN,AV.allNL,AO.allN];done) | rfl | trivial | assumption | (intro row hrow;simp only [List.mem_map] at hrow;obtain ⟨x,_,rfl⟩:=hrow;rfl) | (refine Wk.keep hcl ?_ ?_ ?_;(focus (simp [Fr.get,VerD.row,ints,RowD.row,rowD,comR,bnd,sliceV,idxV,Option.getD_some,Option.getD_none,beq_self_eq_true,feqE,str_ext0]<;>fail));(focus (simp [sto,VerD.row,ints,RowD.row,rowD,comR,bnd,sliceV,idxV,Option.getD_some,Option.getD_none,beq_self_eq_true,feqE,str_ext0]<;>fail));(focus (simp<;>fail))) | (simp [allP,opd,Fr.get,Fr.below,Fr.allN,AV.allN,AV.allNL,Loc.below,AO.allN,noN,killO,killT,killD,mkNames,AO.kill,AV.kill,AV.mapN,AV.mapNL];done) | (with_reducible exact ltD (by assumption)) | omega | (simp only [decide_eq_true_eq,decide_eq_false_iff_not] at *;omega)))
      all_goals (try (simp only [List.length_map];omega))
      all_goals (try (simp only [decide_eq_true_eq,decide_eq_false_iff_not] at *;omega))
      all_goals first
        | (have hle:leB ukey after = true:=leB_c (by assumption)
           rw [stO_1 (r:=(⟨ukey,false,uid,false,true,usize,utier⟩:RowD)) hle]
           refine Wk.keep hcl ?_ ?_ ?_<;>simp [Fr.get,sto]
           done)
        | (have hle:leB ukey after = false:=leB_c (by assumption)
           have hee:eqR ⟨wk,wc,wi,wm,wl,ws,wt⟩ (⟨ukey,false,uid,false,true,usize,utier⟩:RowD) = true:=by assumption
           rw [stO_2 (r:=(⟨ukey,false,uid,false,true,usize,utier⟩:RowD)) hle hlast (by rw [hwr];exact hee)]
           refine Wk.keep hcl ?_ ?_ ?_<;>simp [Fr.get,sto]
           done)
        | (have hle:leB ukey after = false:=leB_c (by assumption)
           have hee:eqR ⟨wk,wc,wi,wm,wl,ws,wt⟩ (⟨ukey,false,uid,false,true,usize,utier⟩:RowD) = false:=by assumption
           rw [stO_3 (r:=(⟨ukey,false,uid,false,true,usize,utier⟩:RowD)) hle hlast (by rw [hwr];exact hee)]
           refine Wk.keep hcl ?_ ?_ ?_<;>simp [Fr.get,sto,RowD.row]
           done)
    have hdq:(d.toList == (ByteArray.mk #[]).toList) = false:=by
      obtain ⟨b,rfl⟩:=one_byte hd0
      rw [ByteArray.toList_eq,ByteArray.toList_eq];rfl
    have hdi:(d.size:Int) = 1:=by rw [hd0];rfl
    rcases hlast with rfl | hlast
    · have hl0:decide (((([]:List RowD).length:Nat):Int) > 0) = false:=rfl
      repeat' (first | (simp -implicitDefEqProofs only [*,Nat.reduceBEq,↓reduceIte,Nat.reduceEqDiff,Nat.reduceAdd,reduceCtorEq,AO.kill,Int.reduceLT,Int.reduceToNat,List.getElem?_nil,Nat.reduceMul,Nat.reducePow,Nat.reduceLeDiff,rowOf_mapD,rowOf_mapI,rowOf_mapA,List.getElem?_cons_zero,List.getElem?_cons_succ,take_map_len,take_map_app,List.getElem?_cons_zero,c9,r9,v9_1,v9_2,u9_3,u9_4,u9_5,u9_6,v9_7,v9_8,v9_9,v9_10,v9_11,v9_12,m9_12,u9_13,v9_14,v9_15,v9_16,u9_17,v9_18,v9_19,v9_20,m9_20,v9_21,v9_22,u9_23,u9_24,u9_25,u9_26,u9_27,u9_28,u9_29,v9_30,v9_31,v9_32,v9_33,m9_33,u9_34,u9_35,u9_36,u9_37,u9_38,u9_39,u9_40,u9_41,u9_42,u9_43,v9_44,u9_45,u9_46,u9_47,u9_48,u9_49,u9_50,u9_51,u9_52,u9_53,u9_54,ty28,ty30,ty9,ty3,ty23,ty41,ty4,ty43,ty5,ty29,VerD.row,ints,RowD.row,rowD,comR,bnd,sliceV,idxV,Option.getD_some,Option.getD_none,beq_self_eq_true,feqE,str_ext0,mvcgen_simp]) | (with_reducible refine And.intro ?_ ?_) | (refine call_ro e16 ( hrow) rfl ?_ ?_ ?_ ?_) | (refine gcall_ro e16 ( hrow) rfl ?_ ?_ ?_ ?_) | (refine dcall_ro e16 ( hrow) rfl ?_ ?_ ?_ ?_) | (refine gdcall_ro rfl e16 ( hrow) rfl ?_ ?_ ?_ ?_) | (refine loop_nat (ukey.size - pre.size) (fun t=>∀ m,m < t → (((ukey.data.getD (pre.size + m) 0).toNat:Int) == ((d.data.getD 0 0).toNat:Int)) = false) (fun t=>[(20,I (pre.size + t:Nat)),(17,.os (B + 17) 0),(19,.lp (B + 19) 0),(18,I i),(4,.d (.v (.string after))),(16,.d (.ro (l.map VerD.row))),(3,.d (.v (.string d))),(2,.d (.v (.string pre))),(5,I most)]) (fun t=>[(B + 17,.arr 7 43 []),(B + 19,.box ((⟨ukey,false,uid,false,true,usize,utier⟩:RowD).row.map .d))]) ?_ (Wk.keep hcl ?_ ?_ ?_) fun t ht hFt=>?_;rotate_left 1;(focus (simp [Fr.get,newF,Fr.map,AV.kill,AV.mapN,VerD.row,ints,RowD.row,rowD,comR,bnd,sliceV,idxV,Option.getD_some,Option.getD_none,beq_self_eq_true,feqE,str_ext0]<;>fail));(focus (simp [sto,newL,Loc.kill,Loc.set,AO.kill,AV.kill,AV.mapN,VerD.row,ints,RowD.row,rowD,comR,bnd,sliceV,idxV,Option.getD_some,Option.getD_none,beq_self_eq_true,feqE,str_ext0]<;>fail));(focus (simp [newL,Loc.kill,Loc.set,VerD.row,ints,RowD.row,rowD,comR,bnd,sliceV,idxV,Option.getD_some,Option.getD_none,beq_self_eq_true,feqE,str_ext0]<;>fail));(try have hwt:IntKind.i64.wrap ((t:Int) + 1) = (t:Int) + 1:=IntWalk.i64_in _ (by omega))) | (refine EndX.plain ?_) | (refine nil_split (fun hn=>?_) (fun hn=>?_)) | (refine gcall_no not_false ?_) | (refine gdcall_no not_false ?_) | (refine GuardS_of _ _ _ _ _ _ (fun hg=>?_) (fun hg=>?_)) | (refine GuardD_of _ _ _ _ (fun hg=>?_) (fun hg=>?_)) | (refine CondB_of _ _ _ _ _ _ _ ?_ (fun hg=>?_) (fun hg=>?_)))
      all_goals (try (first | ((first | unfold noN | unfold Fr.below | unfold Loc.below);simp [Fr.allN,AV.allN,AV.allNL,AO.allN];done) | rfl | trivial | assumption | (intro row hrow;simp only [List.mem_map] at hrow;obtain ⟨x,_,rfl⟩:=hrow;rfl) | (refine Wk.keep hcl ?_ ?_ ?_;(focus (simp [Fr.get,VerD.row,ints,RowD.row,rowD,comR,bnd,sliceV,idxV,Option.getD_some,Option.getD_none,beq_self_eq_true,feqE,str_ext0]<;>fail));(focus (simp [sto,VerD.row,ints,RowD.row,rowD,comR,bnd,sliceV,idxV,Option.getD_some,Option.getD_none,beq_self_eq_true,feqE,str_ext0]<;>fail));(focus (simp<;>fail))) | (simp [allP,opd,Fr.get,Fr.below,Fr.allN,AV.allN,AV.allNL,Loc.below,AO.allN,noN,killO,killT,killD,mkNames,AO.kill,AV.kill,AV.mapN,AV.mapNL];done) | (with_reducible exact ltD (by assumption)) | omega | (simp only [decide_eq_true_eq,decide_eq_false_iff_not] at *;omega)))
      all_goals (try (simp only [List.length_map];omega))
      all_goals (try (simp only [decide_eq_true_eq,decide_eq_false_iff_not] at *;omega))
      all_goals (try (show Wk _ _ _ _ _ ((20,_) :: _) _;refine Wk.keep hcl ?_ ?_ ?_<;>simp [Fr.get,sto,Nat.add_assoc,RowD.row];done))
      all_goals first
        | (have hm:(((ukey.data.getD (pre.size + t) 0).toNat:Int) == ((d.data.getD 0 0).toNat:Int)) = false:=by assumption
           exact allN' hFt hm)
        | (have hm:(((ukey.data.getD (pre.size + t) 0).toNat:Int) == ((d.data.getD 0 0).toNat:Int)) = true:=by assumption
           have ht2:pre.size + t < ukey.size:=by (have h7:decide (((pre.size + t:Nat):Int) < (ukey.size:Int)) = true:=by assumption);have:=of_decide_eq_true h7;omega
           rw [key_hit (v:=⟨uid,ubkt,ukey,unull,false,usize,utime,utier,usecs,uvol,upos,util⟩) hd0 ht2 hm hFt]
           unfold comR
           simp only
           first
             | (have hle:leB (ukey.extract 0 (pre.size + t + 1)) after = true:=leB_c (by assumption)
                rw [stO_1 (r:=(⟨ukey.extract 0 (pre.size + t + 1),true,0,false,false,0,0⟩:RowD)) hle]
                refine Wk.keep hcl ?_ ?_ ?_<;>simp [Fr.get,sto]
                done)
             | (have hle:leB (ukey.extract 0 (pre.size + t + 1)) after = false:=leB_c (by assumption)
                rw [stO_4 (r:=(⟨ukey.extract 0 (pre.size + t + 1),true,0,false,false,0,0⟩:RowD)) hle]
                refine Wk.keep hcl ?_ ?_ ?_<;>simp [Fr.get,sto,RowD.row]
                done)
           )
        | (have ht2:ukey.size ≤ pre.size + t:=by (have h7:decide (((pre.size + t:Nat):Int) < (ukey.size:Int)) = false:=by assumption);have:=of_decide_eq_false h7;omega
           rw [key_no (v:=⟨uid,ubkt,ukey,unull,false,usize,utime,utier,usecs,uvol,upos,util⟩) hd0 ht2 hFt]
           unfold rowD
           simp only
           first
             | (have hle:leB ukey after = true:=leB_c (by assumption)
                rw [stO_1 (r:=(⟨ukey,false,uid,false,true,usize,utier⟩:RowD)) hle]
                refine Wk.keep hcl ?_ ?_ ?_<;>simp [Fr.get,sto]
                done)
             | (have hle:leB ukey after = false:=leB_c (by assumption)
                rw [stO_4 (r:=(⟨ukey,false,uid,false,true,usize,utier⟩:RowD)) hle]
                refine Wk.keep hcl ?_ ?_ ?_<;>simp [Fr.get,sto,RowD.row]
                done)
           )
    have hl1:decide ((o.length:Int) > 0) = true:=by simpa using hlast
    have hwl:IntKind.i64.wrap ((o.length:Int) - 1) = ((o.length - 1:Nat):Int):=(IntWalk.i64_in _ (by omega)).trans (by omega)
    have hrl:rowOf (o.map RowD.row) (o.length - 1) = RowD.row o[o.length - 1]!:=rowOf_map _ _ _ (by omega)
    generalize hwr:o[o.length - 1]! = wr at hrl
    obtain ⟨wk,wc,wi,wm,wl,ws,wt⟩:=wr
    repeat' (first | (simp -implicitDefEqProofs only [*,Nat.reduceBEq,↓reduceIte,Nat.reduceEqDiff,Nat.reduceAdd,reduceCtorEq,AO.kill,Int.reduceLT,Int.reduceToNat,List.getElem?_nil,Nat.reduceMul,Nat.reducePow,Nat.reduceLeDiff,rowOf_mapD,rowOf_mapI,rowOf_mapA,List.getElem?_cons_zero,List.getElem?_cons_succ,take_map_len,take_map_app,List.getElem?_cons_zero,c9,r9,v9_1,v9_2,u9_3,u9_4,u9_5,u9_6,v9_7,v9_8,v9_9,v9_10,v9_11,v9_12,m9_12,u9_13,v9_14,v9_15,v9_16,u9_17,v9_18,v9_19,v9_20,m9_20,v9_21,v9_22,u9_23,u9_24,u9_25,u9_26,u9_27,u9_28,u9_29,v9_30,v9_31,v9_32,v9_33,m9_33,u9_34,u9_35,u9_36,u9_37,u9_38,u9_39,u9_40,u9_41,u9_42,u9_43,v9_44,u9_45,u9_46,u9_47,u9_48,u9_49,u9_50,u9_51,u9_52,u9_53,u9_54,ty28,ty30,ty9,ty3,ty23,ty41,ty4,ty43,ty5,ty29,VerD.row,ints,RowD.row,rowD,comR,bnd,sliceV,idxV,Option.getD_some,Option.getD_none,beq_self_eq_true,feqE,str_ext0,mvcgen_simp]) | (with_reducible refine And.intro ?_ ?_) | (refine call_ro e16 ( hrow) rfl ?_ ?_ ?_ ?_) | (refine gcall_ro e16 ( hrow) rfl ?_ ?_ ?_ ?_) | (refine dcall_ro e16 ( hrow) rfl ?_ ?_ ?_ ?_) | (refine gdcall_ro rfl e16 ( hrow) rfl ?_ ?_ ?_ ?_) | (refine loop_nat (ukey.size - pre.size) (fun t=>∀ m,m < t → (((ukey.data.getD (pre.size + m) 0).toNat:Int) == ((d.data.getD 0 0).toNat:Int)) = false) (fun t=>[(20,I (pre.size + t:Nat)),(17,.os (B + 17) o.length),(19,.lp (B + 19) 0),(18,I i),(4,.d (.v (.string after))),(16,.d (.ro (l.map VerD.row))),(3,.d (.v (.string d))),(2,.d (.v (.string pre))),(5,I most)]) (fun t=>[(B + 17,.arr 7 43 (o.map RowD.row)),(B + 19,.box ((⟨ukey,false,uid,false,true,usize,utier⟩:RowD).row.map .d))]) ?_ (Wk.keep hcl ?_ ?_ ?_) fun t ht hFt=>?_;rotate_left 1;(focus (simp [Fr.get,newF,Fr.map,AV.kill,AV.mapN,VerD.row,ints,RowD.row,rowD,comR,bnd,sliceV,idxV,Option.getD_some,Option.getD_none,beq_self_eq_true,feqE,str_ext0]<;>fail));(focus (simp [sto,newL,Loc.kill,Loc.set,AO.kill,AV.kill,AV.mapN,VerD.row,ints,RowD.row,rowD,comR,bnd,sliceV,idxV,Option.getD_some,Option.getD_none,beq_self_eq_true,feqE,str_ext0]<;>fail));(focus (simp [newL,Loc.kill,Loc.set,VerD.row,ints,RowD.row,rowD,comR,bnd,sliceV,idxV,Option.getD_some,Option.getD_none,beq_self_eq_true,feqE,str_ext0]<;>fail));(try have hwt:IntKind.i64.wrap ((t:Int) + 1) = (t:Int) + 1:=IntWalk.i64_in _ (by omega))) | (refine EndX.plain ?_) | (refine nil_split (fun hn=>?_) (fun hn=>?_)) | (refine gcall_no not_false ?_) | (refine gdcall_no not_false ?_) | (refine GuardS_of _ _ _ _ _ _ (fun hg=>?_) (fun hg=>?_)) | (refine GuardD_of _ _ _ _ (fun hg=>?_) (fun hg=>?_)) | (refine CondB_of _ _ _ _ _ _ _ ?_ (fun hg=>?_) (fun hg=>?_)))
    all_goals (try (first | ((first | unfold noN | unfold Fr.below | unfold Loc.below);simp [Fr.allN,AV.allN,AV.allNL,AO.allN];done) | rfl | trivial | assumption | (intro row hrow;simp only [List.mem_map] at hrow;obtain ⟨x,_,rfl⟩:=hrow;rfl) | (refine Wk.keep hcl ?_ ?_ ?_;(focus (simp [Fr.get,VerD.row,ints,RowD.row,rowD,comR,bnd,sliceV,idxV,Option.getD_some,Option.getD_none,beq_self_eq_true,feqE,str_ext0]<;>fail));(focus (simp [sto,VerD.row,ints,RowD.row,rowD,comR,bnd,sliceV,idxV,Option.getD_some,Option.getD_none,beq_self_eq_true,feqE,str_ext0]<;>fail));(focus (simp<;>fail))) | (simp [allP,opd,Fr.get,Fr.below,Fr.allN,AV.allN,AV.allNL,Loc.below,AO.allN,noN,killO,killT,killD,mkNames,AO.kill,AV.kill,AV.mapN,AV.mapNL];done) | (with_reducible exact ltD (by assumption)) | omega | (simp only [decide_eq_true_eq,decide_eq_false_iff_not] at *;omega)))
    all_goals (try (simp only [List.length_map];omega))
    all_goals (try (simp only [decide_eq_true_eq,decide_eq_false_iff_not] at *;omega))
    all_goals (try (show Wk _ _ _ _ _ ((20,_) :: _) _;refine Wk.keep hcl ?_ ?_ ?_<;>simp [Fr.get,sto,Nat.add_assoc,RowD.row];done))
    all_goals first
      | (have hm:(((ukey.data.getD (pre.size + t) 0).toNat:Int) == ((d.data.getD 0 0).toNat:Int)) = false:=by assumption
         exact allN' hFt hm)
      | (have hm:(((ukey.data.getD (pre.size + t) 0).toNat:Int) == ((d.data.getD 0 0).toNat:Int)) = true:=by assumption
         have ht2:pre.size + t < ukey.size:=by (have h7:decide (((pre.size + t:Nat):Int) < (ukey.size:Int)) = true:=by assumption);have:=of_decide_eq_true h7;omega
         rw [key_hit (v:=⟨uid,ubkt,ukey,unull,false,usize,utime,utier,usecs,uvol,upos,util⟩) hd0 ht2 hm hFt]
         unfold comR
         simp only
         first
           | (have hle:leB (ukey.extract 0 (pre.size + t + 1)) after = true:=leB_c (by assumption)
              rw [stO_1 (r:=(⟨ukey.extract 0 (pre.size + t + 1),true,0,false,false,0,0⟩:RowD)) hle]
              refine Wk.keep hcl ?_ ?_ ?_<;>simp [Fr.get,sto]
              done)
           | (have hle:leB (ukey.extract 0 (pre.size + t + 1)) after = false:=leB_c (by assumption)
              have hee:eqR ⟨wk,wc,wi,wm,wl,ws,wt⟩ (⟨ukey.extract 0 (pre.size + t + 1),true,0,false,false,0,0⟩:RowD) = true:=by assumption
              rw [stO_2 (r:=(⟨ukey.extract 0 (pre.size + t + 1),true,0,false,false,0,0⟩:RowD)) hle hlast (by rw [hwr];exact hee)]
              refine Wk.keep hcl ?_ ?_ ?_<;>simp [Fr.get,sto]
              done)
           | (have hle:leB (ukey.extract 0 (pre.size + t + 1)) after = false:=leB_c (by assumption)
              have hee:eqR ⟨wk,wc,wi,wm,wl,ws,wt⟩ (⟨ukey.extract 0 (pre.size + t + 1),true,0,false,false,0,0⟩:RowD) = false:=by assumption
              rw [stO_3 (r:=(⟨ukey.extract 0 (pre.size + t + 1),true,0,false,false,0,0⟩:RowD)) hle hlast (by rw [hwr];exact hee)]
              refine Wk.keep hcl ?_ ?_ ?_<;>simp [Fr.get,sto,RowD.row]
              done)
         )
      | (have ht2:ukey.size ≤ pre.size + t:=by (have h7:decide (((pre.size + t:Nat):Int) < (ukey.size:Int)) = false:=by assumption);have:=of_decide_eq_false h7;omega
         rw [key_no (v:=⟨uid,ubkt,ukey,unull,false,usize,utime,utier,usecs,uvol,upos,util⟩) hd0 ht2 hFt]
         unfold rowD
         simp only
         first
           | (have hle:leB ukey after = true:=leB_c (by assumption)
              rw [stO_1 (r:=(⟨ukey,false,uid,false,true,usize,utier⟩:RowD)) hle]
              refine Wk.keep hcl ?_ ?_ ?_<;>simp [Fr.get,sto]
              done)
           | (have hle:leB ukey after = false:=leB_c (by assumption)
              have hee:eqR ⟨wk,wc,wi,wm,wl,ws,wt⟩ (⟨ukey,false,uid,false,true,usize,utier⟩:RowD) = true:=by assumption
              rw [stO_2 (r:=(⟨ukey,false,uid,false,true,usize,utier⟩:RowD)) hle hlast (by rw [hwr];exact hee)]
              refine Wk.keep hcl ?_ ?_ ?_<;>simp [Fr.get,sto]
              done)
           | (have hle:leB ukey after = false:=leB_c (by assumption)
              have hee:eqR ⟨wk,wc,wi,wm,wl,ws,wt⟩ (⟨ukey,false,uid,false,true,usize,utier⟩:RowD) = false:=by assumption
              rw [stO_3 (r:=(⟨ukey,false,uid,false,true,usize,utier⟩:RowD)) hle hlast (by rw [hwr];exact hee)]
              refine Wk.keep hcl ?_ ?_ ?_<;>simp [Fr.get,sto,RowD.row]
              done)
         )
  have hi0:decide ((i:Int) > 0) = true:=by simpa using h0
  have hw1:IntKind.i64.wrap ((i:Int) - 1) = ((i - 1:Nat):Int):=(IntWalk.i64_in _ (by omega)).trans (by omega)
  have hr2:rowOf (l.map VerD.row) (i - 1) = VerD.row l[i - 1]!:=rowOf_map _ _ _ (by omega)
  cases hkk:(l[i - 1]!.key.toList == l[i]!.key.toList)
  rotate_left 1
  · rw [hlb,hkk,Bool.not_true,cond_false]
    repeat' (first | (simp -implicitDefEqProofs only [*,Nat.reduceBEq,↓reduceIte,Nat.reduceEqDiff,Nat.reduceAdd,reduceCtorEq,AO.kill,Int.reduceLT,Int.reduceToNat,List.getElem?_nil,Nat.reduceMul,Nat.reducePow,Nat.reduceLeDiff,rowOf_mapD,rowOf_mapI,rowOf_mapA,List.getElem?_cons_zero,List.getElem?_cons_succ,take_map_len,take_map_app,List.getElem?_cons_zero,c9,r9,v9_1,v9_2,u9_3,u9_4,u9_5,u9_6,v9_7,v9_8,v9_9,v9_10,v9_11,v9_12,m9_12,u9_13,v9_14,v9_15,v9_16,u9_17,v9_18,v9_19,v9_20,m9_20,v9_21,v9_22,u9_23,u9_24,u9_25,u9_26,u9_27,u9_28,u9_29,v9_30,v9_31,v9_32,v9_33,m9_33,u9_34,u9_35,u9_36,u9_37,u9_38,u9_39,u9_40,u9_41,u9_42,u9_43,v9_44,u9_45,u9_46,u9_47,u9_48,u9_49,u9_50,u9_51,u9_52,u9_53,u9_54,ty28,ty30,ty9,ty3,ty23,ty41,ty4,ty43,ty5,ty29,VerD.row,ints,mvcgen_simp]) | (with_reducible refine And.intro ?_ ?_) | (refine EndX.plain ?_) | (refine nil_split (fun hn=>?_) (fun hn=>?_)) | (refine gcall_no not_false ?_) | (refine gdcall_no not_false ?_) | (refine GuardS_of _ _ _ _ _ _ (fun hg=>?_) (fun hg=>?_)) | (refine GuardD_of _ _ _ _ (fun hg=>?_) (fun hg=>?_)) | (refine CondB_of _ _ _ _ _ _ _ ?_ (fun hg=>?_) (fun hg=>?_)))
    all_goals (try (first | ((first | unfold noN | unfold Fr.below | unfold Loc.below);simp [Fr.allN,AV.allN,AV.allNL,AO.allN];done) | rfl | trivial | assumption | (intro row hrow;simp only [List.mem_map] at hrow;obtain ⟨x,_,rfl⟩:=hrow;rfl) | (refine Wk.keep hcl ?_ ?_ ?_;(focus (simp [Fr.get,VerD.row,ints]<;>fail));(focus (simp [sto,VerD.row,ints]<;>fail));(focus (simp<;>fail))) | (simp [allP,opd,Fr.get,Fr.below,Fr.allN,AV.allN,AV.allNL,Loc.below,AO.allN,noN,killO,killT,killD,mkNames,AO.kill,AV.kill,AV.mapN,AV.mapNL];done) | (with_reducible exact ltD (by assumption)) | omega | (simp only [decide_eq_true_eq,decide_eq_false_iff_not] at *;omega)))
  rw [hlb,hkk,Bool.not_false,cond_true]
  clear hlb
  generalize l[i - 1]! = u2 at hr2 hkk
  generalize l[i]! = u at g2 g3 hr1 hkk ⊢
  obtain ⟨uid,ubkt,ukey,unull,umark,usize,utime,utier,usecs,uvol,upos,util⟩:=u
  simp only at g2 g3 hkk
  have hww:=fun t=>hww ukey.size t g3
  cases umark
  rotate_left 1
  · have e1:stepV pre d after o ⟨uid,ubkt,ukey,unull,true,usize,utime,utier,usecs,uvol,upos,util⟩ = o:=rfl
    rw [e1]
    repeat' (first | (simp -implicitDefEqProofs only [*,Nat.reduceBEq,↓reduceIte,Nat.reduceEqDiff,Nat.reduceAdd,reduceCtorEq,AO.kill,Int.reduceLT,Int.reduceToNat,List.getElem?_nil,Nat.reduceMul,Nat.reducePow,Nat.reduceLeDiff,rowOf_mapD,rowOf_mapI,rowOf_mapA,List.getElem?_cons_zero,List.getElem?_cons_succ,take_map_len,take_map_app,List.getElem?_cons_zero,c9,r9,v9_1,v9_2,u9_3,u9_4,u9_5,u9_6,v9_7,v9_8,v9_9,v9_10,v9_11,v9_12,m9_12,u9_13,v9_14,v9_15,v9_16,u9_17,v9_18,v9_19,v9_20,m9_20,v9_21,v9_22,u9_23,u9_24,u9_25,u9_26,u9_27,u9_28,u9_29,v9_30,v9_31,v9_32,v9_33,m9_33,u9_34,u9_35,u9_36,u9_37,u9_38,u9_39,u9_40,u9_41,u9_42,u9_43,v9_44,u9_45,u9_46,u9_47,u9_48,u9_49,u9_50,u9_51,u9_52,u9_53,u9_54,ty28,ty30,ty9,ty3,ty23,ty41,ty4,ty43,ty5,ty29,VerD.row,ints,mvcgen_simp]) | (with_reducible refine And.intro ?_ ?_) | (refine EndX.plain ?_) | (refine nil_split (fun hn=>?_) (fun hn=>?_)) | (refine gcall_no not_false ?_) | (refine gdcall_no not_false ?_) | (refine GuardS_of _ _ _ _ _ _ (fun hg=>?_) (fun hg=>?_)) | (refine GuardD_of _ _ _ _ (fun hg=>?_) (fun hg=>?_)) | (refine CondB_of _ _ _ _ _ _ _ ?_ (fun hg=>?_) (fun hg=>?_)))
    all_goals (try (first | ((first | unfold noN | unfold Fr.below | unfold Loc.below);simp [Fr.allN,AV.allN,AV.allNL,AO.allN];done) | rfl | trivial | assumption | (intro row hrow;simp only [List.mem_map] at hrow;obtain ⟨x,_,rfl⟩:=hrow;rfl) | (refine Wk.keep hcl ?_ ?_ ?_;(focus (simp [Fr.get,VerD.row,ints]<;>fail));(focus (simp [sto,VerD.row,ints]<;>fail));(focus (simp<;>fail))) | (simp [allP,opd,Fr.get,Fr.below,Fr.allN,AV.allN,AV.allNL,Loc.below,AO.allN,noN,killO,killT,killD,mkNames,AO.kill,AV.kill,AV.mapN,AV.mapNL];done) | (with_reducible exact ltD (by assumption)) | omega | (simp only [decide_eq_true_eq,decide_eq_false_iff_not] at *;omega)))
  have hrow:=rowOf_p ⟨uid,ubkt,ukey,unull,false,usize,utime,utier,usecs,uvol,upos,util⟩ true
  have e1:stepV pre d after o ⟨uid,ubkt,ukey,unull,false,usize,utime,utier,usecs,uvol,upos,util⟩ = stepO after o (keyR pre d ⟨uid,ubkt,ukey,unull,false,usize,utime,utier,usecs,uvol,upos,util⟩):=rfl
  rw [e1]
  rcases Nat.lt_or_eq_of_le hd with hd0 | hd0
  · obtain rfl:=no_byte (d:=d) (by omega)
    have hq:keyR pre ⟨#[]⟩ ⟨uid,ubkt,ukey,unull,false,usize,utime,utier,usecs,uvol,upos,util⟩ = (⟨ukey,false,uid,false,true,usize,utier⟩:RowD):=rfl
    rw [hq]
    rcases hlast with rfl | hlast
    · have hl0:decide (((([]:List RowD).length:Nat):Int) > 0) = false:=rfl
      repeat' (first | (simp -implicitDefEqProofs only [*,Nat.reduceBEq,↓reduceIte,Nat.reduceEqDiff,Nat.reduceAdd,reduceCtorEq,AO.kill,Int.reduceLT,Int.reduceToNat,List.getElem?_nil,Nat.reduceMul,Nat.reducePow,Nat.reduceLeDiff,rowOf_mapD,rowOf_mapI,rowOf_mapA,List.getElem?_cons_zero,List.getElem?_cons_succ,take_map_len,take_map_app,List.getElem?_cons_zero,c9,r9,v9_1,v9_2,u9_3,u9_4,u9_5,u9_6,v9_7,v9_8,v9_9,v9_10,v9_11,v9_12,m9_12,u9_13,v9_14,v9_15,v9_16,u9_17,v9_18,v9_19,v9_20,m9_20,v9_21,v9_22,u9_23,u9_24,u9_25,u9_26,u9_27,u9_28,u9_29,v9_30,v9_31,v9_32,v9_33,m9_33,u9_34,u9_35,u9_36,u9_37,u9_38,u9_39,u9_40,u9_41,u9_42,u9_43,v9_44,u9_45,u9_46,u9_47,u9_48,u9_49,u9_50,u9_51,u9_52,u9_53,u9_54,ty28,ty30,ty9,ty3,ty23,ty41,ty4,ty43,ty5,ty29,VerD.row,ints,RowD.row,rowD,comR,bnd,sliceV,idxV,Option.getD_some,Option.getD_none,beq_self_eq_true,feqE,str_ext0,mvcgen_simp]) | (with_reducible refine And.intro ?_ ?_) | (refine call_ro e16 ( hrow) rfl ?_ ?_ ?_ ?_) | (refine gcall_ro e16 ( hrow) rfl ?_ ?_ ?_ ?_) | (refine dcall_ro e16 ( hrow) rfl ?_ ?_ ?_ ?_) | (refine gdcall_ro rfl e16 ( hrow) rfl ?_ ?_ ?_ ?_) | (refine loop_nat (0) (fun t=>∀ m,m < t → (((ukey.data.getD (pre.size + m) 0).toNat:Int) == (((ByteArray.mk #[]).data.getD 0 0).toNat:Int)) = false) (fun t=>[(20,I (pre.size + t:Nat)),(17,.os (B + 17) 0),(19,.lp (B + 19) 0),(18,I i),(4,.d (.v (.string after))),(16,.d (.ro (l.map VerD.row))),(3,.d (.v (.string (ByteArray.mk #[])))),(2,.d (.v (.string pre))),(5,I most)]) (fun t=>[(B + 17,.arr 7 43 []),(B + 19,.box ((⟨ukey,false,uid,false,true,usize,utier⟩:RowD).row.map .d))]) ?_ (Wk.keep hcl ?_ ?_ ?_) fun t ht hFt=>?_;rotate_left 1;(focus (simp [Fr.get,newF,Fr.map,AV.kill,AV.mapN,VerD.row,ints,RowD.row,rowD,comR,bnd,sliceV,idxV,Option.getD_some,Option.getD_none,beq_self_eq_true,feqE,str_ext0]<;>fail));(focus (simp [sto,newL,Loc.kill,Loc.set,AO.kill,AV.kill,AV.mapN,VerD.row,ints,RowD.row,rowD,comR,bnd,sliceV,idxV,Option.getD_some,Option.getD_none,beq_self_eq_true,feqE,str_ext0]<;>fail));(focus (simp [newL,Loc.kill,Loc.set,VerD.row,ints,RowD.row,rowD,comR,bnd,sliceV,idxV,Option.getD_some,Option.getD_none,beq_self_eq_true,feqE,str_ext0]<;>fail));(try have hwt:IntKind.i64.wrap ((t:Int) + 1) = (t:Int) + 1:=IntWalk.i64_in _ (by omega))) | (refine EndX.plain ?_) | (refine nil_split (fun hn=>?_) (fun hn=>?_)) | (refine gcall_no not_false ?_) | (refine gdcall_no not_false ?_) | (refine GuardS_of _ _ _ _ _ _ (fun hg=>?_) (fun hg=>?_)) | (refine GuardD_of _ _ _ _ (fun hg=>?_) (fun hg=>?_)) | (refine CondB_of _ _ _ _ _ _ _ ?_ (fun hg=>?_) (fun hg=>?_)))
      all_goals (try (first | ((first | unfold noN | unfold Fr.below | unfold Loc.below);simp [Fr.allN,AV.allN,AV.allNL,AO.allN];done) | rfl | trivial | assumption | (intro row hrow;simp only [List.mem_map] at hrow;obtain ⟨x,_,rfl⟩:=hrow;rfl) | (refine Wk.keep hcl ?_ ?_ ?_;(focus (simp [Fr.get,VerD.row,ints,RowD.row,rowD,comR,bnd,sliceV,idxV,Option.getD_some,Option.getD_none,beq_self_eq_true,feqE,str_ext0]<;>fail));(focus (simp [sto,VerD.row,ints,RowD.row,rowD,comR,bnd,sliceV,idxV,Option.getD_some,Option.getD_none,beq_self_eq_true,feqE,str_ext0]<;>fail));(focus (simp<;>fail))) | (simp [allP,opd,Fr.get,Fr.below,Fr.allN,AV.allN,AV.allNL,Loc.below,AO.allN,noN,killO,killT,killD,mkNames,AO.kill,AV.kill,AV.mapN,AV.mapNL];done) | (with_reducible exact ltD (by assumption)) | omega | (simp only [decide_eq_true_eq,decide_eq_false_iff_not] at *;omega)))
      all_goals (try (simp only [List.length_map];omega))
      all_goals (try (simp only [decide_eq_true_eq,decide_eq_false_iff_not] at *;omega))
      all_goals first
        | (have hle:leB ukey after = true:=leB_c (by assumption)
           rw [stO_1 (r:=(⟨ukey,false,uid,false,true,usize,utier⟩:RowD)) hle]
           refine Wk.keep hcl ?_ ?_ ?_<;>simp [Fr.get,sto]
           done)
        | (have hle:leB ukey after = false:=leB_c (by assumption)
           rw [stO_4 (r:=(⟨ukey,false,uid,false,true,usize,utier⟩:RowD)) hle]
           refine Wk.keep hcl ?_ ?_ ?_<;>simp [Fr.get,sto,RowD.row]
           done)
    have hl1:decide ((o.length:Int) > 0) = true:=by simpa using hlast
    have hwl:IntKind.i64.wrap ((o.length:Int) - 1) = ((o.length - 1:Nat):Int):=(IntWalk.i64_in _ (by omega)).trans (by omega)
    have hrl:rowOf (o.map RowD.row) (o.length - 1) = RowD.row o[o.length - 1]!:=rowOf_map _ _ _ (by omega)
    generalize hwr:o[o.length - 1]! = wr at hrl
    obtain ⟨wk,wc,wi,wm,wl,ws,wt⟩:=wr
    repeat' (first | (simp -implicitDefEqProofs only [*,Nat.reduceBEq,↓reduceIte,Nat.reduceEqDiff,Nat.reduceAdd,reduceCtorEq,AO.kill,Int.reduceLT,Int.reduceToNat,List.getElem?_nil,Nat.reduceMul,Nat.reducePow,Nat.reduceLeDiff,rowOf_mapD,rowOf_mapI,rowOf_mapA,List.getElem?_cons_zero,List.getElem?_cons_succ,take_map_len,take_map_app,List.getElem?_cons_zero,c9,r9,v9_1,v9_2,u9_3,u9_4,u9_5,u9_6,v9_7,v9_8,v9_9,v9_10,v9_11,v9_12,m9_12,u9_13,v9_14,v9_15,v9_16,u9_17,v9_18,v9_19,v9_20,m9_20,v9_21,v9_22,u9_23,u9_24,u9_25,u9_26,u9_27,u9_28,u9_29,v9_30,v9_31,v9_32,v9_33,m9_33,u9_34,u9_35,u9_36,u9_37,u9_38,u9_39,u9_40,u9_41,u9_42,u9_43,v9_44,u9_45,u9_46,u9_47,u9_48,u9_49,u9_50,u9_51,u9_52,u9_53,u9_54,ty28,ty30,ty9,ty3,ty23,ty41,ty4,ty43,ty5,ty29,VerD.row,ints,RowD.row,rowD,comR,bnd,sliceV,idxV,Option.getD_some,Option.getD_none,beq_self_eq_true,feqE,str_ext0,mvcgen_simp]) | (with_reducible refine And.intro ?_ ?_) | (refine call_ro e16 ( hrow) rfl ?_ ?_ ?_ ?_) | (refine gcall_ro e16 ( hrow) rfl ?_ ?_ ?_ ?_) | (refine dcall_ro e16 ( hrow) rfl ?_ ?_ ?_ ?_) | (refine gdcall_ro rfl e16 ( hrow) rfl ?_ ?_ ?_ ?_) | (refine loop_nat (0) (fun t=>∀ m,m < t → (((ukey.data.getD (pre.size + m) 0).toNat:Int) == (((ByteArray.mk #[]).data.getD 0 0).toNat:Int)) = false) (fun t=>[(20,I (pre.size + t:Nat)),(17,.os (B + 17) o.length),(19,.lp (B + 19) 0),(18,I i),(4,.d (.v (.string after))),(16,.d (.ro (l.map VerD.row))),(3,.d (.v (.string (ByteArray.mk #[])))),(2,.d (.v (.string pre))),(5,I most)]) (fun t=>[(B + 17,.arr 7 43 (o.map RowD.row)),(B + 19,.box ((⟨ukey,false,uid,false,true,usize,utier⟩:RowD).row.map .d))]) ?_ (Wk.keep hcl ?_ ?_ ?_) fun t ht hFt=>?_;rotate_left 1;(focus (simp [Fr.get,newF,Fr.map,AV.kill,AV.mapN,VerD.row,ints,RowD.row,rowD,comR,bnd,sliceV,idxV,Option.getD_some,Option.getD_none,beq_self_eq_true,feqE,str_ext0]<;>fail));(focus (simp [sto,newL,Loc.kill,Loc.set,AO.kill,AV.kill,AV.mapN,VerD.row,ints,RowD.row,rowD,comR,bnd,sliceV,idxV,Option.getD_some,Option.getD_none,beq_self_eq_true,feqE,str_ext0]<;>fail));(focus (simp [newL,Loc.kill,Loc.set,VerD.row,ints,RowD.row,rowD,comR,bnd,sliceV,idxV,Option.getD_some,Option.getD_none,beq_self_eq_true,feqE,str_ext0]<;>fail));(try have hwt:IntKind.i64.wrap ((t:Int) + 1) = (t:Int) + 1:=IntWalk.i64_in _ (by omega))) | (refine EndX.plain ?_) | (refine nil_split (fun hn=>?_) (fun hn=>?_)) | (refine gcall_no not_false ?_) | (refine gdcall_no not_false ?_) | (refine GuardS_of _ _ _ _ _ _ (fun hg=>?_) (fun hg=>?_)) | (refine GuardD_of _ _ _ _ (fun hg=>?_) (fun hg=>?_)) | (refine CondB_of _ _ _ _ _ _ _ ?_ (fun hg=>?_) (fun hg=>?_)))
    all_goals (try (first | ((first | unfold noN | unfold Fr.below | unfold Loc.below);simp [Fr.allN,AV.allN,AV.allNL,AO.allN];done) | rfl | trivial | assumption | (intro row hrow;simp only [List.mem_map] at hrow;obtain ⟨x,_,rfl⟩:=hrow;rfl) | (refine Wk.keep hcl ?_ ?_ ?_;(focus (simp [Fr.get,VerD.row,ints,RowD.row,rowD,comR,bnd,sliceV,idxV,Option.getD_some,Option.getD_none,beq_self_eq_true,feqE,str_ext0]<;>fail));(focus (simp [sto,VerD.row,ints,RowD.row,rowD,comR,bnd,sliceV,idxV,Option.getD_some,Option.getD_none,beq_self_eq_true,feqE,str_ext0]<;>fail));(focus (simp<;>fail))) | (simp [allP,opd,Fr.get,Fr.below,Fr.allN,AV.allN,AV.allNL,Loc.below,AO.allN,noN,killO,killT,killD,mkNames,AO.kill,AV.kill,AV.mapN,AV.mapNL];done) | (with_reducible exact ltD (by assumption)) | omega | (simp only [decide_eq_true_eq,decide_eq_false_iff_not] at *;omega)))
    all_goals (try (simp only [List.length_map];omega))
    all_goals (try (simp only [decide_eq_true_eq,decide_eq_false_iff_not] at *;omega))
    all_goals first
      | (have hle:leB ukey after = true:=leB_c (by assumption)
         rw [stO_1 (r:=(⟨ukey,false,uid,false,true,usize,utier⟩:RowD)) hle]
         refine Wk.keep hcl ?_ ?_ ?_<;>simp [Fr.get,sto]
         done)
      | (have hle:leB ukey after = false:=leB_c (by assumption)
         have hee:eqR ⟨wk,wc,wi,wm,wl,ws,wt⟩ (⟨ukey,false,uid,false,true,usize,utier⟩:RowD) = true:=by assumption
         rw [stO_2 (r:=(⟨ukey,false,uid,false,true,usize,utier⟩:RowD)) hle hlast (by rw [hwr];exact hee)]
         refine Wk.keep hcl ?_ ?_ ?_<;>simp [Fr.get,sto]
         done)
      | (have hle:leB ukey after = false:=leB_c (by assumption)
         have hee:eqR ⟨wk,wc,wi,wm,wl,ws,wt⟩ (⟨ukey,false,uid,false,true,usize,utier⟩:RowD) = false:=by assumption
         rw [stO_3 (r:=(⟨ukey,false,uid,false,true,usize,utier⟩:RowD)) hle hlast (by rw [hwr];exact hee)]
         refine Wk.keep hcl ?_ ?_ ?_<;>simp [Fr.get,sto,RowD.row]
         done)
  have hdq:(d.toList == (ByteArray.mk #[]).toList) = false:=by
    obtain ⟨b,rfl⟩:=one_byte hd0
    rw [ByteArray.toList_eq,ByteArray.toList_eq];rfl
  have hdi:(d.size:Int) = 1:=by rw [hd0];rfl
  rcases hlast with rfl | hlast
  · have hl0:decide (((([]:List RowD).length:Nat):Int) > 0) = false:=rfl
    repeat' (first | (simp -implicitDefEqProofs only [*,Nat.reduceBEq,↓reduceIte,Nat.reduceEqDiff,Nat.reduceAdd,reduceCtorEq,AO.kill,Int.reduceLT,Int.reduceToNat,List.getElem?_nil,Nat.reduceMul,Nat.reducePow,Nat.reduceLeDiff,rowOf_mapD,rowOf_mapI,rowOf_mapA,List.getElem?_cons_zero,List.getElem?_cons_succ,take_map_len,take_map_app,List.getElem?_cons_zero,c9,r9,v9_1,v9_2,u9_3,u9_4,u9_5,u9_6,v9_7,v9_8,v9_9,v9_10,v9_11,v9_12,m9_12,u9_13,v9_14,v9_15,v9_16,u9_17,v9_18,v9_19,v9_20,m9_20,v9_21,v9_22,u9_23,u9_24,u9_25,u9_26,u9_27,u9_28,u9_29,v9_30,v9_31,v9_32,v9_33,m9_33,u9_34,u9_35,u9_36,u9_37,u9_38,u9_39,u9_40,u9_41,u9_42,u9_43,v9_44,u9_45,u9_46,u9_47,u9_48,u9_49,u9_50,u9_51,u9_52,u9_53,u9_54,ty28,ty30,ty9,ty3,ty23,ty41,ty4,ty43,ty5,ty29,VerD.row,ints,RowD.row,rowD,comR,bnd,sliceV,idxV,Option.getD_some,Option.getD_none,beq_self_eq_true,feqE,str_ext0,mvcgen_simp]) | (with_reducible refine And.intro ?_ ?_) | (refine call_ro e16 ( hrow) rfl ?_ ?_ ?_ ?_) | (refine gcall_ro e16 ( hrow) rfl ?_ ?_ ?_ ?_) | (refine dcall_ro e16 ( hrow) rfl ?_ ?_ ?_ ?_) | (refine gdcall_ro rfl e16 ( hrow) rfl ?_ ?_ ?_ ?_) | (refine loop_nat (ukey.size - pre.size) (fun t=>∀ m,m < t → (((ukey.data.getD (pre.size + m) 0).toNat:Int) == ((d.data.getD 0 0).toNat:Int)) = false) (fun t=>[(20,I (pre.size + t:Nat)),(17,.os (B + 17) 0),(19,.lp (B + 19) 0),(18,I i),(4,.d (.v (.string after))),(16,.d (.ro (l.map VerD.row))),(3,.d (.v (.string d))),(2,.d (.v (.string pre))),(5,I most)]) (fun t=>[(B + 17,.arr 7 43 []),(B + 19,.box ((⟨ukey,false,uid,false,true,usize,utier⟩:RowD).row.map .d))]) ?_ (Wk.keep hcl ?_ ?_ ?_) fun t ht hFt=>?_;rotate_left 1;(focus (simp [Fr.get,newF,Fr.map,AV.kill,AV.mapN,VerD.row,ints,RowD.row,rowD,comR,bnd,sliceV,idxV,Option.getD_some,Option.getD_none,beq_self_eq_true,feqE,str_ext0]<;>fail));(focus (simp [sto,newL,Loc.kill,Loc.set,AO.kill,AV.kill,AV.mapN,VerD.row,ints,RowD.row,rowD,comR,bnd,sliceV,idxV,Option.getD_some,Option.getD_none,beq_self_eq_true,feqE,str_ext0]<;>fail));(focus (simp [newL,Loc.kill,Loc.set,VerD.row,ints,RowD.row,rowD,comR,bnd,sliceV,idxV,Option.getD_some,Option.getD_none,beq_self_eq_true,feqE,str_ext0]<;>fail));(try have hwt:IntKind.i64.wrap ((t:Int) + 1) = (t:Int) + 1:=IntWalk.i64_in _ (by omega))) | (refine EndX.plain ?_) | (refine nil_split (fun hn=>?_) (fun hn=>?_)) | (refine gcall_no not_false ?_) | (refine gdcall_no not_false ?_) | (refine GuardS_of _ _ _ _ _ _ (fun hg=>?_) (fun hg=>?_)) | (refine GuardD_of _ _ _ _ (fun hg=>?_) (fun hg=>?_)) | (refine CondB_of _ _ _ _ _ _ _ ?_ (fun hg=>?_) (fun hg=>?_)))
    all_goals (try (first | ((first | unfold noN | unfold Fr.below | unfold Loc.below);simp [Fr.allN,AV.allN,AV.allNL,AO.allN];done) | rfl | trivial | assumption | (intro row hrow;simp only [List.mem_map] at hrow;obtain ⟨x,_,rfl⟩:=hrow;rfl) | (refine Wk.keep hcl ?_ ?_ ?_;(focus (simp [Fr.get,VerD.row,ints,RowD.row,rowD,comR,bnd,sliceV,idxV,Option.getD_some,Option.getD_none,beq_self_eq_true,feqE,str_ext0]<;>fail));(focus (simp [sto,VerD.row,ints,RowD.row,rowD,comR,bnd,sliceV,idxV,Option.getD_some,Option.getD_none,beq_self_eq_true,feqE,str_ext0]<;>fail));(focus (simp<;>fail))) | (simp [allP,opd,Fr.get,Fr.below,Fr.allN,AV.allN,AV.allNL,Loc.below,AO.allN,noN,killO,killT,killD,mkNames,AO.kill,AV.kill,AV.mapN,AV.mapNL];done) | (with_reducible exact ltD (by assumption)) | omega | (simp only [decide_eq_true_eq,decide_eq_false_iff_not] at *;omega)))
    all_goals (try (simp only [List.length_map];omega))
    all_goals (try (simp only [decide_eq_true_eq,decide_eq_false_iff_not] at *;omega))
    all_goals (try (show Wk _ _ _ _ _ ((20,_) :: _) _;refine Wk.keep hcl ?_ ?_ ?_<;>simp [Fr.get,sto,Nat.add_assoc,RowD.row];done))
    all_goals first
      | (have hm:(((ukey.data.getD (pre.size + t) 0).toNat:Int) == ((d.data.getD 0 0).toNat:Int)) = false:=by assumption
         exact allN' hFt hm)
      | (have hm:(((ukey.data.getD (pre.size + t) 0).toNat:Int) == ((d.data.getD 0 0).toNat:Int)) = true:=by assumption
         have ht2:pre.size + t < ukey.size:=by (have h7:decide (((pre.size + t:Nat):Int) < (ukey.size:Int)) = true:=by assumption);have:=of_decide_eq_true h7;omega
         rw [key_hit (v:=⟨uid,ubkt,ukey,unull,false,usize,utime,utier,usecs,uvol,upos,util⟩) hd0 ht2 hm hFt]
         unfold comR
         simp only
         first
           | (have hle:leB (ukey.extract 0 (pre.size + t + 1)) after = true:=leB_c (by assumption)
              rw [stO_1 (r:=(⟨ukey.extract 0 (pre.size + t + 1),true,0,false,false,0,0⟩:RowD)) hle]
              refine Wk.keep hcl ?_ ?_ ?_<;>simp [Fr.get,sto]
              done)
           | (have hle:leB (ukey.extract 0 (pre.size + t + 1)) after = false:=leB_c (by assumption)
              rw [stO_4 (r:=(⟨ukey.extract 0 (pre.size + t + 1),true,0,false,false,0,0⟩:RowD)) hle]
              refine Wk.keep hcl ?_ ?_ ?_<;>simp [Fr.get,sto,RowD.row]
              done)
         )
      | (have ht2:ukey.size ≤ pre.size + t:=by (have h7:decide (((pre.size + t:Nat):Int) < (ukey.size:Int)) = false:=by assumption);have:=of_decide_eq_false h7;omega
         rw [key_no (v:=⟨uid,ubkt,ukey,unull,false,usize,utime,utier,usecs,uvol,upos,util⟩) hd0 ht2 hFt]
         unfold rowD
         simp only
         first
           | (have hle:leB ukey after = true:=leB_c (by assumption)
              rw [stO_1 (r:=(⟨ukey,false,uid,false,true,usize,utier⟩:RowD)) hle]
              refine Wk.keep hcl ?_ ?_ ?_<;>simp [Fr.get,sto]
              done)
           | (have hle:leB ukey after = false:=leB_c (by assumption)
              rw [stO_4 (r:=(⟨ukey,false,uid,false,true,usize,utier⟩:RowD)) hle]
              refine Wk.keep hcl ?_ ?_ ?_<;>simp [Fr.get,sto,RowD.row]
              done)
         )
  have hl1:decide ((o.length:Int) > 0) = true:=by simpa using hlast
  have hwl:IntKind.i64.wrap ((o.length:Int) - 1) = ((o.length - 1:Nat):Int):=(IntWalk.i64_in _ (by omega)).trans (by omega)
  have hrl:rowOf (o.map RowD.row) (o.length - 1) = RowD.row o[o.length - 1]!:=rowOf_map _ _ _ (by omega)
  generalize hwr:o[o.length - 1]! = wr at hrl
  obtain ⟨wk,wc,wi,wm,wl,ws,wt⟩:=wr
  repeat' (first | (simp -implicitDefEqProofs only [*,Nat.reduceBEq,↓reduceIte,Nat.reduceEqDiff,Nat.reduceAdd,reduceCtorEq,AO.kill,Int.reduceLT,Int.reduceToNat,List.getElem?_nil,Nat.reduceMul,Nat.reducePow,Nat.reduceLeDiff,rowOf_mapD,rowOf_mapI,rowOf_mapA,List.getElem?_cons_zero,List.getElem?_cons_succ,take_map_len,take_map_app,List.getElem?_cons_zero,c9,r9,v9_1,v9_2,u9_3,u9_4,u9_5,u9_6,v9_7,v9_8,v9_9,v9_10,v9_11,v9_12,m9_12,u9_13,v9_14,v9_15,v9_16,u9_17,v9_18,v9_19,v9_20,m9_20,v9_21,v9_22,u9_23,u9_24,u9_25,u9_26,u9_27,u9_28,u9_29,v9_30,v9_31,v9_32,v9_33,m9_33,u9_34,u9_35,u9_36,u9_37,u9_38,u9_39,u9_40,u9_41,u9_42,u9_43,v9_44,u9_45,u9_46,u9_47,u9_48,u9_49,u9_50,u9_51,u9_52,u9_53,u9_54,ty28,ty30,ty9,ty3,ty23,ty41,ty4,ty43,ty5,ty29,VerD.row,ints,RowD.row,rowD,comR,bnd,sliceV,idxV,Option.getD_some,Option.getD_none,beq_self_eq_true,feqE,str_ext0,mvcgen_simp]) | (with_reducible refine And.intro ?_ ?_) | (refine call_ro e16 ( hrow) rfl ?_ ?_ ?_ ?_) | (refine gcall_ro e16 ( hrow) rfl ?_ ?_ ?_ ?_) | (refine dcall_ro e16 ( hrow) rfl ?_ ?_ ?_ ?_) | (refine gdcall_ro rfl e16 ( hrow) rfl ?_ ?_ ?_ ?_) | (refine loop_nat (ukey.size - pre.size) (fun t=>∀ m,m < t → (((ukey.data.getD (pre.size + m) 0).toNat:Int) == ((d.data.getD 0 0).toNat:Int)) = false) (fun t=>[(20,I (pre.size + t:Nat)),(17,.os (B + 17) o.length),(19,.lp (B + 19) 0),(18,I i),(4,.d (.v (.string after))),(16,.d (.ro (l.map VerD.row))),(3,.d (.v (.string d))),(2,.d (.v (.string pre))),(5,I most)]) (fun t=>[(B + 17,.arr 7 43 (o.map RowD.row)),(B + 19,.box ((⟨ukey,false,uid,false,true,usize,utier⟩:RowD).row.map .d))]) ?_ (Wk.keep hcl ?_ ?_ ?_) fun t ht hFt=>?_;rotate_left 1;(focus (simp [Fr.get,newF,Fr.map,AV.kill,AV.mapN,VerD.row,ints,RowD.row,rowD,comR,bnd,sliceV,idxV,Option.getD_some,Option.getD_none,beq_self_eq_true,feqE,str_ext0]<;>fail));(focus (simp [sto,newL,Loc.kill,Loc.set,AO.kill,AV.kill,AV.mapN,VerD.row,ints,RowD.row,rowD,comR,bnd,sliceV,idxV,Option.getD_some,Option.getD_none,beq_self_eq_true,feqE,str_ext0]<;>fail));(focus (simp [newL,Loc.kill,Loc.set,VerD.row,ints,RowD.row,rowD,comR,bnd,sliceV,idxV,Option.getD_some,Option.getD_none,beq_self_eq_true,feqE,str_ext0]<;>fail));(try have hwt:IntKind.i64.wrap ((t:Int) + 1) = (t:Int) + 1:=IntWalk.i64_in _ (by omega))) | (refine EndX.plain ?_) | (refine nil_split (fun hn=>?_) (fun hn=>?_)) | (refine gcall_no not_false ?_) | (refine gdcall_no not_false ?_) | (refine GuardS_of _ _ _ _ _ _ (fun hg=>?_) (fun hg=>?_)) | (refine GuardD_of _ _ _ _ (fun hg=>?_) (fun hg=>?_)) | (refine CondB_of _ _ _ _ _ _ _ ?_ (fun hg=>?_) (fun hg=>?_)))
  all_goals (try (first | ((first | unfold noN | unfold Fr.below | unfold Loc.below);simp [Fr.allN,AV.allN,AV.allNL,AO.allN];done) | rfl | trivial | assumption | (intro row hrow;simp only [List.mem_map] at hrow;obtain ⟨x,_,rfl⟩:=hrow;rfl) | (refine Wk.keep hcl ?_ ?_ ?_;(focus (simp [Fr.get,VerD.row,ints,RowD.row,rowD,comR,bnd,sliceV,idxV,Option.getD_some,Option.getD_none,beq_self_eq_true,feqE,str_ext0]<;>fail));(focus (simp [sto,VerD.row,ints,RowD.row,rowD,comR,bnd,sliceV,idxV,Option.getD_some,Option.getD_none,beq_self_eq_true,feqE,str_ext0]<;>fail));(focus (simp<;>fail))) | (simp [allP,opd,Fr.get,Fr.below,Fr.allN,AV.allN,AV.allNL,Loc.below,AO.allN,noN,killO,killT,killD,mkNames,AO.kill,AV.kill,AV.mapN,AV.mapNL];done) | (with_reducible exact ltD (by assumption)) | omega | (simp only [decide_eq_true_eq,decide_eq_false_iff_not] at *;omega)))
  all_goals (try (simp only [List.length_map];omega))
  all_goals (try (simp only [decide_eq_true_eq,decide_eq_false_iff_not] at *;omega))
  all_goals (try (show Wk _ _ _ _ _ ((20,_) :: _) _;refine Wk.keep hcl ?_ ?_ ?_<;>simp [Fr.get,sto,Nat.add_assoc,RowD.row];done))
  all_goals first
    | (have hm:(((ukey.data.getD (pre.size + t) 0).toNat:Int) == ((d.data.getD 0 0).toNat:Int)) = false:=by assumption
       exact allN' hFt hm)
    | (have hm:(((ukey.data.getD (pre.size + t) 0).toNat:Int) == ((d.data.getD 0 0).toNat:Int)) = true:=by assumption
       have ht2:pre.size + t < ukey.size:=by (have h7:decide (((pre.size + t:Nat):Int) < (ukey.size:Int)) = true:=by assumption);have:=of_decide_eq_true h7;omega
       rw [key_hit (v:=⟨uid,ubkt,ukey,unull,false,usize,utime,utier,usecs,uvol,upos,util⟩) hd0 ht2 hm hFt]
       unfold comR
       simp only
       first
         | (have hle:leB (ukey.extract 0 (pre.size + t + 1)) after = true:=leB_c (by assumption)
            rw [stO_1 (r:=(⟨ukey.extract 0 (pre.size + t + 1),true,0,false,false,0,0⟩:RowD)) hle]
            refine Wk.keep hcl ?_ ?_ ?_<;>simp [Fr.get,sto]
            done)
         | (have hle:leB (ukey.extract 0 (pre.size + t + 1)) after = false:=leB_c (by assumption)
            have hee:eqR ⟨wk,wc,wi,wm,wl,ws,wt⟩ (⟨ukey.extract 0 (pre.size + t + 1),true,0,false,false,0,0⟩:RowD) = true:=by assumption
            rw [stO_2 (r:=(⟨ukey.extract 0 (pre.size + t + 1),true,0,false,false,0,0⟩:RowD)) hle hlast (by rw [hwr];exact hee)]
            refine Wk.keep hcl ?_ ?_ ?_<;>simp [Fr.get,sto]
            done)
         | (have hle:leB (ukey.extract 0 (pre.size + t + 1)) after = false:=leB_c (by assumption)
            have hee:eqR ⟨wk,wc,wi,wm,wl,ws,wt⟩ (⟨ukey.extract 0 (pre.size + t + 1),true,0,false,false,0,0⟩:RowD) = false:=by assumption
            rw [stO_3 (r:=(⟨ukey.extract 0 (pre.size + t + 1),true,0,false,false,0,0⟩:RowD)) hle hlast (by rw [hwr];exact hee)]
            refine Wk.keep hcl ?_ ?_ ?_<;>simp [Fr.get,sto,RowD.row]
            done)
       )
    | (have ht2:ukey.size ≤ pre.size + t:=by (have h7:decide (((pre.size + t:Nat):Int) < (ukey.size:Int)) = false:=by assumption);have:=of_decide_eq_false h7;omega
       rw [key_no (v:=⟨uid,ubkt,ukey,unull,false,usize,utime,utier,usecs,uvol,upos,util⟩) hd0 ht2 hFt]
       unfold rowD
       simp only
       first
         | (have hle:leB ukey after = true:=leB_c (by assumption)
            rw [stO_1 (r:=(⟨ukey,false,uid,false,true,usize,utier⟩:RowD)) hle]
            refine Wk.keep hcl ?_ ?_ ?_<;>simp [Fr.get,sto]
            done)
         | (have hle:leB ukey after = false:=leB_c (by assumption)
            have hee:eqR ⟨wk,wc,wi,wm,wl,ws,wt⟩ (⟨ukey,false,uid,false,true,usize,utier⟩:RowD) = true:=by assumption
            rw [stO_2 (r:=(⟨ukey,false,uid,false,true,usize,utier⟩:RowD)) hle hlast (by rw [hwr];exact hee)]
            refine Wk.keep hcl ?_ ?_ ?_<;>simp [Fr.get,sto]
            done)
         | (have hle:leB ukey after = false:=leB_c (by assumption)
            have hee:eqR ⟨wk,wc,wi,wm,wl,ws,wt⟩ (⟨ukey,false,uid,false,true,usize,utier⟩:RowD) = false:=by assumption
            rw [stO_3 (r:=(⟨ukey,false,uid,false,true,usize,utier⟩:RowD)) hle hlast (by rw [hwr];exact hee)]
            refine Wk.keep hcl ?_ ?_ ?_<;>simp [Fr.get,sto,RowD.row]
            done)
       )
end Go.Proofs.Ytikgiadbkjmabaa
