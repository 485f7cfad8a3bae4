/- The reference: versions that may be. -/
import Derived.Test.YtijpmidnclbhpaaSound
import Derived.Test.YtijpmidnclbhpaaTypes
namespace Go.Proofs.Ytijpmidnclbhpaa
open Go.RowKit
set_option maxRecDepth 100000
def o64_1:List SO:=((SO.mk (some 9) (.move (.tmp 1)) none) :: (SO.mk (some 10) (.bin .quo 3 (.tmp 8) (.tmp 9)) none) :: (SO.mk (some 4) (.move (.tmp 10)) none) :: [])
theorem v64_1:type_of% (@swl _ _ o64_1.eq_1):=@swl _ _ o64_1.eq_1
def c64_2:SC:=(.seq (.reg ((SO.mk (some 5) (.move (.tmp 0)) none) :: (SO.mk (some 6) (.move (.tmp 1)) none) :: (SO.mk (some 7) (.bin .add 3 (.tmp 5) (.tmp 6)) none) :: (SO.mk (some 8) (.bin .sub 3 (.tmp 7) (.const (Value.int .i64 1))) none) :: o64_1)) (.keep [4] .ret))
theorem u64_2:type_of% (@swc _ _ c64_2.eq_1):=@swc _ _ c64_2.eq_1
def c64:SC:=(.seq (.reg [SO.mk (some 4) (.move (.const (Value.int .i64 0))) none]) (.keep [0,1] c64_2))
theorem c64_eq:annC Try.f64 = some c64:=by kernel_rfl
theorem r64:Try.f64.results.toList = [.tmp 4]:=by kernel_rfl
theorem e64:enters Try.prog 64 = true:=by kernel_rfl
def o61_1:List SO:=((SO.mk (some 30) (.load 3 (.tmp 29)) (some (26 ,false))) :: (SO.mk (some 31) (.call 58 [(.tmp 28),(.const (Value.int .i64 0)),(.tmp 30)]) (some (26 ,false))) :: (SO.mk (some 32) (.un .not (.tmp 31)) (some (26 ,false))) :: (SO.mk (some 33) (.pick (.tmp 26) (.const (Value.bool true)) (.tmp 32)) none) :: [])
theorem v61_1:type_of% (@swl _ _ o61_1.eq_1):=@swl _ _ o61_1.eq_1
def o61_2:List SO:=((SO.mk (some 26) (.move (.tmp 25)) none) :: (SO.mk (some 27) (.faddr 51 (.tmp 3) 6) (some (26 ,false))) :: (SO.mk (some 28) (.load 3 (.tmp 27)) (some (26 ,false))) :: (SO.mk (some 29) (.faddr 28 (.tmp 2) 1) (some (26 ,false))) :: o61_1)
theorem v61_2:type_of% (@swl _ _ o61_2.eq_1):=@swl _ _ o61_2.eq_1
def o61_3:List SO:=((SO.mk (some 22) (.bin .sub 3 (.tmp 21) (.const (Value.int .i64 1))) (some (17 ,false))) :: (SO.mk (some 23) (.call 58 [(.tmp 19),(.const (Value.int .i64 1)),(.tmp 22)]) (some (17 ,false))) :: (SO.mk (some 24) (.un .not (.tmp 23)) (some (17 ,false))) :: (SO.mk (some 25) (.pick (.tmp 17) (.const (Value.bool true)) (.tmp 24)) none) :: o61_2)
theorem v61_3:type_of% (@swl _ _ o61_3.eq_1):=@swl _ _ o61_3.eq_1
def o61_4:List SO:=((SO.mk (some 18) (.faddr 51 (.tmp 3) 0) (some (17 ,false))) :: (SO.mk (some 19) (.load 3 (.tmp 18)) (some (17 ,false))) :: (SO.mk (some 20) (.faddr 28 (.tmp 2) 0) (some (17 ,false))) :: (SO.mk (some 21) (.load 3 (.tmp 20)) (some (17 ,false))) :: o61_3)
theorem v61_4:type_of% (@swl _ _ o61_4.eq_1):=@swl _ _ o61_4.eq_1
def o61_5:List SO:=((SO.mk (some 14) (.call 63 [(.tmp 13)]) (some (11 ,false))) :: (SO.mk (some 15) (.bin .neq 30 (.tmp 14) (.const (Value.int .i64 0))) (some (11 ,false))) :: (SO.mk (some 16) (.pick (.tmp 11) (.const (Value.bool true)) (.tmp 15)) none) :: (SO.mk (some 17) (.move (.tmp 16)) none) :: o61_4)
theorem v61_5:type_of% (@swl _ _ o61_5.eq_1):=@swl _ _ o61_5.eq_1
def o61_6:List SO:=((SO.mk (some 10) (.bin .lss 3 (.tmp 9) (.const (Value.int .i64 0))) none) :: (SO.mk (some 11) (.move (.tmp 10)) none) :: (SO.mk (some 12) (.faddr 51 (.tmp 3) 2) (some (11 ,false))) :: (SO.mk (some 13) (.load 9 (.tmp 12)) (some (11 ,false))) :: o61_5)
theorem v61_6:type_of% (@swl _ _ o61_6.eq_1):=@swl _ _ o61_6.eq_1
def c61_7:SC:=(.seq (.reg [SO.mk (some 4) (.move (.const (Value.bool false))) none]) (.keep [4] .ret))
theorem u61_7:type_of% (@swc _ _ c61_7.eq_1):=@swc _ _ c61_7.eq_1
def c61_8:SC:=(.cond (.tmp 33) c61_7 .skip)
theorem u61_8:type_of% (@swc _ _ c61_8.eq_1):=@swc _ _ c61_8.eq_1
def o61_9:List SO:=((SO.mk (some 64) (.pick (.tmp 60) (.tmp 63) (.const (Value.bool false))) none) :: (SO.mk (some 4) (.move (.tmp 64)) none) :: [])
theorem v61_9:type_of% (@swl _ _ o61_9.eq_1):=@swl _ _ o61_9.eq_1
def o61_10:List SO:=((SO.mk (some 60) (.move (.tmp 59)) none) :: (SO.mk (some 61) (.faddr 51 (.tmp 3) 11) (some (60 ,true))) :: (SO.mk (some 62) (.load 3 (.tmp 61)) (some (60 ,true))) :: (SO.mk (some 63) (.bin .eql 3 (.tmp 62) (.const (Value.int .i64 0))) (some (60 ,true))) :: o61_9)
theorem v61_10:type_of% (@swl _ _ o61_10.eq_1):=@swl _ _ o61_10.eq_1
def o61_11:List SO:=((SO.mk (some 56) (.faddr 51 (.tmp 3) 10) (some (55 ,true))) :: (SO.mk (some 57) (.load 3 (.tmp 56)) (some (55 ,true))) :: (SO.mk (some 58) (.bin .eql 3 (.tmp 57) (.const (Value.int .i64 0))) (some (55 ,true))) :: (SO.mk (some 59) (.pick (.tmp 55) (.tmp 58) (.const (Value.bool false))) none) :: o61_10)
theorem v61_11:type_of% (@swl _ _ o61_11.eq_1):=@swl _ _ o61_11.eq_1
def o61_12:List SO:=((SO.mk (some 52) (.load 3 (.tmp 51)) (some (50 ,true))) :: (SO.mk (some 53) (.bin .eql 3 (.tmp 52) (.const (Value.int .i64 0))) (some (50 ,true))) :: (SO.mk (some 54) (.pick (.tmp 50) (.tmp 53) (.const (Value.bool false))) none) :: (SO.mk (some 55) (.move (.tmp 54)) none) :: o61_11)
theorem v61_12:type_of% (@swl _ _ o61_12.eq_1):=@swl _ _ o61_12.eq_1
def o61_13:List SO:=((SO.mk (some 48) (.bin .eql 3 (.tmp 47) (.const (Value.int .i64 0))) (some (44 ,true))) :: (SO.mk (some 49) (.pick (.tmp 44) (.tmp 48) (.const (Value.bool false))) none) :: (SO.mk (some 50) (.move (.tmp 49)) none) :: (SO.mk (some 51) (.faddr 51 (.tmp 3) 9) (some (50 ,true))) :: o61_12)
theorem v61_13:type_of% (@swl _ _ o61_13.eq_1):=@swl _ _ o61_13.eq_1
def o61_14:List SO:=((SO.mk (some 44) (.move (.tmp 43)) none) :: (SO.mk (some 45) (.faddr 51 (.tmp 3) 8) (some (44 ,true))) :: (SO.mk (some 46) (.load 26 (.tmp 45)) (some (44 ,true))) :: (SO.mk (some 47) (.len 26 (.tmp 46)) (some (44 ,true))) :: o61_13)
theorem v61_14:type_of% (@swl _ _ o61_14.eq_1):=@swl _ _ o61_14.eq_1
def o61_15:List SO:=((SO.mk (some 40) (.faddr 51 (.tmp 3) 7) (some (39 ,true))) :: (SO.mk (some 41) (.load 3 (.tmp 40)) (some (39 ,true))) :: (SO.mk (some 42) (.bin .eql 3 (.tmp 41) (.const (Value.int .i64 0))) (some (39 ,true))) :: (SO.mk (some 43) (.pick (.tmp 39) (.tmp 42) (.const (Value.bool false))) none) :: o61_14)
theorem v61_15:type_of% (@swl _ _ o61_15.eq_1):=@swl _ _ o61_15.eq_1
def c61_16:SC:=(.seq (.reg ((SO.mk (some 36) (.faddr 51 (.tmp 3) 5) none) :: (SO.mk (some 37) (.load 3 (.tmp 36)) none) :: (SO.mk (some 38) (.bin .eql 3 (.tmp 37) (.const (Value.int .i64 0))) none) :: (SO.mk (some 39) (.move (.tmp 38)) none) :: o61_15)) (.keep [4] .ret))
theorem u61_16:type_of% (@swc _ _ c61_16.eq_1):=@swc _ _ c61_16.eq_1
def c61_17:SC:=(.cond (.tmp 35) c61_16 .skip)
theorem u61_17:type_of% (@swc _ _ c61_17.eq_1):=@swc _ _ c61_17.eq_1
def o61_18:List SO:=((SO.mk (some 73) (.un .not (.tmp 72)) (some (69 ,false))) :: (SO.mk (some 74) (.pick (.tmp 69) (.const (Value.bool true)) (.tmp 73)) none) :: [])
theorem v61_18:type_of% (@swl _ _ o61_18.eq_1):=@swl _ _ o61_18.eq_1
def o61_19:List SO:=((SO.mk (some 69) (.move (.tmp 68)) none) :: (SO.mk (some 70) (.faddr 51 (.tmp 3) 7) (some (69 ,false))) :: (SO.mk (some 71) (.load 3 (.tmp 70)) (some (69 ,false))) :: (SO.mk (some 72) (.call 58 [(.tmp 71),(.const (Value.int .i64 1)),(.const (Value.int .i64 3))]) (some (69 ,false))) :: o61_18)
theorem v61_19:type_of% (@swl _ _ o61_19.eq_1):=@swl _ _ o61_19.eq_1
def c61_20:SC:=(.seq (.reg [SO.mk (some 4) (.move (.const (Value.bool false))) none]) (.keep [4] .ret))
theorem u61_20:type_of% (@swc _ _ c61_20.eq_1):=@swc _ _ c61_20.eq_1
def c61_21:SC:=(.cond (.tmp 74) c61_20 .skip)
theorem u61_21:type_of% (@swc _ _ c61_21.eq_1):=@swc _ _ c61_21.eq_1
def c61_22:SC:=(.cond (.tmp 80) (.reg [SO.mk (some 5) (.move (.const (Value.int .i64 0))) none]) .skip)
theorem u61_22:type_of% (@swc _ _ c61_22.eq_1):=@swc _ _ c61_22.eq_1
def c61_23:SC:=(.seq (.reg [SO.mk (some 4) (.move (.const (Value.bool false))) none]) (.keep [4] .ret))
theorem u61_23:type_of% (@swc _ _ c61_23.eq_1):=@swc _ _ c61_23.eq_1
def c61_24:SC:=(.cond (.tmp 85) c61_23 .skip)
theorem u61_24:type_of% (@swc _ _ c61_24.eq_1):=@swc _ _ c61_24.eq_1
def o61_25:List SO:=((SO.mk (some 101) (.pick (.tmp 97) (.tmp 100) (.const (Value.bool false))) none) :: (SO.mk (some 4) (.move (.tmp 101)) none) :: [])
theorem v61_25:type_of% (@swl _ _ o61_25.eq_1):=@swl _ _ o61_25.eq_1
def o61_26:List SO:=((SO.mk (some 97) (.move (.tmp 96)) none) :: (SO.mk (some 98) (.faddr 51 (.tmp 3) 11) (some (97 ,true))) :: (SO.mk (some 99) (.load 3 (.tmp 98)) (some (97 ,true))) :: (SO.mk (some 100) (.bin .eql 3 (.tmp 99) (.const (Value.int .i64 0))) (some (97 ,true))) :: o61_25)
theorem v61_26:type_of% (@swl _ _ o61_26.eq_1):=@swl _ _ o61_26.eq_1
def o61_27:List SO:=((SO.mk (some 93) (.faddr 51 (.tmp 3) 10) (some (92 ,true))) :: (SO.mk (some 94) (.load 3 (.tmp 93)) (some (92 ,true))) :: (SO.mk (some 95) (.bin .eql 3 (.tmp 94) (.const (Value.int .i64 0))) (some (92 ,true))) :: (SO.mk (some 96) (.pick (.tmp 92) (.tmp 95) (.const (Value.bool false))) none) :: o61_26)
theorem v61_27:type_of% (@swl _ _ o61_27.eq_1):=@swl _ _ o61_27.eq_1
def c61_28:SC:=(.seq (.reg ((SO.mk (some 89) (.faddr 51 (.tmp 3) 9) none) :: (SO.mk (some 90) (.load 3 (.tmp 89)) none) :: (SO.mk (some 91) (.bin .eql 3 (.tmp 90) (.const (Value.int .i64 0))) none) :: (SO.mk (some 92) (.move (.tmp 91)) none) :: o61_27)) (.keep [4] .ret))
theorem u61_28:type_of% (@swc _ _ c61_28.eq_1):=@swc _ _ c61_28.eq_1
def c61_29:SC:=(.cond (.tmp 88) c61_28 .skip)
theorem u61_29:type_of% (@swc _ _ c61_29.eq_1):=@swc _ _ c61_29.eq_1
def o61_30:List SO:=((SO.mk (some 114) (.faddr 51 (.tmp 3) 9) (some (112 ,false))) :: (SO.mk (some 115) (.load 3 (.tmp 114)) (some (112 ,false))) :: (SO.mk (some 116) (.call 82 [(.tmp 113),(.tmp 115)]) (some (112 ,false))) :: (SO.mk (some 117) (.pick (.tmp 112) (.const (Value.bool true)) (.tmp 116)) none) :: [])
theorem v61_30:type_of% (@swl _ _ o61_30.eq_1):=@swl _ _ o61_30.eq_1
def o61_31:List SO:=((SO.mk (some 110) (.un .not (.tmp 109)) (some (106 ,false))) :: (SO.mk (some 111) (.pick (.tmp 106) (.const (Value.bool true)) (.tmp 110)) none) :: (SO.mk (some 112) (.move (.tmp 111)) none) :: (SO.mk (some 113) (.load 28 (.tmp 2)) (some (112 ,false))) :: o61_30)
theorem v61_31:type_of% (@swl _ _ o61_31.eq_1):=@swl _ _ o61_31.eq_1
def o61_32:List SO:=((SO.mk (some 106) (.move (.tmp 105)) none) :: (SO.mk (some 107) (.faddr 51 (.tmp 3) 10) (some (106 ,false))) :: (SO.mk (some 108) (.load 3 (.tmp 107)) (some (106 ,false))) :: (SO.mk (some 109) (.call 58 [(.tmp 108),(.const (Value.int .i64 0)),(.const (Value.int .i64 4000))]) (some (106 ,false))) :: o61_31)
theorem v61_32:type_of% (@swl _ _ o61_32.eq_1):=@swl _ _ o61_32.eq_1
def c61_33:SC:=(.seq (.reg [SO.mk (some 4) (.move (.const (Value.bool false))) none]) (.keep [4] .ret))
theorem u61_33:type_of% (@swc _ _ c61_33.eq_1):=@swc _ _ c61_33.eq_1
def c61_34:SC:=(.cond (.tmp 117) c61_33 .skip)
theorem u61_34:type_of% (@swc _ _ c61_34.eq_1):=@swc _ _ c61_34.eq_1
def c61_35:SC:=(.seq (.reg [SO.mk (some 121) (.faddr 51 (.tmp 3) 11) none,SO.mk (some 122) (.load 3 (.tmp 121)) none,SO.mk (some 123) (.bin .eql 3 (.tmp 122) (.const (Value.int .i64 0))) none,SO.mk (some 4) (.move (.tmp 123)) none]) (.keep [4] .ret))
theorem u61_35:type_of% (@swc _ _ c61_35.eq_1):=@swc _ _ c61_35.eq_1
def c61_36:SC:=(.cond (.tmp 120) c61_35 .skip)
theorem u61_36:type_of% (@swc _ _ c61_36.eq_1):=@swc _ _ c61_36.eq_1
def c61_37:SC:=(.seq (.reg [SO.mk (some 124) (.faddr 51 (.tmp 3) 11) none,SO.mk (some 125) (.load 3 (.tmp 124)) none,SO.mk (some 126) (.call 58 [(.tmp 125),(.const (Value.int .i64 0)),(.const (Value.int .i64 1073742824))]) none,SO.mk (some 4) (.move (.tmp 126)) none]) (.keep [4] .ret))
theorem u61_37:type_of% (@swc _ _ c61_37.eq_1):=@swc _ _ c61_37.eq_1
def c61_38:SC:=(.seq (.seq (.reg [SO.mk (some 118) (.faddr 51 (.tmp 3) 7) none,SO.mk (some 119) (.load 3 (.tmp 118)) none,SO.mk (some 120) (.bin .eql 3 (.tmp 119) (.const (Value.int .i64 2))) none]) (.keep [120,3] c61_36)) (.keep [3] c61_37))
theorem u61_38:type_of% (@swc _ _ c61_38.eq_1):=@swc _ _ c61_38.eq_1
def c61_39:SC:=(.seq (.seq (.reg ((SO.mk (some 102) (.faddr 51 (.tmp 3) 9) none) :: (SO.mk (some 103) (.load 3 (.tmp 102)) none) :: (SO.mk (some 104) (.call 58 [(.tmp 103),(.const (Value.int .i64 0)),(.const (Value.int .i64 7))]) none) :: (SO.mk (some 105) (.un .not (.tmp 104)) none) :: o61_32)) (.keep [117,3] c61_34)) (.keep [3] c61_38))
theorem u61_39:type_of% (@swc _ _ c61_39.eq_1):=@swc _ _ c61_39.eq_1
def c61_40:SC:=(.seq (.seq (.reg [SO.mk (some 86) (.faddr 51 (.tmp 3) 7) none,SO.mk (some 87) (.load 3 (.tmp 86)) none,SO.mk (some 88) (.bin .eql 3 (.tmp 87) (.const (Value.int .i64 1))) none]) (.keep [88,2,3] c61_29)) (.keep [2,3] c61_39))
theorem u61_40:type_of% (@swc _ _ c61_40.eq_1):=@swc _ _ c61_40.eq_1
def c61_41:SC:=(.seq (.seq (.reg [SO.mk (some 81) (.faddr 51 (.tmp 3) 8) none,SO.mk (some 82) (.load 26 (.tmp 81)) none,SO.mk (some 83) (.len 26 (.tmp 82)) none,SO.mk (some 84) (.move (.tmp 5)) none,SO.mk (some 85) (.bin .neq 3 (.tmp 83) (.tmp 84)) none]) (.keep [85,2,3] c61_24)) (.keep [2,3] c61_40))
theorem u61_41:type_of% (@swc _ _ c61_41.eq_1):=@swc _ _ c61_41.eq_1
def c61_42:SC:=(.seq (.seq (.reg [SO.mk (some 78) (.faddr 51 (.tmp 3) 7) none,SO.mk (some 79) (.load 3 (.tmp 78)) none,SO.mk (some 80) (.bin .eql 3 (.tmp 79) (.const (Value.int .i64 2))) none]) (.keep [80,5,2,3] c61_22)) (.keep [5,2,3] c61_41))
theorem u61_42:type_of% (@swc _ _ c61_42.eq_1):=@swc _ _ c61_42.eq_1
def c61_43:SC:=(.seq (.reg [SO.mk (some 75) (.faddr 51 (.tmp 3) 5) none,SO.mk (some 76) (.load 3 (.tmp 75)) none,SO.mk (some 77) (.call 64 [(.tmp 76),(.const (Value.int .i64 64))]) none,SO.mk (some 5) (.move (.tmp 77)) none]) (.keep [5,2,3] c61_42))
theorem u61_43:type_of% (@swc _ _ c61_43.eq_1):=@swc _ _ c61_43.eq_1
def c61_44:SC:=(.seq (.seq (.reg ((SO.mk (some 65) (.faddr 51 (.tmp 3) 5) none) :: (SO.mk (some 66) (.load 3 (.tmp 65)) none) :: (SO.mk (some 67) (.call 58 [(.tmp 66),(.const (Value.int .i64 0)),(.const (Value.int .i64 600))]) none) :: (SO.mk (some 68) (.un .not (.tmp 67)) none) :: o61_19)) (.keep [74,2,3] c61_21)) (.keep [2,3] c61_43))
theorem u61_44:type_of% (@swc _ _ c61_44.eq_1):=@swc _ _ c61_44.eq_1
def c61_45:SC:=(.seq (.seq (.reg [SO.mk (some 34) (.faddr 51 (.tmp 3) 4) none,SO.mk (some 35) (.load 4 (.tmp 34)) none]) (.keep [35,2,3] c61_17)) (.keep [2,3] c61_44))
theorem u61_45:type_of% (@swc _ _ c61_45.eq_1):=@swc _ _ c61_45.eq_1
def c61_46:SC:=(.seq (.seq (.reg ((SO.mk (some 6) (.load 28 (.tmp 2)) none) :: (SO.mk (some 7) (.faddr 51 (.tmp 3) 1) none) :: (SO.mk (some 8) (.load 9 (.tmp 7)) none) :: (SO.mk (some 9) (.call 62 [(.tmp 6),(.tmp 8)]) none) :: o61_6)) (.keep [33,2,3] c61_8)) (.keep [2,3] c61_45))
theorem u61_46:type_of% (@swc _ _ c61_46.eq_1):=@swc _ _ c61_46.eq_1
def c61:SC:=(.seq (.reg [SO.mk (some 2) (.box 28 (.tmp 0)) none,SO.mk (some 3) (.box 51 (.tmp 1)) none,SO.mk (some 4) (.move (.const (Value.bool false))) none]) (.keep [2,3] c61_46))
theorem c61_eq:annC Try.f61 = some c61:=by kernel_rfl
theorem r61:Try.f61.results.toList = [.tmp 4]:=by kernel_rfl
theorem e61:enters Try.prog 61 = true:=by kernel_rfl
end Go.Proofs.Ytijpmidnclbhpaa
namespace Go.Proofs.Ytijpmidnclbhpaa
open Go.RowKit
set_option maxHeartbeats 4000000
set_option maxRecDepth 20000
attribute [local irreducible] SW OSW SWL SWLn SWD SEcall SEcallv SDv SE SO1 SOg ACalls ACallv Wk EndV
set_option linter.unusedSimpArgs false
set_option linter.unusedVariables false
theorem chunks64_p (n:Int):Pure Try.prog 64 [I n,I 64] (I (secN n)):=by
  refine pure_of follows Try.func64 c64_eq r64 (Nat.le_of_ble_eq_true rfl) fun B σ hcl hsz=>?_
  clear hsz
  repeat' (first | (simp -implicitDefEqProofs only [*,Nat.reduceBEq,↓reduceIte,Nat.reduceEqDiff,Nat.reduceAdd,reduceCtorEq,AO.kill,AV.kill,Int.reduceLT,Int.reduceToNat,List.getElem?_nil,Nat.reduceMul,Nat.reducePow,Nat.reduceLeDiff,rowOf_mapD,rowOf_mapI,rowOf_mapA,List.getElem?_cons_zero,List.getElem?_cons_succ,take_map_len,take_map_app,List.getElem?_cons_zero,c64,r64,v64_1,u64_2,ty3,secN,mvcgen_simp]) | (with_reducible refine And.intro ?_ ?_) | (refine EndX.plain ?_) | (refine nil_split (fun hn=>?_) (fun hn=>?_)) | (refine gcall_no not_false ?_) | (refine gdcall_no not_false ?_) | (refine GuardS_of _ _ _ _ _ _ (fun hg=>?_) (fun hg=>?_)) | (refine GuardD_of _ _ _ _ (fun hg=>?_) (fun hg=>?_)) | (refine CondB_of _ _ _ _ _ _ _ ?_ (fun hg=>?_) (fun hg=>?_)))
  all_goals (try (first | ((first | unfold noN | unfold Fr.below | unfold Loc.below);simp [Fr.allN,AV.allN,AV.allNL,AO.allN];done) | rfl | trivial | assumption | (intro row hrow;simp only [List.mem_map] at hrow;obtain ⟨x,_,rfl⟩:=hrow;rfl) | (refine Wk.keep hcl ?_ ?_ ?_;(focus (simp [Fr.get,secN]<;>fail));(focus (simp [sto,secN]<;>fail));(focus (simp<;>fail))) | (simp [allP,opd,Fr.get,Fr.below,Fr.allN,AV.allN,AV.allNL,Loc.below,AO.allN,noN,killO,killT,killD,mkNames,AO.kill,AV.kill,AV.mapN,AV.mapNL];done) | (with_reducible exact ltD (by assumption)) | omega | (simp only [decide_eq_true_eq,decide_eq_false_iff_not] at *;omega)))
def vmBad (s:SttD) (v:VerD):Bool:=decide (idxD s.bkts.length (pB s.bkts v.bkt) < 0) || (wordF v.key 16 != 0 || (!inR v.id 1 (IntKind.i64.wrap (s.next - 1)) || !inR v.time 0 s.clock))
def vmF (s:SttD) (v:VerD):Bool :=
  bif vmBad s v then false else bif v.mark then markF v else bif !inR v.size 0 600 || !inR v.tier 1 3 then false
  else bif (v.secs.length:Int) != (bif v.tier == 2 then 0 else secN v.size) then false
  else bif v.tier == 1 then v.vol == 0 && (v.pos == 0 && v.till == 0)
  else bif !inR v.vol 0 7 || (!inR v.pos 0 4000 || decide (idxD s.gone.length (pG s.gone v.vol) ≥ 0)) then false
  else bif v.tier == 2 then v.till == 0 else inR v.till 0 1073742824
theorem vmay_p (s:SttD) (v:VerD):Pure Try.prog 61 [s.av,.agg (v.row.map .d)] (Bo (vmF s v)):=by
  refine pure_of follows Try.func61 c61_eq r61 (Nat.le_of_ble_eq_true rfl) fun B σ hcl hsz=>?_
  clear hsz
  repeat' (first | (simp -implicitDefEqProofs only [*,Nat.reduceBEq,↓reduceIte,Nat.reduceEqDiff,Nat.reduceAdd,reduceCtorEq,AO.kill,AV.kill,Int.reduceLT,Int.reduceToNat,List.getElem?_nil,Nat.reduceMul,Nat.reducePow,Nat.reduceLeDiff,rowOf_mapD,rowOf_mapI,rowOf_mapA,List.getElem?_cons_zero,List.getElem?_cons_succ,take_map_len,take_map_app,List.getElem?_cons_zero,c61,r61,v61_1,v61_2,v61_3,v61_4,v61_5,v61_6,u61_7,u61_8,v61_9,v61_10,v61_11,v61_12,v61_13,v61_14,v61_15,u61_16,u61_17,v61_18,v61_19,u61_20,u61_21,u61_22,u61_23,u61_24,v61_25,v61_26,v61_27,u61_28,u61_29,v61_30,v61_31,v61_32,u61_33,u61_34,u61_35,u61_36,u61_37,u61_38,u61_39,u61_40,u61_41,u61_42,u61_43,u61_44,u61_45,u61_46,ty28,ty51,ty9,ty3,ty30,ty4,ty26,SttD.av,SttD.cells,VerD.row,ints,mvcgen_simp]) | (with_reducible refine And.intro ?_ ?_) | (refine call_ro e62 ( bucketAt_p s v.bkt) rfl ?_ ?_ ?_ ?_) | (refine gcall_ro e62 ( bucketAt_p s v.bkt) rfl ?_ ?_ ?_ ?_) | (refine dcall_ro e62 ( bucketAt_p s v.bkt) rfl ?_ ?_ ?_ ?_) | (refine gdcall_ro rfl e62 ( bucketAt_p s v.bkt) rfl ?_ ?_ ?_ ?_) | (refine call_ro e63 ( keyR_p v.key) rfl ?_ ?_ ?_ ?_) | (refine gcall_ro e63 ( keyR_p v.key) rfl ?_ ?_ ?_ ?_) | (refine dcall_ro e63 ( keyR_p v.key) rfl ?_ ?_ ?_ ?_) | (refine gdcall_ro rfl e63 ( keyR_p v.key) rfl ?_ ?_ ?_ ?_) | (refine call_ro e58 ( In_p _ _ _) rfl ?_ ?_ ?_ ?_) | (refine gcall_ro e58 ( In_p _ _ _) rfl ?_ ?_ ?_ ?_) | (refine dcall_ro e58 ( In_p _ _ _) rfl ?_ ?_ ?_ ?_) | (refine gdcall_ro rfl e58 ( In_p _ _ _) rfl ?_ ?_ ?_ ?_) | (refine call_ro e64 ( chunks64_p v.size) rfl ?_ ?_ ?_ ?_) | (refine gcall_ro e64 ( chunks64_p v.size) rfl ?_ ?_ ?_ ?_) | (refine dcall_ro e64 ( chunks64_p v.size) rfl ?_ ?_ ?_ ?_) | (refine gdcall_ro rfl e64 ( chunks64_p v.size) rfl ?_ ?_ ?_ ?_) | (refine call_ro e82 ( gone_p s v.vol) rfl ?_ ?_ ?_ ?_) | (refine gcall_ro e82 ( gone_p s v.vol) rfl ?_ ?_ ?_ ?_) | (refine dcall_ro e82 ( gone_p s v.vol) rfl ?_ ?_ ?_ ?_) | (refine gdcall_ro rfl e82 ( gone_p s v.vol) rfl ?_ ?_ ?_ ?_) | (refine EndX.plain ?_) | (refine nil_split (fun hn=>?_) (fun hn=>?_)) | (refine gcall_no not_false ?_) | (refine gdcall_no not_false ?_) | (refine GuardS_of _ _ _ _ _ _ (fun hg=>?_) (fun hg=>?_)) | (refine GuardD_of _ _ _ _ (fun hg=>?_) (fun hg=>?_)) | (refine CondB_of _ _ _ _ _ _ _ ?_ (fun hg=>?_) (fun hg=>?_)))
  all_goals (try (first | ((first | unfold noN | unfold Fr.below | unfold Loc.below);simp [Fr.allN,AV.allN,AV.allNL,AO.allN];done) | rfl | trivial | assumption | (intro row hrow;simp only [List.mem_map] at hrow;obtain ⟨x,_,rfl⟩:=hrow;rfl) | (refine Wk.keep hcl ?_ ?_ ?_;(focus (simp [Fr.get,SttD.av,SttD.cells,VerD.row,ints]<;>fail));(focus (simp [sto,SttD.av,SttD.cells,VerD.row,ints]<;>fail));(focus (simp<;>fail))) | (simp [allP,opd,Fr.get,Fr.below,Fr.allN,AV.allN,AV.allNL,Loc.below,AO.allN,noN,killO,killT,killD,mkNames,AO.kill,AV.kill,AV.mapN,AV.mapNL];done) | (with_reducible exact ltD (by assumption)) | omega | (simp only [decide_eq_true_eq,decide_eq_false_iff_not] at *;omega)))
  all_goals (try (simp only [Bool.not_eq_true',Bool.not_eq_false'] at *))
  all_goals first
    | (simp only [vmF,vmBad,markF, *,Bool.false_or,Bool.true_or,Bool.or_true,Bool.or_false,Bool.and_true,Bool.true_and,Bool.false_and,Bool.and_false,Bool.not_true,Bool.not_false,cond_true,cond_false];done)
end Go.Proofs.Ytijpmidnclbhpaa
