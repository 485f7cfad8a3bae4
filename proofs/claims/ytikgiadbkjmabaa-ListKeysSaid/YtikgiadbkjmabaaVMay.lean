/- The reference: versions that may be. -/
import Derived.Test.YtikgiadbkjmabaaSound
import Derived.Test.YtikgiadbkjmabaaTypes
namespace Go.Proofs.Ytikgiadbkjmabaa
open Go.RowKit
set_option maxRecDepth 100000
def o53_1:List SO:=((SO.mk (some 9) (.move (.tmp 1)) none) :: (SO.mk (some 10) (.bin .quo 3 (.tmp 8) (.tmp 9)) none) :: (SO.mk (some 4) (.move (.tmp 10)) none) :: [])
theorem v53_1:type_of% (@swl _ _ o53_1.eq_1):=@swl _ _ o53_1.eq_1
def c53_2:SC:=(.seq (.reg ((SO.mk (some 5) (.move (.tmp 0)) none) :: (SO.mk (some 6) (.move (.tmp 1)) none) :: (SO.mk (some 7) (.bin .add 3 (.tmp 5) (.tmp 6)) none) :: (SO.mk (some 8) (.bin .sub 3 (.tmp 7) (.const (Value.int .i64 1))) none) :: o53_1)) (.keep [4] .ret))
theorem u53_2:type_of% (@swc _ _ c53_2.eq_1):=@swc _ _ c53_2.eq_1
def c53:SC:=(.seq (.reg [SO.mk (some 4) (.move (.const (Value.int .i64 0))) none]) (.keep [0,1] c53_2))
theorem c53_eq:annC Try.f53 = some c53:=by kernel_rfl
theorem r53:Try.f53.results.toList = [.tmp 4]:=by kernel_rfl
theorem e53:enters Try.prog 53 = true:=by kernel_rfl
def o51_1:List SO:=((SO.mk (some 30) (.load 3 (.tmp 29)) (some (26 ,false))) :: (SO.mk (some 31) (.call 34 [(.tmp 28),(.const (Value.int .i64 0)),(.tmp 30)]) (some (26 ,false))) :: (SO.mk (some 32) (.un .not (.tmp 31)) (some (26 ,false))) :: (SO.mk (some 33) (.pick (.tmp 26) (.const (Value.bool true)) (.tmp 32)) none) :: [])
theorem v51_1:type_of% (@swl _ _ o51_1.eq_1):=@swl _ _ o51_1.eq_1
def o51_2:List SO:=((SO.mk (some 26) (.move (.tmp 25)) none) :: (SO.mk (some 27) (.faddr 41 (.tmp 3) 6) (some (26 ,false))) :: (SO.mk (some 28) (.load 3 (.tmp 27)) (some (26 ,false))) :: (SO.mk (some 29) (.faddr 28 (.tmp 2) 1) (some (26 ,false))) :: o51_1)
theorem v51_2:type_of% (@swl _ _ o51_2.eq_1):=@swl _ _ o51_2.eq_1
def o51_3:List SO:=((SO.mk (some 22) (.bin .sub 3 (.tmp 21) (.const (Value.int .i64 1))) (some (17 ,false))) :: (SO.mk (some 23) (.call 34 [(.tmp 19),(.const (Value.int .i64 1)),(.tmp 22)]) (some (17 ,false))) :: (SO.mk (some 24) (.un .not (.tmp 23)) (some (17 ,false))) :: (SO.mk (some 25) (.pick (.tmp 17) (.const (Value.bool true)) (.tmp 24)) none) :: o51_2)
theorem v51_3:type_of% (@swl _ _ o51_3.eq_1):=@swl _ _ o51_3.eq_1
def o51_4:List SO:=((SO.mk (some 18) (.faddr 41 (.tmp 3) 0) (some (17 ,false))) :: (SO.mk (some 19) (.load 3 (.tmp 18)) (some (17 ,false))) :: (SO.mk (some 20) (.faddr 28 (.tmp 2) 0) (some (17 ,false))) :: (SO.mk (some 21) (.load 3 (.tmp 20)) (some (17 ,false))) :: o51_3)
theorem v51_4:type_of% (@swl _ _ o51_4.eq_1):=@swl _ _ o51_4.eq_1
def o51_5:List SO:=((SO.mk (some 14) (.call 52 [(.tmp 13)]) (some (11 ,false))) :: (SO.mk (some 15) (.bin .neq 30 (.tmp 14) (.const (Value.int .i64 0))) (some (11 ,false))) :: (SO.mk (some 16) (.pick (.tmp 11) (.const (Value.bool true)) (.tmp 15)) none) :: (SO.mk (some 17) (.move (.tmp 16)) none) :: o51_4)
theorem v51_5:type_of% (@swl _ _ o51_5.eq_1):=@swl _ _ o51_5.eq_1
def o51_6:List SO:=((SO.mk (some 10) (.bin .lss 3 (.tmp 9) (.const (Value.int .i64 0))) none) :: (SO.mk (some 11) (.move (.tmp 10)) none) :: (SO.mk (some 12) (.faddr 41 (.tmp 3) 2) (some (11 ,false))) :: (SO.mk (some 13) (.load 9 (.tmp 12)) (some (11 ,false))) :: o51_5)
theorem v51_6:type_of% (@swl _ _ o51_6.eq_1):=@swl _ _ o51_6.eq_1
def c51_7:SC:=(.seq (.reg [SO.mk (some 4) (.move (.const (Value.bool false))) none]) (.keep [4] .ret))
theorem u51_7:type_of% (@swc _ _ c51_7.eq_1):=@swc _ _ c51_7.eq_1
def c51_8:SC:=(.cond (.tmp 33) c51_7 .skip)
theorem u51_8:type_of% (@swc _ _ c51_8.eq_1):=@swc _ _ c51_8.eq_1
def o51_9:List SO:=((SO.mk (some 64) (.pick (.tmp 60) (.tmp 63) (.const (Value.bool false))) none) :: (SO.mk (some 4) (.move (.tmp 64)) none) :: [])
theorem v51_9:type_of% (@swl _ _ o51_9.eq_1):=@swl _ _ o51_9.eq_1
def o51_10:List SO:=((SO.mk (some 60) (.move (.tmp 59)) none) :: (SO.mk (some 61) (.faddr 41 (.tmp 3) 11) (some (60 ,true))) :: (SO.mk (some 62) (.load 3 (.tmp 61)) (some (60 ,true))) :: (SO.mk (some 63) (.bin .eql 3 (.tmp 62) (.const (Value.int .i64 0))) (some (60 ,true))) :: o51_9)
theorem v51_10:type_of% (@swl _ _ o51_10.eq_1):=@swl _ _ o51_10.eq_1
def o51_11:List SO:=((SO.mk (some 56) (.faddr 41 (.tmp 3) 10) (some (55 ,true))) :: (SO.mk (some 57) (.load 3 (.tmp 56)) (some (55 ,true))) :: (SO.mk (some 58) (.bin .eql 3 (.tmp 57) (.const (Value.int .i64 0))) (some (55 ,true))) :: (SO.mk (some 59) (.pick (.tmp 55) (.tmp 58) (.const (Value.bool false))) none) :: o51_10)
theorem v51_11:type_of% (@swl _ _ o51_11.eq_1):=@swl _ _ o51_11.eq_1
def o51_12:List SO:=((SO.mk (some 52) (.load 3 (.tmp 51)) (some (50 ,true))) :: (SO.mk (some 53) (.bin .eql 3 (.tmp 52) (.const (Value.int .i64 0))) (some (50 ,true))) :: (SO.mk (some 54) (.pick (.tmp 50) (.tmp 53) (.const (Value.bool false))) none) :: (SO.mk (some 55) (.move (.tmp 54)) none) :: o51_11)
theorem v51_12:type_of% (@swl _ _ o51_12.eq_1):=@swl _ _ o51_12.eq_1
def o51_13:List SO:=((SO.mk (some 48) (.bin .eql 3 (.tmp 47) (.const (Value.int .i64 0))) (some (44 ,true))) :: (SO.mk (some 49) (.pick (.tmp 44) (.tmp 48) (.const (Value.bool false))) none) :: (SO.mk (some 50) (.move (.tmp 49)) none) :: (SO.mk (some 51) (.faddr 41 (.tmp 3) 9) (some (50 ,true))) :: o51_12)
theorem v51_13:type_of% (@swl _ _ o51_13.eq_1):=@swl _ _ o51_13.eq_1
def o51_14:List SO:=((SO.mk (some 44) (.move (.tmp 43)) none) :: (SO.mk (some 45) (.faddr 41 (.tmp 3) 8) (some (44 ,true))) :: (SO.mk (some 46) (.load 26 (.tmp 45)) (some (44 ,true))) :: (SO.mk (some 47) (.len 26 (.tmp 46)) (some (44 ,true))) :: o51_13)
theorem v51_14:type_of% (@swl _ _ o51_14.eq_1):=@swl _ _ o51_14.eq_1
def o51_15:List SO:=((SO.mk (some 40) (.faddr 41 (.tmp 3) 7) (some (39 ,true))) :: (SO.mk (some 41) (.load 3 (.tmp 40)) (some (39 ,true))) :: (SO.mk (some 42) (.bin .eql 3 (.tmp 41) (.const (Value.int .i64 0))) (some (39 ,true))) :: (SO.mk (some 43) (.pick (.tmp 39) (.tmp 42) (.const (Value.bool false))) none) :: o51_14)
theorem v51_15:type_of% (@swl _ _ o51_15.eq_1):=@swl _ _ o51_15.eq_1
def c51_16:SC:=(.seq (.reg ((SO.mk (some 36) (.faddr 41 (.tmp 3) 5) none) :: (SO.mk (some 37) (.load 3 (.tmp 36)) none) :: (SO.mk (some 38) (.bin .eql 3 (.tmp 37) (.const (Value.int .i64 0))) none) :: (SO.mk (some 39) (.move (.tmp 38)) none) :: o51_15)) (.keep [4] .ret))
theorem u51_16:type_of% (@swc _ _ c51_16.eq_1):=@swc _ _ c51_16.eq_1
def c51_17:SC:=(.cond (.tmp 35) c51_16 .skip)
theorem u51_17:type_of% (@swc _ _ c51_17.eq_1):=@swc _ _ c51_17.eq_1
def o51_18:List SO:=((SO.mk (some 73) (.un .not (.tmp 72)) (some (69 ,false))) :: (SO.mk (some 74) (.pick (.tmp 69) (.const (Value.bool true)) (.tmp 73)) none) :: [])
theorem v51_18:type_of% (@swl _ _ o51_18.eq_1):=@swl _ _ o51_18.eq_1
def o51_19:List SO:=((SO.mk (some 69) (.move (.tmp 68)) none) :: (SO.mk (some 70) (.faddr 41 (.tmp 3) 7) (some (69 ,false))) :: (SO.mk (some 71) (.load 3 (.tmp 70)) (some (69 ,false))) :: (SO.mk (some 72) (.call 34 [(.tmp 71),(.const (Value.int .i64 1)),(.const (Value.int .i64 3))]) (some (69 ,false))) :: o51_18)
theorem v51_19:type_of% (@swl _ _ o51_19.eq_1):=@swl _ _ o51_19.eq_1
def c51_20:SC:=(.seq (.reg [SO.mk (some 4) (.move (.const (Value.bool false))) none]) (.keep [4] .ret))
theorem u51_20:type_of% (@swc _ _ c51_20.eq_1):=@swc _ _ c51_20.eq_1
def c51_21:SC:=(.cond (.tmp 74) c51_20 .skip)
theorem u51_21:type_of% (@swc _ _ c51_21.eq_1):=@swc _ _ c51_21.eq_1
def c51_22:SC:=(.cond (.tmp 80) (.reg [SO.mk (some 5) (.move (.const (Value.int .i64 0))) none]) .skip)
theorem u51_22:type_of% (@swc _ _ c51_22.eq_1):=@swc _ _ c51_22.eq_1
def c51_23:SC:=(.seq (.reg [SO.mk (some 4) (.move (.const (Value.bool false))) none]) (.keep [4] .ret))
theorem u51_23:type_of% (@swc _ _ c51_23.eq_1):=@swc _ _ c51_23.eq_1
def c51_24:SC:=(.cond (.tmp 85) c51_23 .skip)
theorem u51_24:type_of% (@swc _ _ c51_24.eq_1):=@swc _ _ c51_24.eq_1
def o51_25:List SO:=((SO.mk (some 101) (.pick (.tmp 97) (.tmp 100) (.const (Value.bool false))) none) :: (SO.mk (some 4) (.move (.tmp 101)) none) :: [])
theorem v51_25:type_of% (@swl _ _ o51_25.eq_1):=@swl _ _ o51_25.eq_1
def o51_26:List SO:=((SO.mk (some 97) (.move (.tmp 96)) none) :: (SO.mk (some 98) (.faddr 41 (.tmp 3) 11) (some (97 ,true))) :: (SO.mk (some 99) (.load 3 (.tmp 98)) (some (97 ,true))) :: (SO.mk (some 100) (.bin .eql 3 (.tmp 99) (.const (Value.int .i64 0))) (some (97 ,true))) :: o51_25)
theorem v51_26:type_of% (@swl _ _ o51_26.eq_1):=@swl _ _ o51_26.eq_1
def o51_27:List SO:=((SO.mk (some 93) (.faddr 41 (.tmp 3) 10) (some (92 ,true))) :: (SO.mk (some 94) (.load 3 (.tmp 93)) (some (92 ,true))) :: (SO.mk (some 95) (.bin .eql 3 (.tmp 94) (.const (Value.int .i64 0))) (some (92 ,true))) :: (SO.mk (some 96) (.pick (.tmp 92) (.tmp 95) (.const (Value.bool false))) none) :: o51_26)
theorem v51_27:type_of% (@swl _ _ o51_27.eq_1):=@swl _ _ o51_27.eq_1
def c51_28:SC:=(.seq (.reg ((SO.mk (some 89) (.faddr 41 (.tmp 3) 9) none) :: (SO.mk (some 90) (.load 3 (.tmp 89)) none) :: (SO.mk (some 91) (.bin .eql 3 (.tmp 90) (.const (Value.int .i64 0))) none) :: (SO.mk (some 92) (.move (.tmp 91)) none) :: o51_27)) (.keep [4] .ret))
theorem u51_28:type_of% (@swc _ _ c51_28.eq_1):=@swc _ _ c51_28.eq_1
def c51_29:SC:=(.cond (.tmp 88) c51_28 .skip)
theorem u51_29:type_of% (@swc _ _ c51_29.eq_1):=@swc _ _ c51_29.eq_1
def o51_30:List SO:=((SO.mk (some 114) (.faddr 41 (.tmp 3) 9) (some (112 ,false))) :: (SO.mk (some 115) (.load 3 (.tmp 114)) (some (112 ,false))) :: (SO.mk (some 116) (.call 80 [(.tmp 113),(.tmp 115)]) (some (112 ,false))) :: (SO.mk (some 117) (.pick (.tmp 112) (.const (Value.bool true)) (.tmp 116)) none) :: [])
theorem v51_30:type_of% (@swl _ _ o51_30.eq_1):=@swl _ _ o51_30.eq_1
def o51_31:List SO:=((SO.mk (some 110) (.un .not (.tmp 109)) (some (106 ,false))) :: (SO.mk (some 111) (.pick (.tmp 106) (.const (Value.bool true)) (.tmp 110)) none) :: (SO.mk (some 112) (.move (.tmp 111)) none) :: (SO.mk (some 113) (.load 28 (.tmp 2)) (some (112 ,false))) :: o51_30)
theorem v51_31:type_of% (@swl _ _ o51_31.eq_1):=@swl _ _ o51_31.eq_1
def o51_32:List SO:=((SO.mk (some 106) (.move (.tmp 105)) none) :: (SO.mk (some 107) (.faddr 41 (.tmp 3) 10) (some (106 ,false))) :: (SO.mk (some 108) (.load 3 (.tmp 107)) (some (106 ,false))) :: (SO.mk (some 109) (.call 34 [(.tmp 108),(.const (Value.int .i64 0)),(.const (Value.int .i64 4000))]) (some (106 ,false))) :: o51_31)
theorem v51_32:type_of% (@swl _ _ o51_32.eq_1):=@swl _ _ o51_32.eq_1
def c51_33:SC:=(.seq (.reg [SO.mk (some 4) (.move (.const (Value.bool false))) none]) (.keep [4] .ret))
theorem u51_33:type_of% (@swc _ _ c51_33.eq_1):=@swc _ _ c51_33.eq_1
def c51_34:SC:=(.cond (.tmp 117) c51_33 .skip)
theorem u51_34:type_of% (@swc _ _ c51_34.eq_1):=@swc _ _ c51_34.eq_1
def c51_35:SC:=(.seq (.reg [SO.mk (some 121) (.faddr 41 (.tmp 3) 11) none,SO.mk (some 122) (.load 3 (.tmp 121)) none,SO.mk (some 123) (.bin .eql 3 (.tmp 122) (.const (Value.int .i64 0))) none,SO.mk (some 4) (.move (.tmp 123)) none]) (.keep [4] .ret))
theorem u51_35:type_of% (@swc _ _ c51_35.eq_1):=@swc _ _ c51_35.eq_1
def c51_36:SC:=(.cond (.tmp 120) c51_35 .skip)
theorem u51_36:type_of% (@swc _ _ c51_36.eq_1):=@swc _ _ c51_36.eq_1
def c51_37:SC:=(.seq (.reg [SO.mk (some 124) (.faddr 41 (.tmp 3) 11) none,SO.mk (some 125) (.load 3 (.tmp 124)) none,SO.mk (some 126) (.call 34 [(.tmp 125),(.const (Value.int .i64 0)),(.const (Value.int .i64 1073742824))]) none,SO.mk (some 4) (.move (.tmp 126)) none]) (.keep [4] .ret))
theorem u51_37:type_of% (@swc _ _ c51_37.eq_1):=@swc _ _ c51_37.eq_1
def c51_38:SC:=(.seq (.seq (.reg [SO.mk (some 118) (.faddr 41 (.tmp 3) 7) none,SO.mk (some 119) (.load 3 (.tmp 118)) none,SO.mk (some 120) (.bin .eql 3 (.tmp 119) (.const (Value.int .i64 2))) none]) (.keep [120,3] c51_36)) (.keep [3] c51_37))
theorem u51_38:type_of% (@swc _ _ c51_38.eq_1):=@swc _ _ c51_38.eq_1
def c51_39:SC:=(.seq (.seq (.reg ((SO.mk (some 102) (.faddr 41 (.tmp 3) 9) none) :: (SO.mk (some 103) (.load 3 (.tmp 102)) none) :: (SO.mk (some 104) (.call 34 [(.tmp 103),(.const (Value.int .i64 0)),(.const (Value.int .i64 7))]) none) :: (SO.mk (some 105) (.un .not (.tmp 104)) none) :: o51_32)) (.keep [117,3] c51_34)) (.keep [3] c51_38))
theorem u51_39:type_of% (@swc _ _ c51_39.eq_1):=@swc _ _ c51_39.eq_1
def c51_40:SC:=(.seq (.seq (.reg [SO.mk (some 86) (.faddr 41 (.tmp 3) 7) none,SO.mk (some 87) (.load 3 (.tmp 86)) none,SO.mk (some 88) (.bin .eql 3 (.tmp 87) (.const (Value.int .i64 1))) none]) (.keep [88,2,3] c51_29)) (.keep [2,3] c51_39))
theorem u51_40:type_of% (@swc _ _ c51_40.eq_1):=@swc _ _ c51_40.eq_1
def c51_41:SC:=(.seq (.seq (.reg [SO.mk (some 81) (.faddr 41 (.tmp 3) 8) none,SO.mk (some 82) (.load 26 (.tmp 81)) none,SO.mk (some 83) (.len 26 (.tmp 82)) none,SO.mk (some 84) (.move (.tmp 5)) none,SO.mk (some 85) (.bin .neq 3 (.tmp 83) (.tmp 84)) none]) (.keep [85,2,3] c51_24)) (.keep [2,3] c51_40))
theorem u51_41:type_of% (@swc _ _ c51_41.eq_1):=@swc _ _ c51_41.eq_1
def c51_42:SC:=(.seq (.seq (.reg [SO.mk (some 78) (.faddr 41 (.tmp 3) 7) none,SO.mk (some 79) (.load 3 (.tmp 78)) none,SO.mk (some 80) (.bin .eql 3 (.tmp 79) (.const (Value.int .i64 2))) none]) (.keep [80,5,2,3] c51_22)) (.keep [5,2,3] c51_41))
theorem u51_42:type_of% (@swc _ _ c51_42.eq_1):=@swc _ _ c51_42.eq_1
def c51_43:SC:=(.seq (.reg [SO.mk (some 75) (.faddr 41 (.tmp 3) 5) none,SO.mk (some 76) (.load 3 (.tmp 75)) none,SO.mk (some 77) (.call 53 [(.tmp 76),(.const (Value.int .i64 64))]) none,SO.mk (some 5) (.move (.tmp 77)) none]) (.keep [5,2,3] c51_42))
theorem u51_43:type_of% (@swc _ _ c51_43.eq_1):=@swc _ _ c51_43.eq_1
def c51_44:SC:=(.seq (.seq (.reg ((SO.mk (some 65) (.faddr 41 (.tmp 3) 5) none) :: (SO.mk (some 66) (.load 3 (.tmp 65)) none) :: (SO.mk (some 67) (.call 34 [(.tmp 66),(.const (Value.int .i64 0)),(.const (Value.int .i64 600))]) none) :: (SO.mk (some 68) (.un .not (.tmp 67)) none) :: o51_19)) (.keep [74,2,3] c51_21)) (.keep [2,3] c51_43))
theorem u51_44:type_of% (@swc _ _ c51_44.eq_1):=@swc _ _ c51_44.eq_1
def c51_45:SC:=(.seq (.seq (.reg [SO.mk (some 34) (.faddr 41 (.tmp 3) 4) none,SO.mk (some 35) (.load 4 (.tmp 34)) none]) (.keep [35,2,3] c51_17)) (.keep [2,3] c51_44))
theorem u51_45:type_of% (@swc _ _ c51_45.eq_1):=@swc _ _ c51_45.eq_1
def c51_46:SC:=(.seq (.seq (.reg ((SO.mk (some 6) (.load 28 (.tmp 2)) none) :: (SO.mk (some 7) (.faddr 41 (.tmp 3) 1) none) :: (SO.mk (some 8) (.load 9 (.tmp 7)) none) :: (SO.mk (some 9) (.call 32 [(.tmp 6),(.tmp 8)]) none) :: o51_6)) (.keep [33,2,3] c51_8)) (.keep [2,3] c51_45))
theorem u51_46:type_of% (@swc _ _ c51_46.eq_1):=@swc _ _ c51_46.eq_1
def c51:SC:=(.seq (.reg [SO.mk (some 2) (.box 28 (.tmp 0)) none,SO.mk (some 3) (.box 41 (.tmp 1)) none,SO.mk (some 4) (.move (.const (Value.bool false))) none]) (.keep [2,3] c51_46))
theorem c51_eq:annC Try.f51 = some c51:=by kernel_rfl
theorem r51:Try.f51.results.toList = [.tmp 4]:=by kernel_rfl
theorem e51:enters Try.prog 51 = true:=by kernel_rfl
end Go.Proofs.Ytikgiadbkjmabaa
namespace Go.Proofs.Ytikgiadbkjmabaa
open Go.RowKit
set_option maxHeartbeats 4000000
set_option maxRecDepth 20000
attribute [local irreducible] SW OSW SWL SWLn SWD SEcall SEcallv SDv SE SO1 SOg ACalls ACallv Wk EndV
set_option linter.unusedSimpArgs false
set_option linter.unusedVariables false
theorem chunks64_p (n:Int):Pure Try.prog 53 [I n,I 64] (I (secN n)):=by
  refine pure_of follows Try.func53 c53_eq r53 (Nat.le_of_ble_eq_true rfl) fun B σ hcl hsz=>?_
  clear hsz
  repeat' (first | (simp -implicitDefEqProofs only [*,Nat.reduceBEq,↓reduceIte,Nat.reduceEqDiff,Nat.reduceAdd,reduceCtorEq,AO.kill,Int.reduceLT,Int.reduceToNat,List.getElem?_nil,Nat.reduceMul,Nat.reducePow,Nat.reduceLeDiff,rowOf_mapD,rowOf_mapI,rowOf_mapA,List.getElem?_cons_zero,List.getElem?_cons_succ,take_map_len,take_map_app,List.getElem?_cons_zero,c53,r53,v53_1,u53_2,ty3,secN,mvcgen_simp]) | (with_reducible refine And.intro ?_ ?_) | (refine EndX.plain ?_) | (refine nil_split (fun hn=>?_) (fun hn=>?_)) | (refine gcall_no not_false ?_) | (refine gdcall_no not_false ?_) | (refine GuardS_of _ _ _ _ _ _ (fun hg=>?_) (fun hg=>?_)) | (refine GuardD_of _ _ _ _ (fun hg=>?_) (fun hg=>?_)) | (refine CondB_of _ _ _ _ _ _ _ ?_ (fun hg=>?_) (fun hg=>?_)))
  all_goals (try (first | ((first | unfold noN | unfold Fr.below | unfold Loc.below);simp [Fr.allN,AV.allN,AV.allNL,AO.allN];done) | rfl | trivial | assumption | (intro row hrow;simp only [List.mem_map] at hrow;obtain ⟨x,_,rfl⟩:=hrow;rfl) | (refine Wk.keep hcl ?_ ?_ ?_;(focus (simp [Fr.get,secN]<;>fail));(focus (simp [sto,secN]<;>fail));(focus (simp<;>fail))) | (simp [allP,opd,Fr.get,Fr.below,Fr.allN,AV.allN,AV.allNL,Loc.below,AO.allN,noN,killO,killT,killD,mkNames,AO.kill,AV.kill,AV.mapN,AV.mapNL];done) | (with_reducible exact ltD (by assumption)) | omega | (simp only [decide_eq_true_eq,decide_eq_false_iff_not] at *;omega)))
def vmBad (s:SttD) (v:VerD):Bool:=decide (idxD s.bkts.length (pB s.bkts v.bkt) < 0) || (wordF v.key 16 != 0 || (!inR v.id 1 (IntKind.i64.wrap (s.next - 1)) || !inR v.time 0 s.clock))
def vmF (s:SttD) (v:VerD):Bool :=
  bif vmBad s v then false else bif v.mark then markF v else bif !inR v.size 0 600 || !inR v.tier 1 3 then false
  else bif (v.secs.length:Int) != (bif v.tier == 2 then 0 else secN v.size) then false
  else bif v.tier == 1 then v.vol == 0 && (v.pos == 0 && v.till == 0)
  else bif !inR v.vol 0 7 || (!inR v.pos 0 4000 || decide (idxD s.gone.length (pG s.gone v.vol) ≥ 0)) then false
  else bif v.tier == 2 then v.till == 0 else inR v.till 0 1073742824
theorem vmay_p (s:SttD) (v:VerD):Pure Try.prog 51 [s.av,.agg (v.row.map .d)] (Bo (vmF s v)):=by
  refine pure_of follows Try.func51 c51_eq r51 (Nat.le_of_ble_eq_true rfl) fun B σ hcl hsz=>?_
  clear hsz
  repeat' (first | (simp -implicitDefEqProofs only [*,Nat.reduceBEq,↓reduceIte,Nat.reduceEqDiff,Nat.reduceAdd,reduceCtorEq,AO.kill,Int.reduceLT,Int.reduceToNat,List.getElem?_nil,Nat.reduceMul,Nat.reducePow,Nat.reduceLeDiff,rowOf_mapD,rowOf_mapI,rowOf_mapA,List.getElem?_cons_zero,List.getElem?_cons_succ,take_map_len,take_map_app,List.getElem?_cons_zero,c51,r51,v51_1,v51_2,v51_3,v51_4,v51_5,v51_6,u51_7,u51_8,v51_9,v51_10,v51_11,v51_12,v51_13,v51_14,v51_15,u51_16,u51_17,v51_18,v51_19,u51_20,u51_21,u51_22,u51_23,u51_24,v51_25,v51_26,v51_27,u51_28,u51_29,v51_30,v51_31,v51_32,u51_33,u51_34,u51_35,u51_36,u51_37,u51_38,u51_39,u51_40,u51_41,u51_42,u51_43,u51_44,u51_45,u51_46,ty28,ty41,ty9,ty3,ty30,ty4,ty26,SttD.av,SttD.cells,VerD.row,ints,mvcgen_simp]) | (with_reducible refine And.intro ?_ ?_) | (refine call_ro e32 ( bucketAt_p s v.bkt) rfl ?_ ?_ ?_ ?_) | (refine gcall_ro e32 ( bucketAt_p s v.bkt) rfl ?_ ?_ ?_ ?_) | (refine dcall_ro e32 ( bucketAt_p s v.bkt) rfl ?_ ?_ ?_ ?_) | (refine gdcall_ro rfl e32 ( bucketAt_p s v.bkt) rfl ?_ ?_ ?_ ?_) | (refine call_ro e52 ( keyR_p v.key) rfl ?_ ?_ ?_ ?_) | (refine gcall_ro e52 ( keyR_p v.key) rfl ?_ ?_ ?_ ?_) | (refine dcall_ro e52 ( keyR_p v.key) rfl ?_ ?_ ?_ ?_) | (refine gdcall_ro rfl e52 ( keyR_p v.key) rfl ?_ ?_ ?_ ?_) | (refine call_ro e34 ( In_p _ _ _) rfl ?_ ?_ ?_ ?_) | (refine gcall_ro e34 ( In_p _ _ _) rfl ?_ ?_ ?_ ?_) | (refine dcall_ro e34 ( In_p _ _ _) rfl ?_ ?_ ?_ ?_) | (refine gdcall_ro rfl e34 ( In_p _ _ _) rfl ?_ ?_ ?_ ?_) | (refine call_ro e53 ( chunks64_p v.size) rfl ?_ ?_ ?_ ?_) | (refine gcall_ro e53 ( chunks64_p v.size) rfl ?_ ?_ ?_ ?_) | (refine dcall_ro e53 ( chunks64_p v.size) rfl ?_ ?_ ?_ ?_) | (refine gdcall_ro rfl e53 ( chunks64_p v.size) rfl ?_ ?_ ?_ ?_) | (refine call_ro e80 ( gone_p s v.vol) rfl ?_ ?_ ?_ ?_) | (refine gcall_ro e80 ( gone_p s v.vol) rfl ?_ ?_ ?_ ?_) | (refine dcall_ro e80 ( gone_p s v.vol) rfl ?_ ?_ ?_ ?_) | (refine gdcall_ro rfl e80 ( gone_p s v.vol) rfl ?_ ?_ ?_ ?_) | (refine EndX.plain ?_) | (refine nil_split (fun hn=>?_) (fun hn=>?_)) | (refine gcall_no not_false ?_) | (refine gdcall_no not_false ?_) | (refine GuardS_of _ _ _ _ _ _ (fun hg=>?_) (fun hg=>?_)) | (refine GuardD_of _ _ _ _ (fun hg=>?_) (fun hg=>?_)) | (refine CondB_of _ _ _ _ _ _ _ ?_ (fun hg=>?_) (fun hg=>?_)))
  all_goals (try (first | ((first | unfold noN | unfold Fr.below | unfold Loc.below);simp [Fr.allN,AV.allN,AV.allNL,AO.allN];done) | rfl | trivial | assumption | (intro row hrow;simp only [List.mem_map] at hrow;obtain ⟨x,_,rfl⟩:=hrow;rfl) | (refine Wk.keep hcl ?_ ?_ ?_;(focus (simp [Fr.get,SttD.av,SttD.cells,VerD.row,ints]<;>fail));(focus (simp [sto,SttD.av,SttD.cells,VerD.row,ints]<;>fail));(focus (simp<;>fail))) | (simp [allP,opd,Fr.get,Fr.below,Fr.allN,AV.allN,AV.allNL,Loc.below,AO.allN,noN,killO,killT,killD,mkNames,AO.kill,AV.kill,AV.mapN,AV.mapNL];done) | (with_reducible exact ltD (by assumption)) | omega | (simp only [decide_eq_true_eq,decide_eq_false_iff_not] at *;omega)))
  all_goals (try (simp only [Bool.not_eq_true',Bool.not_eq_false'] at *))
  all_goals first
    | (simp only [vmF,vmBad,markF, *,Bool.false_or,Bool.true_or,Bool.or_true,Bool.or_false,Bool.and_true,Bool.true_and,Bool.false_and,Bool.and_false,Bool.not_true,Bool.not_false,cond_true,cond_false];done)
end Go.Proofs.Ytikgiadbkjmabaa
