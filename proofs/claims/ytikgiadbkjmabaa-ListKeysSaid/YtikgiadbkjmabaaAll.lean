/- The reference: all sectors that are somebody's. -/
import Derived.Test.YtikgiadbkjmabaaVMay
import Derived.Test.YtikgiadbkjmabaaTypes
namespace Go.Proofs.Ytikgiadbkjmabaa
open Go.RowKit
set_option maxRecDepth 100000
def c55_1:SC:=(.cond (.tmp 13) .skip (.exit 0))
theorem u55_1:type_of% (@swc _ _ c55_1.eq_1):=@swc _ _ c55_1.eq_1
def o55_2:List SO:=((SO.mk (some 24) (.bin .lss 3 (.tmp 16) (.tmp 23)) none) :: [])
theorem v55_2:type_of% (@swl _ _ o55_2.eq_1):=@swl _ _ o55_2.eq_1
def o55_3:List SO:=((SO.mk (some 20) (.iaddr 23 (.tmp 18) (.tmp 19)) none) :: (SO.mk (some 21) (.faddr 41 (.tmp 20) 8) none) :: (SO.mk (some 22) (.load 26 (.tmp 21)) none) :: (SO.mk (some 23) (.len 26 (.tmp 22)) none) :: o55_2)
theorem v55_3:type_of% (@swl _ _ o55_3.eq_1):=@swl _ _ o55_3.eq_1
def c55_4:SC:=(.cond (.tmp 24) .skip (.exit 2))
theorem u55_4:type_of% (@swc _ _ c55_4.eq_1):=@swc _ _ c55_4.eq_1
def o55_5:List SO:=((SO.mk (some 3) (.move (.tmp 38)) none) :: [])
theorem v55_5:type_of% (@swl _ _ o55_5.eq_1):=@swl _ _ o55_5.eq_1
def o55_6:List SO:=((SO.mk (some 35) (.iaddr 26 (.tmp 33) (.tmp 34)) none) :: (SO.mk (some 36) (.load 3 (.tmp 35)) none) :: (SO.mk (some 37) (.bslice 26 1 [(0 ,(.tmp 36))]) none) :: (SO.mk (some 38) (.app 26 26 (.tmp 27) (.tmp 37)) none) :: o55_5)
theorem v55_6:type_of% (@swl _ _ o55_6.eq_1):=@swl _ _ o55_6.eq_1
def o55_7:List SO:=((SO.mk (some 31) (.iaddr 23 (.tmp 29) (.tmp 30)) none) :: (SO.mk (some 32) (.faddr 41 (.tmp 31) 8) none) :: (SO.mk (some 33) (.load 26 (.tmp 32)) none) :: (SO.mk (some 34) (.move (.tmp 5)) none) :: o55_6)
theorem v55_7:type_of% (@swl _ _ o55_7.eq_1):=@swl _ _ o55_7.eq_1
def c55_8:SC:=(.reg [SO.mk (some 25) (.move (.tmp 5)) none,SO.mk (some 26) (.bin .add 3 (.tmp 25) (.const (Value.int .i64 1))) none,SO.mk (some 5) (.move (.tmp 26)) none])
theorem u55_8:type_of% (@swc _ _ c55_8.eq_1):=@swc _ _ c55_8.eq_1
def c55_9:SC:=(.seq (.block 3 (.reg ((SO.mk (some 27) (.move (.tmp 3)) none) :: (SO.mk (some 28) (.faddr 28 (.tmp 1) 3) none) :: (SO.mk (some 29) (.load 23 (.tmp 28)) none) :: (SO.mk (some 30) (.move (.tmp 4)) none) :: o55_7))) (.keep [5,4,1,3] c55_8))
theorem u55_9:type_of% (@swc _ _ c55_9.eq_1):=@swc _ _ c55_9.eq_1
def c55_10:SC:=(.seq (.seq (.reg ((SO.mk (some 16) (.move (.tmp 5)) none) :: (SO.mk (some 17) (.faddr 28 (.tmp 1) 3) none) :: (SO.mk (some 18) (.load 23 (.tmp 17)) none) :: (SO.mk (some 19) (.move (.tmp 4)) none) :: o55_3)) (.keep [24,5,4,1,3] c55_4)) (.keep [3,5,4,1] c55_9))
theorem u55_10:type_of% (@swc _ _ c55_10.eq_1):=@swc _ _ c55_10.eq_1
def c55_11:SC:=(.block 2 (.loop (.keep [5,4,1,3] c55_10)))
theorem u55_11:type_of% (@swc _ _ c55_11.eq_1):=@swc _ _ c55_11.eq_1
def c55_12:SC:=(.reg [SO.mk (some 14) (.move (.tmp 4)) none,SO.mk (some 15) (.bin .add 3 (.tmp 14) (.const (Value.int .i64 1))) none,SO.mk (some 4) (.move (.tmp 15)) none])
theorem u55_12:type_of% (@swc _ _ c55_12.eq_1):=@swc _ _ c55_12.eq_1
def c55_13:SC:=(.seq (.block 1 (.seq (.reg [SO.mk (some 5) (.move (.const (Value.int .i64 0))) none]) (.keep [5,4,1,3] c55_11))) (.keep [4,1,3] c55_12))
theorem u55_13:type_of% (@swc _ _ c55_13.eq_1):=@swc _ _ c55_13.eq_1
def c55_14:SC:=(.seq (.seq (.reg [SO.mk (some 9) (.move (.tmp 4)) none,SO.mk (some 10) (.faddr 28 (.tmp 1) 3) none,SO.mk (some 11) (.load 23 (.tmp 10)) none,SO.mk (some 12) (.len 23 (.tmp 11)) none,SO.mk (some 13) (.bin .lss 3 (.tmp 9) (.tmp 12)) none]) (.keep [13,4,1,3] c55_1)) (.keep [4,1,3] c55_13))
theorem u55_14:type_of% (@swc _ _ c55_14.eq_1):=@swc _ _ c55_14.eq_1
def c55_15:SC:=(.block 0 (.loop (.keep [4,1,3] c55_14)))
theorem u55_15:type_of% (@swc _ _ c55_15.eq_1):=@swc _ _ c55_15.eq_1
def c55_16:SC:=(.cond (.tmp 43) .skip (.exit 4))
theorem u55_16:type_of% (@swc _ _ c55_16.eq_1):=@swc _ _ c55_16.eq_1
def o55_17:List SO:=((SO.mk (some 54) (.bin .lss 3 (.tmp 46) (.tmp 53)) none) :: [])
theorem v55_17:type_of% (@swl _ _ o55_17.eq_1):=@swl _ _ o55_17.eq_1
def o55_18:List SO:=((SO.mk (some 50) (.iaddr 24 (.tmp 48) (.tmp 49)) none) :: (SO.mk (some 51) (.faddr 83 (.tmp 50) 3) none) :: (SO.mk (some 52) (.load 81 (.tmp 51)) none) :: (SO.mk (some 53) (.len 81 (.tmp 52)) none) :: o55_17)
theorem v55_18:type_of% (@swl _ _ o55_18.eq_1):=@swl _ _ o55_18.eq_1
def c55_19:SC:=(.cond (.tmp 54) .skip (.exit 6))
theorem u55_19:type_of% (@swc _ _ c55_19.eq_1):=@swc _ _ c55_19.eq_1
def o55_20:List SO:=((SO.mk (some 69) (.bin .lss 3 (.tmp 57) (.tmp 68)) none) :: [])
theorem v55_20:type_of% (@swl _ _ o55_20.eq_1):=@swl _ _ o55_20.eq_1
def o55_21:List SO:=((SO.mk (some 65) (.iaddr 81 (.tmp 63) (.tmp 64)) none) :: (SO.mk (some 66) (.faddr 85 (.tmp 65) 2) none) :: (SO.mk (some 67) (.load 26 (.tmp 66)) none) :: (SO.mk (some 68) (.len 26 (.tmp 67)) none) :: o55_20)
theorem v55_21:type_of% (@swl _ _ o55_21.eq_1):=@swl _ _ o55_21.eq_1
def o55_22:List SO:=((SO.mk (some 61) (.iaddr 24 (.tmp 59) (.tmp 60)) none) :: (SO.mk (some 62) (.faddr 83 (.tmp 61) 3) none) :: (SO.mk (some 63) (.load 81 (.tmp 62)) none) :: (SO.mk (some 64) (.move (.tmp 7)) none) :: o55_21)
theorem v55_22:type_of% (@swl _ _ o55_22.eq_1):=@swl _ _ o55_22.eq_1
def c55_23:SC:=(.cond (.tmp 69) .skip (.exit 8))
theorem u55_23:type_of% (@swc _ _ c55_23.eq_1):=@swc _ _ c55_23.eq_1
def o55_24:List SO:=((SO.mk (some 3) (.move (.tmp 87)) none) :: [])
theorem v55_24:type_of% (@swl _ _ o55_24.eq_1):=@swl _ _ o55_24.eq_1
def o55_25:List SO:=((SO.mk (some 84) (.iaddr 26 (.tmp 82) (.tmp 83)) none) :: (SO.mk (some 85) (.load 3 (.tmp 84)) none) :: (SO.mk (some 86) (.bslice 26 1 [(0 ,(.tmp 85))]) none) :: (SO.mk (some 87) (.app 26 26 (.tmp 72) (.tmp 86)) none) :: o55_24)
theorem v55_25:type_of% (@swl _ _ o55_25.eq_1):=@swl _ _ o55_25.eq_1
def o55_26:List SO:=((SO.mk (some 80) (.iaddr 81 (.tmp 78) (.tmp 79)) none) :: (SO.mk (some 81) (.faddr 85 (.tmp 80) 2) none) :: (SO.mk (some 82) (.load 26 (.tmp 81)) none) :: (SO.mk (some 83) (.move (.tmp 8)) none) :: o55_25)
theorem v55_26:type_of% (@swl _ _ o55_26.eq_1):=@swl _ _ o55_26.eq_1
def o55_27:List SO:=((SO.mk (some 76) (.iaddr 24 (.tmp 74) (.tmp 75)) none) :: (SO.mk (some 77) (.faddr 83 (.tmp 76) 3) none) :: (SO.mk (some 78) (.load 81 (.tmp 77)) none) :: (SO.mk (some 79) (.move (.tmp 7)) none) :: o55_26)
theorem v55_27:type_of% (@swl _ _ o55_27.eq_1):=@swl _ _ o55_27.eq_1
def c55_28:SC:=(.reg [SO.mk (some 70) (.move (.tmp 8)) none,SO.mk (some 71) (.bin .add 3 (.tmp 70) (.const (Value.int .i64 1))) none,SO.mk (some 8) (.move (.tmp 71)) none])
theorem u55_28:type_of% (@swc _ _ c55_28.eq_1):=@swc _ _ c55_28.eq_1
def c55_29:SC:=(.seq (.block 9 (.reg ((SO.mk (some 72) (.move (.tmp 3)) none) :: (SO.mk (some 73) (.faddr 28 (.tmp 1) 4) none) :: (SO.mk (some 74) (.load 24 (.tmp 73)) none) :: (SO.mk (some 75) (.move (.tmp 6)) none) :: o55_27))) (.keep [8,7,6,1,3] c55_28))
theorem u55_29:type_of% (@swc _ _ c55_29.eq_1):=@swc _ _ c55_29.eq_1
def c55_30:SC:=(.seq (.seq (.reg ((SO.mk (some 57) (.move (.tmp 8)) none) :: (SO.mk (some 58) (.faddr 28 (.tmp 1) 4) none) :: (SO.mk (some 59) (.load 24 (.tmp 58)) none) :: (SO.mk (some 60) (.move (.tmp 6)) none) :: o55_22)) (.keep [69,8,7,6,1,3] c55_23)) (.keep [3,8,7,6,1] c55_29))
theorem u55_30:type_of% (@swc _ _ c55_30.eq_1):=@swc _ _ c55_30.eq_1
def c55_31:SC:=(.block 8 (.loop (.keep [8,7,6,1,3] c55_30)))
theorem u55_31:type_of% (@swc _ _ c55_31.eq_1):=@swc _ _ c55_31.eq_1
def c55_32:SC:=(.reg [SO.mk (some 55) (.move (.tmp 7)) none,SO.mk (some 56) (.bin .add 3 (.tmp 55) (.const (Value.int .i64 1))) none,SO.mk (some 7) (.move (.tmp 56)) none])
theorem u55_32:type_of% (@swc _ _ c55_32.eq_1):=@swc _ _ c55_32.eq_1
def c55_33:SC:=(.seq (.block 7 (.seq (.reg [SO.mk (some 8) (.move (.const (Value.int .i64 0))) none]) (.keep [8,7,6,1,3] c55_31))) (.keep [7,6,1,3] c55_32))
theorem u55_33:type_of% (@swc _ _ c55_33.eq_1):=@swc _ _ c55_33.eq_1
def c55_34:SC:=(.seq (.seq (.reg ((SO.mk (some 46) (.move (.tmp 7)) none) :: (SO.mk (some 47) (.faddr 28 (.tmp 1) 4) none) :: (SO.mk (some 48) (.load 24 (.tmp 47)) none) :: (SO.mk (some 49) (.move (.tmp 6)) none) :: o55_18)) (.keep [54,7,6,1,3] c55_19)) (.keep [7,6,1,3] c55_33))
theorem u55_34:type_of% (@swc _ _ c55_34.eq_1):=@swc _ _ c55_34.eq_1
def c55_35:SC:=(.block 6 (.loop (.keep [7,6,1,3] c55_34)))
theorem u55_35:type_of% (@swc _ _ c55_35.eq_1):=@swc _ _ c55_35.eq_1
def c55_36:SC:=(.reg [SO.mk (some 44) (.move (.tmp 6)) none,SO.mk (some 45) (.bin .add 3 (.tmp 44) (.const (Value.int .i64 1))) none,SO.mk (some 6) (.move (.tmp 45)) none])
theorem u55_36:type_of% (@swc _ _ c55_36.eq_1):=@swc _ _ c55_36.eq_1
def c55_37:SC:=(.seq (.block 5 (.seq (.reg [SO.mk (some 7) (.move (.const (Value.int .i64 0))) none]) (.keep [7,6,1,3] c55_35))) (.keep [6,1,3] c55_36))
theorem u55_37:type_of% (@swc _ _ c55_37.eq_1):=@swc _ _ c55_37.eq_1
def c55_38:SC:=(.seq (.seq (.reg [SO.mk (some 39) (.move (.tmp 6)) none,SO.mk (some 40) (.faddr 28 (.tmp 1) 4) none,SO.mk (some 41) (.load 24 (.tmp 40)) none,SO.mk (some 42) (.len 24 (.tmp 41)) none,SO.mk (some 43) (.bin .lss 3 (.tmp 39) (.tmp 42)) none]) (.keep [43,1,6,3] c55_16)) (.keep [6,1,3] c55_37))
theorem u55_38:type_of% (@swc _ _ c55_38.eq_1):=@swc _ _ c55_38.eq_1
def c55_39:SC:=(.block 4 (.loop (.keep [1,6,3] c55_38)))
theorem u55_39:type_of% (@swc _ _ c55_39.eq_1):=@swc _ _ c55_39.eq_1
def c55_40:SC:=(.seq (.reg [SO.mk (some 88) (.move (.tmp 3)) none,SO.mk (some 2) (.move (.tmp 88)) none]) (.keep [2] .ret))
theorem u55_40:type_of% (@swc _ _ c55_40.eq_1):=@swc _ _ c55_40.eq_1
def c55_41:SC:=(.seq (.seq (.reg [SO.mk (some 6) (.move (.const (Value.int .i64 0))) none]) (.keep [1,6,3] c55_39)) (.keep [3] c55_40))
theorem u55_41:type_of% (@swc _ _ c55_41.eq_1):=@swc _ _ c55_41.eq_1
def c55_42:SC:=(.seq (.seq (.reg [SO.mk (some 4) (.move (.const (Value.int .i64 0))) none]) (.keep [4,1,3] c55_15)) (.keep [1,3] c55_41))
theorem u55_42:type_of% (@swc _ _ c55_42.eq_1):=@swc _ _ c55_42.eq_1
def c55_43:SC:=(.seq (.reg [SO.mk (some 3) (.move (.const (Value.slice none 0 0))) none]) (.keep [1,3] c55_42))
theorem u55_43:type_of% (@swc _ _ c55_43.eq_1):=@swc _ _ c55_43.eq_1
def c55:SC:=(.seq (.reg [SO.mk (some 1) (.box 28 (.tmp 0)) none,SO.mk (some 2) (.move (.const (Value.slice none 0 0))) none]) (.keep [1] c55_43))
theorem c55_eq:annC Try.f55 = some c55:=by kernel_rfl
theorem r55:Try.f55.results.toList = [.tmp 2]:=by kernel_rfl
theorem e55:enters Try.prog 55 = true:=by kernel_rfl
end Go.Proofs.Ytikgiadbkjmabaa
namespace Go.Proofs.Ytikgiadbkjmabaa
open Go.RowKit
set_option maxHeartbeats 4000000
set_option maxRecDepth 20000
attribute [local irreducible] SW OSW SWL SWLn SWD SEcall SEcallv SDv SE SO1 SOg ACalls ACallv Wk EndV
set_option linter.unusedSimpArgs false
set_option linter.unusedVariables false
def sV (s:SttD) (k:Nat):List Int:=(s.vers.take k).flatMap VerD.secs
def upS (u:UpD):List Int:=u.parts.flatMap PartD.secs
def sVall (s:SttD):List Int:=s.vers.flatMap VerD.secs
def sU (s:SttD) (k:Nat):List Int:=sVall s ++ (s.ups.take k).flatMap upS
def sP (s:SttD) (k i:Nat):List Int:=sU s k ++ (s.ups[k]!.parts.take i).flatMap PartD.secs
def aV (s:SttD) (k j:Nat):List Int:=sV s k ++ s.vers[k]!.secs.take j
def aP (s:SttD) (k i j:Nat):List Int:=sP s k i ++ s.ups[k]!.parts[i]!.secs.take j
def allSec (s:SttD):List Int:=sVall s ++ s.ups.flatMap upS
theorem sV_end {s:SttD} {k:Nat} (h:decide ((k:Int) < (s.vers.length:Int)) = false):sV s k = sVall s:=by
  unfold sV sVall;rw [List.take_of_length_le (by simpa using h)]
theorem sU_end {s:SttD} {k:Nat} (h:decide ((k:Int) < (s.ups.length:Int)) = false):sU s k = allSec s:=by
  unfold sU allSec;rw [List.take_of_length_le (by simpa using h)]
theorem sV_next {s:SttD} {k:Nat} (h:k < s.vers.length):sV s (k + 1) = aV s k s.vers[k]!.secs.length:=by
  unfold sV aV;rw [take_next h,List.flatMap_append,List.take_length];simp [sV]
theorem aV_next {s:SttD} {k j:Nat} (h:j < s.vers[k]!.secs.length):aV s k (j + 1) = aV s k j ++ [s.vers[k]!.secs[j]!]:=by
  unfold aV;rw [take_next h,List.append_assoc]
theorem sV0 (s:SttD):sV s 0 = []:=rfl
theorem aV_0 (s:SttD) (k:Nat):aV s k 0 = sV s k:=by simp [aV]
theorem aP_next {s:SttD} {k i j:Nat} (h:j < s.ups[k]!.parts[i]!.secs.length):aP s k i (j + 1) = aP s k i j ++ [s.ups[k]!.parts[i]!.secs[j]!]:=by
  unfold aP;rw [take_next h,List.append_assoc]
theorem aP_0 (s:SttD) (k i:Nat):aP s k i 0 = sP s k i:=by simp [aP]
theorem sP_next {s:SttD} {k i:Nat} (h:i < s.ups[k]!.parts.length):sP s k (i + 1) = aP s k i s.ups[k]!.parts[i]!.secs.length:=by
  unfold aP sP;rw [take_next h,List.flatMap_append,List.take_length];simp
theorem sP_0 (s:SttD) (k:Nat):sP s k 0 = sU s k:=by simp [sP]
theorem sU_next {s:SttD} {k:Nat} (h:k < s.ups.length):sU s (k + 1) = sP s k s.ups[k]!.parts.length:=by
  unfold sP sU;rw [take_next h,List.flatMap_append,List.take_length];simp [upS]
theorem sU_0 (s:SttD):sU s 0 = sVall s:=by simp [sU]
theorem allS_p (s:SttD) (hb1:∀ k j:Nat,(aV s k j).length ≤ 2 ^ 40) (hb2:∀ k i j:Nat,(aP s k i j).length ≤ 2 ^ 40) (hb3:∀ k:Nat,(s.ups[k]!).parts.length ≤ 2 ^ 47) (hb4:∀ k:Nat,(s.vers[k]!).secs.length ≤ 2 ^ 47) (hb5:∀ k i:Nat,((s.ups[k]!).parts[i]!).secs.length ≤ 2 ^ 47):Pure Try.prog 55 [s.av] (.d (ints (allSec s))):=by
  refine pureZ_of follows Try.func55 c55_eq r55 (Nat.le_of_ble_eq_true rfl) fun B σ hcl hsz=>?_
  obtain ⟨z1,z2,z3,z4,z5⟩:=st_sz5 (hsz s.av (by simp))
  clear hsz
  repeat' (first | (simp -implicitDefEqProofs only [*,Nat.reduceBEq,↓reduceIte,Nat.reduceEqDiff,Nat.reduceAdd,reduceCtorEq,AO.kill,Int.reduceLT,Int.reduceToNat,List.getElem?_nil,Nat.reduceMul,Nat.reducePow,Nat.reduceLeDiff,rowOf_mapD,rowOf_mapI,rowOf_mapA,List.getElem?_cons_zero,List.getElem?_cons_succ,take_map_len,take_map_app,List.getElem?_cons_zero,c55,r55,u55_1,v55_2,v55_3,u55_4,v55_5,v55_6,v55_7,u55_8,u55_9,u55_10,u55_11,u55_12,u55_13,u55_14,u55_15,u55_16,v55_17,v55_18,u55_19,v55_20,v55_21,v55_22,u55_23,v55_24,v55_25,v55_26,v55_27,u55_28,u55_29,u55_30,u55_31,u55_32,u55_33,u55_34,u55_35,u55_36,u55_37,u55_38,u55_39,u55_40,u55_41,u55_42,u55_43,ty28,ty23,ty3,ty41,ty26,ty24,ty83,ty81,ty85,SttD.av,SttD.cells,ints,int_,VerD.row,UpD.row,PartD.row,aV_0,aP_0,sP_0,sU_0,sV0,sV_end,sU_end,mvcgen_simp]) | (with_reducible refine And.intro ?_ ?_) | (refine loop_nat ((s.ups[kk]!).parts[i]!.secs.length) (fun _=>(s.ups[kk]!).parts[i]!.secs.length ≤ 2 ^ 47) (fun jj=>[(8,I jj),(7,I i),(6,I kk),(1,.lp (B + 1) 0),(3,.os (B + 38) (aP s kk i jj).length)]) (fun jj=>[(B + 1,.box s.cells),(B + 38,.arr 1 3 ((aP s kk i jj).map int_))]) ?_ (Wk.keep hcl ?_ ?_ ?_) fun jj hjj hFjj=>?_;rotate_left 1;(focus (simp [Fr.get,newF,Fr.map,AV.kill,AV.mapN,SttD.av,SttD.cells,ints,int_,VerD.row,UpD.row,PartD.row,aV_0,aP_0,sP_0,sU_0,sV0,sV_end,sU_end]<;>fail));(focus (simp [sto,newL,Loc.kill,Loc.set,AO.kill,AV.kill,AV.mapN,SttD.av,SttD.cells,ints,int_,VerD.row,UpD.row,PartD.row,aV_0,aP_0,sP_0,sU_0,sV0,sV_end,sU_end]<;>fail));(focus (simp [newL,Loc.kill,Loc.set,SttD.av,SttD.cells,ints,int_,VerD.row,UpD.row,PartD.row,aV_0,aP_0,sP_0,sU_0,sV0,sV_end,sU_end]<;>fail));(try have hwjj:IntKind.i64.wrap ((jj:Int) + 1) = (jj:Int) + 1:=IntWalk.i64_in _ (by omega))) | (refine loop_nat ((s.ups[kk]!).parts.length) (fun _=>(s.ups[kk]!).parts.length ≤ 2 ^ 47) (fun i=>[(7,I i),(6,I kk),(1,.lp (B + 1) 0),(3,.os (B + 38) (sP s kk i).length)]) (fun i=>[(B + 1,.box s.cells),(B + 38,.arr 1 3 ((sP s kk i).map int_))]) ?_ (Wk.keep hcl ?_ ?_ ?_) fun i hi hFi=>?_;rotate_left 1;(focus (simp [Fr.get,newF,Fr.map,AV.kill,AV.mapN,SttD.av,SttD.cells,ints,int_,VerD.row,UpD.row,PartD.row,aV_0,aP_0,sP_0,sU_0,sV0,sV_end,sU_end]<;>fail));(focus (simp [sto,newL,Loc.kill,Loc.set,AO.kill,AV.kill,AV.mapN,SttD.av,SttD.cells,ints,int_,VerD.row,UpD.row,PartD.row,aV_0,aP_0,sP_0,sU_0,sV0,sV_end,sU_end]<;>fail));(focus (simp [newL,Loc.kill,Loc.set,SttD.av,SttD.cells,ints,int_,VerD.row,UpD.row,PartD.row,aV_0,aP_0,sP_0,sU_0,sV0,sV_end,sU_end]<;>fail));(try have hwi:IntKind.i64.wrap ((i:Int) + 1) = (i:Int) + 1:=IntWalk.i64_in _ (by omega))) | (refine loop_nat (s.ups.length) (fun _=>True) (fun kk=>[(6,I kk),(1,.lp (B + 1) 0),(3,.os (B + 38) (sU s kk).length)]) (fun kk=>[(B + 1,.box s.cells),(B + 38,.arr 1 3 ((sU s kk).map int_))]) ?_ (Wk.keep hcl ?_ ?_ ?_) fun kk hkk hFkk=>?_;rotate_left 1;(focus (simp [Fr.get,newF,Fr.map,AV.kill,AV.mapN,SttD.av,SttD.cells,ints,int_,VerD.row,UpD.row,PartD.row,aV_0,aP_0,sP_0,sU_0,sV0,sV_end,sU_end]<;>fail));(focus (simp [sto,newL,Loc.kill,Loc.set,AO.kill,AV.kill,AV.mapN,SttD.av,SttD.cells,ints,int_,VerD.row,UpD.row,PartD.row,aV_0,aP_0,sP_0,sU_0,sV0,sV_end,sU_end]<;>fail));(focus (simp [newL,Loc.kill,Loc.set,SttD.av,SttD.cells,ints,int_,VerD.row,UpD.row,PartD.row,aV_0,aP_0,sP_0,sU_0,sV0,sV_end,sU_end]<;>fail));(try have hwkk:IntKind.i64.wrap ((kk:Int) + 1) = (kk:Int) + 1:=IntWalk.i64_in _ (by omega))) | (refine loop_nat ((s.vers[k]!).secs.length) (fun _=>(s.vers[k]!).secs.length ≤ 2 ^ 47) (fun j=>[(5,I j),(4,I k),(1,.lp (B + 1) 0),(3,.os (B + 38) (aV s k j).length)]) (fun j=>[(B + 1,.box s.cells),(B + 38,.arr 1 3 ((aV s k j).map int_))]) ?_ (Wk.keep hcl ?_ ?_ ?_) fun j hj hFj=>?_;rotate_left 1;(focus (simp [Fr.get,newF,Fr.map,AV.kill,AV.mapN,SttD.av,SttD.cells,ints,int_,VerD.row,UpD.row,PartD.row,aV_0,aP_0,sP_0,sU_0,sV0,sV_end,sU_end]<;>fail));(focus (simp [sto,newL,Loc.kill,Loc.set,AO.kill,AV.kill,AV.mapN,SttD.av,SttD.cells,ints,int_,VerD.row,UpD.row,PartD.row,aV_0,aP_0,sP_0,sU_0,sV0,sV_end,sU_end]<;>fail));(focus (simp [newL,Loc.kill,Loc.set,SttD.av,SttD.cells,ints,int_,VerD.row,UpD.row,PartD.row,aV_0,aP_0,sP_0,sU_0,sV0,sV_end,sU_end]<;>fail));(try have hwj:IntKind.i64.wrap ((j:Int) + 1) = (j:Int) + 1:=IntWalk.i64_in _ (by omega))) | (refine loop_nat (s.vers.length) (fun _=>True) (fun k=>[(4,I k),(1,.lp (B + 1) 0),(3,.os (B + 38) (sV s k).length)]) (fun k=>[(B + 1,.box s.cells),(B + 38,.arr 1 3 ((sV s k).map int_))]) ?_ (Wk.trans (Wk.nameF (s:=3) (n:=B + 38) (k:=1) (E:=3) rfl (by omega) (.inl (by omega)) (fun m=>AO.kill_below (q:=fun m=>decide (m < B)) (by simp) _ (hcl m).1)) (Wk.keep hcl ?_ ?_ ?_)) fun k hk hF=>?_;rotate_left 1;(focus (simp [Fr.get,newF,Fr.map,AV.kill,AV.mapN,SttD.av,SttD.cells,ints,int_,VerD.row,UpD.row,PartD.row,aV_0,aP_0,sP_0,sU_0,sV0,sV_end,sU_end]<;>fail));(focus (simp [sto,newL,Loc.kill,Loc.set,AO.kill,AV.kill,AV.mapN,SttD.av,SttD.cells,ints,int_,VerD.row,UpD.row,PartD.row,aV_0,aP_0,sP_0,sU_0,sV0,sV_end,sU_end]<;>fail));(focus (simp [newL,Loc.kill,Loc.set,SttD.av,SttD.cells,ints,int_,VerD.row,UpD.row,PartD.row,aV_0,aP_0,sP_0,sU_0,sV0,sV_end,sU_end]<;>fail));(try have hw:IntKind.i64.wrap ((k:Int) + 1) = (k:Int) + 1:=IntWalk.i64_in _ (by omega))) | (refine EndX.plain ?_) | (refine nil_split (fun hn=>?_) (fun hn=>?_)) | (refine gcall_no not_false ?_) | (refine gdcall_no not_false ?_) | (refine GuardS_of _ _ _ _ _ _ (fun hg=>?_) (fun hg=>?_)) | (refine GuardD_of _ _ _ _ (fun hg=>?_) (fun hg=>?_)) | (refine CondB_of _ _ _ _ _ _ _ ?_ (fun hg=>?_) (fun hg=>?_)))
  all_goals (try (first | ((first | unfold noN | unfold Fr.below | unfold Loc.below);simp [Fr.allN,AV.allN,AV.allNL,AO.allN];done) | rfl | trivial | assumption | (intro row hrow;simp only [List.mem_map] at hrow;obtain ⟨x,_,rfl⟩:=hrow;rfl) | (refine Wk.keep hcl ?_ ?_ ?_;(focus (simp [Fr.get,SttD.av,SttD.cells,ints,int_,VerD.row,UpD.row,PartD.row,aV_0,aP_0,sP_0,sU_0,sV0,sV_end,sU_end]<;>fail));(focus (simp [sto,SttD.av,SttD.cells,ints,int_,VerD.row,UpD.row,PartD.row,aV_0,aP_0,sP_0,sU_0,sV0,sV_end,sU_end]<;>fail));(focus (simp<;>fail))) | (simp [allP,opd,Fr.get,Fr.below,Fr.allN,AV.allN,AV.allNL,Loc.below,AO.allN,noN,killO,killT,killD,mkNames,AO.kill,AV.kill,AV.mapN,AV.mapNL];done) | (with_reducible exact ltD (by assumption)) | omega | (simp only [decide_eq_true_eq,decide_eq_false_iff_not] at *;omega)))
  all_goals (try (have hb:=hb1 k j;omega))
  all_goals (try (have hb:=hb2 kk i jj;omega))
  all_goals (try (
    have h0:decide ((j:Int) < (s.vers[k]!.secs.length:Int)) = true:=by assumption
    rw [aV_next (ltS h0)]
    refine Wk.keep hcl ?_ ?_ ?_
    · simp [Fr.get]
    · simp [sto,SttD.cells,ints,int_]
    · simp))
  all_goals (try (
    have h0:decide ((j:Int) < (s.vers[k]!.secs.length:Int)) = false:=by assumption
    have h1:decide ((k:Int) < (s.vers.length:Int)) = true:=by assumption
    have ej:s.vers[k]!.secs.length = j:=by have:=geS h0;omega
    rw [sV_next (ltS h1),ej]
    refine Wk.keep hcl ?_ ?_ ?_
    · simp [Fr.get]
    · simp [sto,SttD.cells,ints,int_]
    · simp))
  all_goals (try (
    have h0:decide ((jj:Int) < ((s.ups[kk]!).parts[i]!.secs.length:Int)) = true:=by assumption
    rw [aP_next (ltS h0)]
    refine Wk.keep hcl ?_ ?_ ?_
    · simp [Fr.get]
    · simp [sto,SttD.cells,ints,int_]
    · simp))
  all_goals (try (
    have h0:decide ((jj:Int) < ((s.ups[kk]!).parts[i]!.secs.length:Int)) = false:=by assumption
    have h1:decide ((i:Int) < ((s.ups[kk]!).parts.length:Int)) = true:=by assumption
    have ej:(s.ups[kk]!).parts[i]!.secs.length = jj:=by have:=geS h0;omega
    rw [sP_next (ltS h1),ej]
    refine Wk.keep hcl ?_ ?_ ?_
    · simp [Fr.get]
    · simp [sto,SttD.cells,ints,int_]
    · simp))
  all_goals (try (
    have h0:decide ((i:Int) < ((s.ups[kk]!).parts.length:Int)) = false:=by assumption
    have h1:decide ((kk:Int) < (s.ups.length:Int)) = true:=by assumption
    have ej:(s.ups[kk]!).parts.length = i:=by have:=geS h0;omega
    rw [sU_next (ltS h1),ej]
    refine Wk.keep hcl ?_ ?_ ?_
    · simp [Fr.get]
    · simp [sto,SttD.cells,ints,int_]
    · simp))
end Go.Proofs.Ytikgiadbkjmabaa
