/- The reference: all sectors that are somebody's. -/
import Derived.Test.YtijpmidnclbhpaaVMay
import Derived.Test.YtijpmidnclbhpaaTypes
namespace Go.Proofs.Ytijpmidnclbhpaa
open Go.RowKit
set_option maxRecDepth 100000
def c66_1:SC:=(.cond (.tmp 13) .skip (.exit 0))
theorem u66_1:type_of% (@swc _ _ c66_1.eq_1):=@swc _ _ c66_1.eq_1
def o66_2:List SO:=((SO.mk (some 24) (.bin .lss 3 (.tmp 16) (.tmp 23)) none) :: [])
theorem v66_2:type_of% (@swl _ _ o66_2.eq_1):=@swl _ _ o66_2.eq_1
def o66_3:List SO:=((SO.mk (some 20) (.iaddr 23 (.tmp 18) (.tmp 19)) none) :: (SO.mk (some 21) (.faddr 51 (.tmp 20) 8) none) :: (SO.mk (some 22) (.load 26 (.tmp 21)) none) :: (SO.mk (some 23) (.len 26 (.tmp 22)) none) :: o66_2)
theorem v66_3:type_of% (@swl _ _ o66_3.eq_1):=@swl _ _ o66_3.eq_1
def c66_4:SC:=(.cond (.tmp 24) .skip (.exit 2))
theorem u66_4:type_of% (@swc _ _ c66_4.eq_1):=@swc _ _ c66_4.eq_1
def o66_5:List SO:=((SO.mk (some 3) (.move (.tmp 38)) none) :: [])
theorem v66_5:type_of% (@swl _ _ o66_5.eq_1):=@swl _ _ o66_5.eq_1
def o66_6:List SO:=((SO.mk (some 35) (.iaddr 26 (.tmp 33) (.tmp 34)) none) :: (SO.mk (some 36) (.load 3 (.tmp 35)) none) :: (SO.mk (some 37) (.bslice 26 1 [(0 ,(.tmp 36))]) none) :: (SO.mk (some 38) (.app 26 26 (.tmp 27) (.tmp 37)) none) :: o66_5)
theorem v66_6:type_of% (@swl _ _ o66_6.eq_1):=@swl _ _ o66_6.eq_1
def o66_7:List SO:=((SO.mk (some 31) (.iaddr 23 (.tmp 29) (.tmp 30)) none) :: (SO.mk (some 32) (.faddr 51 (.tmp 31) 8) none) :: (SO.mk (some 33) (.load 26 (.tmp 32)) none) :: (SO.mk (some 34) (.move (.tmp 5)) none) :: o66_6)
theorem v66_7:type_of% (@swl _ _ o66_7.eq_1):=@swl _ _ o66_7.eq_1
def c66_8:SC:=(.reg [SO.mk (some 25) (.move (.tmp 5)) none,SO.mk (some 26) (.bin .add 3 (.tmp 25) (.const (Value.int .i64 1))) none,SO.mk (some 5) (.move (.tmp 26)) none])
theorem u66_8:type_of% (@swc _ _ c66_8.eq_1):=@swc _ _ c66_8.eq_1
def c66_9:SC:=(.seq (.block 3 (.reg ((SO.mk (some 27) (.move (.tmp 3)) none) :: (SO.mk (some 28) (.faddr 28 (.tmp 1) 3) none) :: (SO.mk (some 29) (.load 23 (.tmp 28)) none) :: (SO.mk (some 30) (.move (.tmp 4)) none) :: o66_7))) (.keep [5,4,1,3] c66_8))
theorem u66_9:type_of% (@swc _ _ c66_9.eq_1):=@swc _ _ c66_9.eq_1
def c66_10:SC:=(.seq (.seq (.reg ((SO.mk (some 16) (.move (.tmp 5)) none) :: (SO.mk (some 17) (.faddr 28 (.tmp 1) 3) none) :: (SO.mk (some 18) (.load 23 (.tmp 17)) none) :: (SO.mk (some 19) (.move (.tmp 4)) none) :: o66_3)) (.keep [24,5,4,1,3] c66_4)) (.keep [3,5,4,1] c66_9))
theorem u66_10:type_of% (@swc _ _ c66_10.eq_1):=@swc _ _ c66_10.eq_1
def c66_11:SC:=(.block 2 (.loop (.keep [5,4,1,3] c66_10)))
theorem u66_11:type_of% (@swc _ _ c66_11.eq_1):=@swc _ _ c66_11.eq_1
def c66_12:SC:=(.reg [SO.mk (some 14) (.move (.tmp 4)) none,SO.mk (some 15) (.bin .add 3 (.tmp 14) (.const (Value.int .i64 1))) none,SO.mk (some 4) (.move (.tmp 15)) none])
theorem u66_12:type_of% (@swc _ _ c66_12.eq_1):=@swc _ _ c66_12.eq_1
def c66_13:SC:=(.seq (.block 1 (.seq (.reg [SO.mk (some 5) (.move (.const (Value.int .i64 0))) none]) (.keep [5,4,1,3] c66_11))) (.keep [4,1,3] c66_12))
theorem u66_13:type_of% (@swc _ _ c66_13.eq_1):=@swc _ _ c66_13.eq_1
def c66_14:SC:=(.seq (.seq (.reg [SO.mk (some 9) (.move (.tmp 4)) none,SO.mk (some 10) (.faddr 28 (.tmp 1) 3) none,SO.mk (some 11) (.load 23 (.tmp 10)) none,SO.mk (some 12) (.len 23 (.tmp 11)) none,SO.mk (some 13) (.bin .lss 3 (.tmp 9) (.tmp 12)) none]) (.keep [13,4,1,3] c66_1)) (.keep [4,1,3] c66_13))
theorem u66_14:type_of% (@swc _ _ c66_14.eq_1):=@swc _ _ c66_14.eq_1
def c66_15:SC:=(.block 0 (.loop (.keep [4,1,3] c66_14)))
theorem u66_15:type_of% (@swc _ _ c66_15.eq_1):=@swc _ _ c66_15.eq_1
def c66_16:SC:=(.cond (.tmp 43) .skip (.exit 4))
theorem u66_16:type_of% (@swc _ _ c66_16.eq_1):=@swc _ _ c66_16.eq_1
def o66_17:List SO:=((SO.mk (some 54) (.bin .lss 3 (.tmp 46) (.tmp 53)) none) :: [])
theorem v66_17:type_of% (@swl _ _ o66_17.eq_1):=@swl _ _ o66_17.eq_1
def o66_18:List SO:=((SO.mk (some 50) (.iaddr 24 (.tmp 48) (.tmp 49)) none) :: (SO.mk (some 51) (.faddr 55 (.tmp 50) 3) none) :: (SO.mk (some 52) (.load 53 (.tmp 51)) none) :: (SO.mk (some 53) (.len 53 (.tmp 52)) none) :: o66_17)
theorem v66_18:type_of% (@swl _ _ o66_18.eq_1):=@swl _ _ o66_18.eq_1
def c66_19:SC:=(.cond (.tmp 54) .skip (.exit 6))
theorem u66_19:type_of% (@swc _ _ c66_19.eq_1):=@swc _ _ c66_19.eq_1
def o66_20:List SO:=((SO.mk (some 69) (.bin .lss 3 (.tmp 57) (.tmp 68)) none) :: [])
theorem v66_20:type_of% (@swl _ _ o66_20.eq_1):=@swl _ _ o66_20.eq_1
def o66_21:List SO:=((SO.mk (some 65) (.iaddr 53 (.tmp 63) (.tmp 64)) none) :: (SO.mk (some 66) (.faddr 57 (.tmp 65) 2) none) :: (SO.mk (some 67) (.load 26 (.tmp 66)) none) :: (SO.mk (some 68) (.len 26 (.tmp 67)) none) :: o66_20)
theorem v66_21:type_of% (@swl _ _ o66_21.eq_1):=@swl _ _ o66_21.eq_1
def o66_22:List SO:=((SO.mk (some 61) (.iaddr 24 (.tmp 59) (.tmp 60)) none) :: (SO.mk (some 62) (.faddr 55 (.tmp 61) 3) none) :: (SO.mk (some 63) (.load 53 (.tmp 62)) none) :: (SO.mk (some 64) (.move (.tmp 7)) none) :: o66_21)
theorem v66_22:type_of% (@swl _ _ o66_22.eq_1):=@swl _ _ o66_22.eq_1
def c66_23:SC:=(.cond (.tmp 69) .skip (.exit 8))
theorem u66_23:type_of% (@swc _ _ c66_23.eq_1):=@swc _ _ c66_23.eq_1
def o66_24:List SO:=((SO.mk (some 3) (.move (.tmp 87)) none) :: [])
theorem v66_24:type_of% (@swl _ _ o66_24.eq_1):=@swl _ _ o66_24.eq_1
def o66_25:List SO:=((SO.mk (some 84) (.iaddr 26 (.tmp 82) (.tmp 83)) none) :: (SO.mk (some 85) (.load 3 (.tmp 84)) none) :: (SO.mk (some 86) (.bslice 26 1 [(0 ,(.tmp 85))]) none) :: (SO.mk (some 87) (.app 26 26 (.tmp 72) (.tmp 86)) none) :: o66_24)
theorem v66_25:type_of% (@swl _ _ o66_25.eq_1):=@swl _ _ o66_25.eq_1
def o66_26:List SO:=((SO.mk (some 80) (.iaddr 53 (.tmp 78) (.tmp 79)) none) :: (SO.mk (some 81) (.faddr 57 (.tmp 80) 2) none) :: (SO.mk (some 82) (.load 26 (.tmp 81)) none) :: (SO.mk (some 83) (.move (.tmp 8)) none) :: o66_25)
theorem v66_26:type_of% (@swl _ _ o66_26.eq_1):=@swl _ _ o66_26.eq_1
def o66_27:List SO:=((SO.mk (some 76) (.iaddr 24 (.tmp 74) (.tmp 75)) none) :: (SO.mk (some 77) (.faddr 55 (.tmp 76) 3) none) :: (SO.mk (some 78) (.load 53 (.tmp 77)) none) :: (SO.mk (some 79) (.move (.tmp 7)) none) :: o66_26)
theorem v66_27:type_of% (@swl _ _ o66_27.eq_1):=@swl _ _ o66_27.eq_1
def c66_28:SC:=(.reg [SO.mk (some 70) (.move (.tmp 8)) none,SO.mk (some 71) (.bin .add 3 (.tmp 70) (.const (Value.int .i64 1))) none,SO.mk (some 8) (.move (.tmp 71)) none])
theorem u66_28:type_of% (@swc _ _ c66_28.eq_1):=@swc _ _ c66_28.eq_1
def c66_29:SC:=(.seq (.block 9 (.reg ((SO.mk (some 72) (.move (.tmp 3)) none) :: (SO.mk (some 73) (.faddr 28 (.tmp 1) 4) none) :: (SO.mk (some 74) (.load 24 (.tmp 73)) none) :: (SO.mk (some 75) (.move (.tmp 6)) none) :: o66_27))) (.keep [8,7,6,1,3] c66_28))
theorem u66_29:type_of% (@swc _ _ c66_29.eq_1):=@swc _ _ c66_29.eq_1
def c66_30:SC:=(.seq (.seq (.reg ((SO.mk (some 57) (.move (.tmp 8)) none) :: (SO.mk (some 58) (.faddr 28 (.tmp 1) 4) none) :: (SO.mk (some 59) (.load 24 (.tmp 58)) none) :: (SO.mk (some 60) (.move (.tmp 6)) none) :: o66_22)) (.keep [69,8,7,6,1,3] c66_23)) (.keep [3,8,7,6,1] c66_29))
theorem u66_30:type_of% (@swc _ _ c66_30.eq_1):=@swc _ _ c66_30.eq_1
def c66_31:SC:=(.block 8 (.loop (.keep [8,7,6,1,3] c66_30)))
theorem u66_31:type_of% (@swc _ _ c66_31.eq_1):=@swc _ _ c66_31.eq_1
def c66_32:SC:=(.reg [SO.mk (some 55) (.move (.tmp 7)) none,SO.mk (some 56) (.bin .add 3 (.tmp 55) (.const (Value.int .i64 1))) none,SO.mk (some 7) (.move (.tmp 56)) none])
theorem u66_32:type_of% (@swc _ _ c66_32.eq_1):=@swc _ _ c66_32.eq_1
def c66_33:SC:=(.seq (.block 7 (.seq (.reg [SO.mk (some 8) (.move (.const (Value.int .i64 0))) none]) (.keep [8,7,6,1,3] c66_31))) (.keep [7,6,1,3] c66_32))
theorem u66_33:type_of% (@swc _ _ c66_33.eq_1):=@swc _ _ c66_33.eq_1
def c66_34:SC:=(.seq (.seq (.reg ((SO.mk (some 46) (.move (.tmp 7)) none) :: (SO.mk (some 47) (.faddr 28 (.tmp 1) 4) none) :: (SO.mk (some 48) (.load 24 (.tmp 47)) none) :: (SO.mk (some 49) (.move (.tmp 6)) none) :: o66_18)) (.keep [54,7,6,1,3] c66_19)) (.keep [7,6,1,3] c66_33))
theorem u66_34:type_of% (@swc _ _ c66_34.eq_1):=@swc _ _ c66_34.eq_1
def c66_35:SC:=(.block 6 (.loop (.keep [7,6,1,3] c66_34)))
theorem u66_35:type_of% (@swc _ _ c66_35.eq_1):=@swc _ _ c66_35.eq_1
def c66_36:SC:=(.reg [SO.mk (some 44) (.move (.tmp 6)) none,SO.mk (some 45) (.bin .add 3 (.tmp 44) (.const (Value.int .i64 1))) none,SO.mk (some 6) (.move (.tmp 45)) none])
theorem u66_36:type_of% (@swc _ _ c66_36.eq_1):=@swc _ _ c66_36.eq_1
def c66_37:SC:=(.seq (.block 5 (.seq (.reg [SO.mk (some 7) (.move (.const (Value.int .i64 0))) none]) (.keep [7,6,1,3] c66_35))) (.keep [6,1,3] c66_36))
theorem u66_37:type_of% (@swc _ _ c66_37.eq_1):=@swc _ _ c66_37.eq_1
def c66_38:SC:=(.seq (.seq (.reg [SO.mk (some 39) (.move (.tmp 6)) none,SO.mk (some 40) (.faddr 28 (.tmp 1) 4) none,SO.mk (some 41) (.load 24 (.tmp 40)) none,SO.mk (some 42) (.len 24 (.tmp 41)) none,SO.mk (some 43) (.bin .lss 3 (.tmp 39) (.tmp 42)) none]) (.keep [43,1,6,3] c66_16)) (.keep [6,1,3] c66_37))
theorem u66_38:type_of% (@swc _ _ c66_38.eq_1):=@swc _ _ c66_38.eq_1
def c66_39:SC:=(.block 4 (.loop (.keep [1,6,3] c66_38)))
theorem u66_39:type_of% (@swc _ _ c66_39.eq_1):=@swc _ _ c66_39.eq_1
def c66_40:SC:=(.seq (.reg [SO.mk (some 88) (.move (.tmp 3)) none,SO.mk (some 2) (.move (.tmp 88)) none]) (.keep [2] .ret))
theorem u66_40:type_of% (@swc _ _ c66_40.eq_1):=@swc _ _ c66_40.eq_1
def c66_41:SC:=(.seq (.seq (.reg [SO.mk (some 6) (.move (.const (Value.int .i64 0))) none]) (.keep [1,6,3] c66_39)) (.keep [3] c66_40))
theorem u66_41:type_of% (@swc _ _ c66_41.eq_1):=@swc _ _ c66_41.eq_1
def c66_42:SC:=(.seq (.seq (.reg [SO.mk (some 4) (.move (.const (Value.int .i64 0))) none]) (.keep [4,1,3] c66_15)) (.keep [1,3] c66_41))
theorem u66_42:type_of% (@swc _ _ c66_42.eq_1):=@swc _ _ c66_42.eq_1
def c66_43:SC:=(.seq (.reg [SO.mk (some 3) (.move (.const (Value.slice none 0 0))) none]) (.keep [1,3] c66_42))
theorem u66_43:type_of% (@swc _ _ c66_43.eq_1):=@swc _ _ c66_43.eq_1
def c66:SC:=(.seq (.reg [SO.mk (some 1) (.box 28 (.tmp 0)) none,SO.mk (some 2) (.move (.const (Value.slice none 0 0))) none]) (.keep [1] c66_43))
theorem c66_eq:annC Try.f66 = some c66:=by kernel_rfl
theorem r66:Try.f66.results.toList = [.tmp 2]:=by kernel_rfl
theorem e66:enters Try.prog 66 = true:=by kernel_rfl
end Go.Proofs.Ytijpmidnclbhpaa
namespace Go.Proofs.Ytijpmidnclbhpaa
open Go.RowKit
set_option maxHeartbeats 4000000
set_option maxRecDepth 20000
attribute [local irreducible] SW OSW SWL SWLn SWD SEcall SEcallv SDv SE SO1 SOg ACalls ACallv Wk EndV
set_option linter.unusedSimpArgs false
set_option linter.unusedVariables false
def sV (s:SttD) (k:Nat):List Int:=(s.vers.take k).flatMap VerD.secs
def upS (u:UpD):List Int:=u.parts.flatMap PartD.secs
def sVall (s:SttD):List Int:=s.vers.flatMap VerD.secs
def sU (s:SttD) (k:Nat):List Int:=sVall s ++ (s.ups.take k).flatMap upS
def sP (s:SttD) (k i:Nat):List Int:=sU s k ++ (s.ups[k]!.parts.take i).flatMap PartD.secs
def aV (s:SttD) (k j:Nat):List Int:=sV s k ++ s.vers[k]!.secs.take j
def aP (s:SttD) (k i j:Nat):List Int:=sP s k i ++ s.ups[k]!.parts[i]!.secs.take j
def allSec (s:SttD):List Int:=sVall s ++ s.ups.flatMap upS
theorem sV_end {s:SttD} {k:Nat} (h:decide ((k:Int) < (s.vers.length:Int)) = false):sV s k = sVall s:=by
  unfold sV sVall;rw [List.take_of_length_le (by simpa using h)]
theorem sU_end {s:SttD} {k:Nat} (h:decide ((k:Int) < (s.ups.length:Int)) = false):sU s k = allSec s:=by
  unfold sU allSec;rw [List.take_of_length_le (by simpa using h)]
theorem sV_next {s:SttD} {k:Nat} (h:k < s.vers.length):sV s (k + 1) = aV s k s.vers[k]!.secs.length:=by
  unfold sV aV;rw [take_next h,List.flatMap_append,List.take_length];simp [sV]
theorem aV_next {s:SttD} {k j:Nat} (h:j < s.vers[k]!.secs.length):aV s k (j + 1) = aV s k j ++ [s.vers[k]!.secs[j]!]:=by
  unfold aV;rw [take_next h,List.append_assoc]
theorem sV0 (s:SttD):sV s 0 = []:=rfl
theorem aV_0 (s:SttD) (k:Nat):aV s k 0 = sV s k:=by simp [aV]
theorem aP_next {s:SttD} {k i j:Nat} (h:j < s.ups[k]!.parts[i]!.secs.length):aP s k i (j + 1) = aP s k i j ++ [s.ups[k]!.parts[i]!.secs[j]!]:=by
  unfold aP;rw [take_next h,List.append_assoc]
theorem aP_0 (s:SttD) (k i:Nat):aP s k i 0 = sP s k i:=by simp [aP]
theorem sP_next {s:SttD} {k i:Nat} (h:i < s.ups[k]!.parts.length):sP s k (i + 1) = aP s k i s.ups[k]!.parts[i]!.secs.length:=by
  unfold aP sP;rw [take_next h,List.flatMap_append,List.take_length];simp
theorem sP_0 (s:SttD) (k:Nat):sP s k 0 = sU s k:=by simp [sP]
theorem sU_next {s:SttD} {k:Nat} (h:k < s.ups.length):sU s (k + 1) = sP s k s.ups[k]!.parts.length:=by
  unfold sP sU;rw [take_next h,List.flatMap_append,List.take_length];simp [upS]
theorem sU_0 (s:SttD):sU s 0 = sVall s:=by simp [sU]
theorem allS_p (s:SttD) (hb1:∀ k j:Nat,(aV s k j).length ≤ 2 ^ 40) (hb2:∀ k i j:Nat,(aP s k i j).length ≤ 2 ^ 40) (hb3:∀ k:Nat,(s.ups[k]!).parts.length ≤ 2 ^ 47) (hb4:∀ k:Nat,(s.vers[k]!).secs.length ≤ 2 ^ 47) (hb5:∀ k i:Nat,((s.ups[k]!).parts[i]!).secs.length ≤ 2 ^ 47):Pure Try.prog 66 [s.av] (.d (ints (allSec s))):=by
  refine pureZ_of follows Try.func66 c66_eq r66 (Nat.le_of_ble_eq_true rfl) fun B σ hcl hsz=>?_
  obtain ⟨z1,z2,z3,z4,z5⟩:=st_sz5 (hsz s.av (by simp))
  clear hsz
  repeat' (first | (simp -implicitDefEqProofs only [*,Nat.reduceBEq,↓reduceIte,Nat.reduceEqDiff,Nat.reduceAdd,reduceCtorEq,AO.kill,AV.kill,Int.reduceLT,Int.reduceToNat,List.getElem?_nil,Nat.reduceMul,Nat.reducePow,Nat.reduceLeDiff,rowOf_mapD,rowOf_mapI,rowOf_mapA,List.getElem?_cons_zero,List.getElem?_cons_succ,take_map_len,take_map_app,List.getElem?_cons_zero,c66,r66,u66_1,v66_2,v66_3,u66_4,v66_5,v66_6,v66_7,u66_8,u66_9,u66_10,u66_11,u66_12,u66_13,u66_14,u66_15,u66_16,v66_17,v66_18,u66_19,v66_20,v66_21,v66_22,u66_23,v66_24,v66_25,v66_26,v66_27,u66_28,u66_29,u66_30,u66_31,u66_32,u66_33,u66_34,u66_35,u66_36,u66_37,u66_38,u66_39,u66_40,u66_41,u66_42,u66_43,ty28,ty23,ty3,ty51,ty26,ty24,ty55,ty53,ty57,SttD.av,SttD.cells,ints,int_,VerD.row,UpD.row,PartD.row,aV_0,aP_0,sP_0,sU_0,sV0,sV_end,sU_end,mvcgen_simp]) | (with_reducible refine And.intro ?_ ?_) | (refine loop_nat ((s.ups[kk]!).parts[i]!.secs.length) (fun _=>(s.ups[kk]!).parts[i]!.secs.length ≤ 2 ^ 47) (fun jj=>[(8,I jj),(7,I i),(6,I kk),(1,.lp (B + 1) 0),(3,.os (B + 38) (aP s kk i jj).length)]) (fun jj=>[(B + 1,.box s.cells),(B + 38,.arr 1 3 ((aP s kk i jj).map int_))]) ?_ (Wk.keep hcl ?_ ?_ ?_) fun jj hjj hFjj=>?_;rotate_left 1;(focus (simp [Fr.get,newF,Fr.map,AV.kill,AV.mapN,SttD.av,SttD.cells,ints,int_,VerD.row,UpD.row,PartD.row,aV_0,aP_0,sP_0,sU_0,sV0,sV_end,sU_end]<;>fail));(focus (simp [sto,newL,Loc.kill,Loc.set,AO.kill,AV.kill,AV.mapN,SttD.av,SttD.cells,ints,int_,VerD.row,UpD.row,PartD.row,aV_0,aP_0,sP_0,sU_0,sV0,sV_end,sU_end]<;>fail));(focus (simp [newL,Loc.kill,Loc.set,SttD.av,SttD.cells,ints,int_,VerD.row,UpD.row,PartD.row,aV_0,aP_0,sP_0,sU_0,sV0,sV_end,sU_end]<;>fail));(try have hwjj:IntKind.i64.wrap ((jj:Int) + 1) = (jj:Int) + 1:=IntWalk.i64_in _ (by omega))) | (refine loop_nat ((s.ups[kk]!).parts.length) (fun _=>(s.ups[kk]!).parts.length ≤ 2 ^ 47) (fun i=>[(7,I i),(6,I kk),(1,.lp (B + 1) 0),(3,.os (B + 38) (sP s kk i).length)]) (fun i=>[(B + 1,.box s.cells),(B + 38,.arr 1 3 ((sP s kk i).map int_))]) ?_ (Wk.keep hcl ?_ ?_ ?_) fun i hi hFi=>?_;rotate_left 1;(focus (simp [Fr.get,newF,Fr.map,AV.kill,AV.mapN,SttD.av,SttD.cells,ints,int_,VerD.row,UpD.row,PartD.row,aV_0,aP_0,sP_0,sU_0,sV0,sV_end,sU_end]<;>fail));(focus (simp [sto,newL,Loc.kill,Loc.set,AO.kill,AV.kill,AV.mapN,SttD.av,SttD.cells,ints,int_,VerD.row,UpD.row,PartD.row,aV_0,aP_0,sP_0,sU_0,sV0,sV_end,sU_end]<;>fail));(focus (simp [newL,Loc.kill,Loc.set,SttD.av,SttD.cells,ints,int_,VerD.row,UpD.row,PartD.row,aV_0,aP_0,sP_0,sU_0,sV0,sV_end,sU_end]<;>fail));(try have hwi:IntKind.i64.wrap ((i:Int) + 1) = (i:Int) + 1:=IntWalk.i64_in _ (by omega))) | (refine loop_nat (s.ups.length) (fun _=>True) (fun kk=>[(6,I kk),(1,.lp (B + 1) 0),(3,.os (B + 38) (sU s kk).length)]) (fun kk=>[(B + 1,.box s.cells),(B + 38,.arr 1 3 ((sU s kk).map int_))]) ?_ (Wk.keep hcl ?_ ?_ ?_) fun kk hkk hFkk=>?_;rotate_left 1;(focus (simp [Fr.get,newF,Fr.map,AV.kill,AV.mapN,SttD.av,SttD.cells,ints,int_,VerD.row,UpD.row,PartD.row,aV_0,aP_0,sP_0,sU_0,sV0,sV_end,sU_end]<;>fail));(focus (simp [sto,newL,Loc.kill,Loc.set,AO.kill,AV.kill,AV.mapN,SttD.av,SttD.cells,ints,int_,VerD.row,UpD.row,PartD.row,aV_0,aP_0,sP_0,sU_0,sV0,sV_end,sU_end]<;>fail));(focus (simp [newL,Loc.kill,Loc.set,SttD.av,SttD.cells,ints,int_,VerD.row,UpD.row,PartD.row,aV_0,aP_0,sP_0,sU_0,sV0,sV_end,sU_end]<;>fail));(try have hwkk:IntKind.i64.wrap ((kk:Int) + 1) = (kk:Int) + 1:=IntWalk.i64_in _ (by omega))) | (refine loop_nat ((s.vers[k]!).secs.length) (fun _=>(s.vers[k]!).secs.length ≤ 2 ^ 47) (fun j=>[(5,I j),(4,I k),(1,.lp (B + 1) 0),(3,.os (B + 38) (aV s k j).length)]) (fun j=>[(B + 1,.box s.cells),(B + 38,.arr 1 3 ((aV s k j).map int_))]) ?_ (Wk.keep hcl ?_ ?_ ?_) fun j hj hFj=>?_;rotate_left 1;(focus (simp [Fr.get,newF,Fr.map,AV.kill,AV.mapN,SttD.av,SttD.cells,ints,int_,VerD.row,UpD.row,PartD.row,aV_0,aP_0,sP_0,sU_0,sV0,sV_end,sU_end]<;>fail));(focus (simp [sto,newL,Loc.kill,Loc.set,AO.kill,AV.kill,AV.mapN,SttD.av,SttD.cells,ints,int_,VerD.row,UpD.row,PartD.row,aV_0,aP_0,sP_0,sU_0,sV0,sV_end,sU_end]<;>fail));(focus (simp [newL,Loc.kill,Loc.set,SttD.av,SttD.cells,ints,int_,VerD.row,UpD.row,PartD.row,aV_0,aP_0,sP_0,sU_0,sV0,sV_end,sU_end]<;>fail));(try have hwj:IntKind.i64.wrap ((j:Int) + 1) = (j:Int) + 1:=IntWalk.i64_in _ (by omega))) | (refine loop_nat (s.vers.length) (fun _=>True) (fun k=>[(4,I k),(1,.lp (B + 1) 0),(3,.os (B + 38) (sV s k).length)]) (fun k=>[(B + 1,.box s.cells),(B + 38,.arr 1 3 ((sV s k).map int_))]) ?_ (Wk.trans (Wk.nameF (s:=3) (n:=B + 38) (k:=1) (E:=3) rfl (by omega) (.inl (by omega)) (fun m=>AO.kill_below (q:=fun m=>decide (m < B)) (by simp) _ (hcl m).1)) (Wk.keep hcl ?_ ?_ ?_)) fun k hk hF=>?_;rotate_left 1;(focus (simp [Fr.get,newF,Fr.map,AV.kill,AV.mapN,SttD.av,SttD.cells,ints,int_,VerD.row,UpD.row,PartD.row,aV_0,aP_0,sP_0,sU_0,sV0,sV_end,sU_end]<;>fail));(focus (simp [sto,newL,Loc.kill,Loc.set,AO.kill,AV.kill,AV.mapN,SttD.av,SttD.cells,ints,int_,VerD.row,UpD.row,PartD.row,aV_0,aP_0,sP_0,sU_0,sV0,sV_end,sU_end]<;>fail));(focus (simp [newL,Loc.kill,Loc.set,SttD.av,SttD.cells,ints,int_,VerD.row,UpD.row,PartD.row,aV_0,aP_0,sP_0,sU_0,sV0,sV_end,sU_end]<;>fail));(try have hw:IntKind.i64.wrap ((k:Int) + 1) = (k:Int) + 1:=IntWalk.i64_in _ (by omega))) | (refine EndX.plain ?_) | (refine nil_split (fun hn=>?_) (fun hn=>?_)) | (refine gcall_no not_false ?_) | (refine gdcall_no not_false ?_) | (refine GuardS_of _ _ _ _ _ _ (fun hg=>?_) (fun hg=>?_)) | (refine GuardD_of _ _ _ _ (fun hg=>?_) (fun hg=>?_)) | (refine CondB_of _ _ _ _ _ _ _ ?_ (fun hg=>?_) (fun hg=>?_)))
  all_goals (try (first | ((first | unfold noN | unfold Fr.below | unfold Loc.below);simp [Fr.allN,AV.allN,AV.allNL,AO.allN];done) | rfl | trivial | assumption | (intro row hrow;simp only [List.mem_map] at hrow;obtain ⟨x,_,rfl⟩:=hrow;rfl) | (refine Wk.keep hcl ?_ ?_ ?_;(focus (simp [Fr.get,SttD.av,SttD.cells,ints,int_,VerD.row,UpD.row,PartD.row,aV_0,aP_0,sP_0,sU_0,sV0,sV_end,sU_end]<;>fail));(focus (simp [sto,SttD.av,SttD.cells,ints,int_,VerD.row,UpD.row,PartD.row,aV_0,aP_0,sP_0,sU_0,sV0,sV_end,sU_end]<;>fail));(focus (simp<;>fail))) | (simp [allP,opd,Fr.get,Fr.below,Fr.allN,AV.allN,AV.allNL,Loc.below,AO.allN,noN,killO,killT,killD,mkNames,AO.kill,AV.kill,AV.mapN,AV.mapNL];done) | (with_reducible exact ltD (by assumption)) | omega | (simp only [decide_eq_true_eq,decide_eq_false_iff_not] at *;omega)))
  all_goals (try (have hb:=hb1 k j;omega))
  all_goals (try (have hb:=hb2 kk i jj;omega))
  all_goals (try (
    have h0:decide ((j:Int) < (s.vers[k]!.secs.length:Int)) = true:=by assumption
    rw [aV_next (ltS h0)]
    refine Wk.keep hcl ?_ ?_ ?_
    · simp [Fr.get]
    · simp [sto,SttD.cells,ints,int_]
    · simp))
  all_goals (try (
    have h0:decide ((j:Int) < (s.vers[k]!.secs.length:Int)) = false:=by assumption
    have h1:decide ((k:Int) < (s.vers.length:Int)) = true:=by assumption
    have ej:s.vers[k]!.secs.length = j:=by have:=geS h0;omega
    rw [sV_next (ltS h1),ej]
    refine Wk.keep hcl ?_ ?_ ?_
    · simp [Fr.get]
    · simp [sto,SttD.cells,ints,int_]
    · simp))
  all_goals (try (
    have h0:decide ((jj:Int) < ((s.ups[kk]!).parts[i]!.secs.length:Int)) = true:=by assumption
    rw [aP_next (ltS h0)]
    refine Wk.keep hcl ?_ ?_ ?_
    · simp [Fr.get]
    · simp [sto,SttD.cells,ints,int_]
    · simp))
  all_goals (try (
    have h0:decide ((jj:Int) < ((s.ups[kk]!).parts[i]!.secs.length:Int)) = false:=by assumption
    have h1:decide ((i:Int) < ((s.ups[kk]!).parts.length:Int)) = true:=by assumption
    have ej:(s.ups[kk]!).parts[i]!.secs.length = jj:=by have:=geS h0;omega
    rw [sP_next (ltS h1),ej]
    refine Wk.keep hcl ?_ ?_ ?_
    · simp [Fr.get]
    · simp [sto,SttD.cells,ints,int_]
    · simp))
  all_goals (try (
    have h0:decide ((i:Int) < ((s.ups[kk]!).parts.length:Int)) = false:=by assumption
    have h1:decide ((kk:Int) < (s.ups.length:Int)) = true:=by assumption
    have ej:(s.ups[kk]!).parts.length = i:=by have:=geS h0;omega
    rw [sU_next (ltS h1),ej]
    refine Wk.keep hcl ?_ ?_ ?_
    · simp [Fr.get]
    · simp [sto,SttD.cells,ints,int_]
    · simp))
end Go.Proofs.Ytijpmidnclbhpaa
