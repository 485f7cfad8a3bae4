/- state.Check. -/
import Derived.Test.YtikgiadbkjmabaaVers
import Derived.Test.YtikgiadbkjmabaaUps
import Derived.Test.YtikgiadbkjmabaaQueue
import Derived.Test.YtikgiadbkjmabaaTypes
namespace Go.Proofs.Ytikgiadbkjmabaa
open Go.RowKit
set_option maxRecDepth 100000
def o18_1:List SO:=((SO.mk (some 22) (.bin .gtr 3 (.tmp 21) (.const (Value.int .i64 1073741824))) (some (19 ,false))) :: (SO.mk (some 23) (.pick (.tmp 19) (.const (Value.bool true)) (.tmp 22)) none) :: [])
theorem v18_1:type_of% (@swl _ _ o18_1.eq_1):=@swl _ _ o18_1.eq_1
def o18_2:List SO:=((SO.mk (some 18) (.pick (.tmp 14) (.const (Value.bool true)) (.tmp 17)) none) :: (SO.mk (some 19) (.move (.tmp 18)) none) :: (SO.mk (some 20) (.faddr 28 (.tmp 1) 1) (some (19 ,false))) :: (SO.mk (some 21) (.load 3 (.tmp 20)) (some (19 ,false))) :: o18_1)
theorem v18_2:type_of% (@swl _ _ o18_2.eq_1):=@swl _ _ o18_2.eq_1
def o18_3:List SO:=((SO.mk (some 14) (.move (.tmp 13)) none) :: (SO.mk (some 15) (.faddr 28 (.tmp 1) 1) (some (14 ,false))) :: (SO.mk (some 16) (.load 3 (.tmp 15)) (some (14 ,false))) :: (SO.mk (some 17) (.bin .lss 3 (.tmp 16) (.const (Value.int .i64 0))) (some (14 ,false))) :: o18_2)
theorem v18_3:type_of% (@swl _ _ o18_3.eq_1):=@swl _ _ o18_3.eq_1
def o18_4:List SO:=((SO.mk (some 10) (.faddr 28 (.tmp 1) 0) (some (9 ,false))) :: (SO.mk (some 11) (.load 3 (.tmp 10)) (some (9 ,false))) :: (SO.mk (some 12) (.bin .gtr 3 (.tmp 11) (.const (Value.int .i64 1048576))) (some (9 ,false))) :: (SO.mk (some 13) (.pick (.tmp 9) (.const (Value.bool true)) (.tmp 12)) none) :: o18_3)
theorem v18_4:type_of% (@swl _ _ o18_4.eq_1):=@swl _ _ o18_4.eq_1
def c18_5:SC:=(.seq (.reg [SO.mk (some 2) (.move (.const (Value.int .i64 9))) none]) (.keep [2] .ret))
theorem u18_5:type_of% (@swc _ _ c18_5.eq_1):=@swc _ _ c18_5.eq_1
def c18_6:SC:=(.cond (.tmp 23) c18_5 .skip)
theorem u18_6:type_of% (@swc _ _ c18_6.eq_1):=@swc _ _ c18_6.eq_1
def o18_7:List SO:=((SO.mk (some 48) (.move (.tmp 4)) (some (41 ,true))) :: (SO.mk (some 49) (.bin .geq 3 (.tmp 47) (.tmp 48)) (some (41 ,true))) :: (SO.mk (some 50) (.pick (.tmp 41) (.tmp 49) (.const (Value.bool false))) (some (38 ,false))) :: (SO.mk (some 51) (.pick (.tmp 38) (.const (Value.bool true)) (.tmp 50)) none) :: [])
theorem v18_7:type_of% (@swl _ _ o18_7.eq_1):=@swl _ _ o18_7.eq_1
def o18_8:List SO:=((SO.mk (some 44) (.move (.tmp 3)) (some (41 ,true))) :: (SO.mk (some 45) (.bin .sub 3 (.tmp 44) (.const (Value.int .i64 1))) (some (41 ,true))) :: (SO.mk (some 46) (.iaddr 26 (.tmp 43) (.tmp 45)) (some (41 ,true))) :: (SO.mk (some 47) (.load 3 (.tmp 46)) (some (41 ,true))) :: o18_7)
theorem v18_8:type_of% (@swl _ _ o18_8.eq_1):=@swl _ _ o18_8.eq_1
def o18_9:List SO:=((SO.mk (some 40) (.bin .gtr 3 (.tmp 39) (.const (Value.int .i64 0))) (some (38 ,false))) :: (SO.mk (some 41) (.move (.tmp 40)) (some (38 ,false))) :: (SO.mk (some 42) (.faddr 28 (.tmp 1) 6) (some (41 ,true))) :: (SO.mk (some 43) (.load 26 (.tmp 42)) (some (41 ,true))) :: o18_8)
theorem v18_9:type_of% (@swl _ _ o18_9.eq_1):=@swl _ _ o18_9.eq_1
def o18_10:List SO:=((SO.mk (some 36) (.bin .geq 3 (.tmp 35) (.const (Value.int .i64 8))) (some (34 ,false))) :: (SO.mk (some 37) (.pick (.tmp 34) (.const (Value.bool true)) (.tmp 36)) none) :: (SO.mk (some 38) (.move (.tmp 37)) none) :: (SO.mk (some 39) (.move (.tmp 3)) (some (38 ,false))) :: o18_9)
theorem v18_10:type_of% (@swl _ _ o18_10.eq_1):=@swl _ _ o18_10.eq_1
def c18_11:SC:=(.seq (.reg [SO.mk (some 2) (.move (.const (Value.int .i64 9))) none]) (.keep [2] .ret))
theorem u18_11:type_of% (@swc _ _ c18_11.eq_1):=@swc _ _ c18_11.eq_1
def c18_12:SC:=(.cond (.tmp 51) c18_11 .skip)
theorem u18_12:type_of% (@swc _ _ c18_12.eq_1):=@swc _ _ c18_12.eq_1
def c18_13:SC:=(.seq (.reg ((SO.mk (some 32) (.move (.tmp 4)) none) :: (SO.mk (some 33) (.bin .lss 3 (.tmp 32) (.const (Value.int .i64 0))) none) :: (SO.mk (some 34) (.move (.tmp 33)) none) :: (SO.mk (some 35) (.move (.tmp 4)) (some (34 ,false))) :: o18_10)) (.keep [51,27,26,25,1] c18_12))
theorem u18_13:type_of% (@swc _ _ c18_13.eq_1):=@swc _ _ c18_13.eq_1
def c18_14:SC:=(.reg [SO.mk (some 52) (.bin .add 3 (.tmp 27) (.const (Value.int .i64 1))) none,SO.mk (some 27) (.move (.tmp 52)) none])
theorem u18_14:type_of% (@swc _ _ c18_14.eq_1):=@swc _ _ c18_14.eq_1
def c18_15:SC:=(.seq (.block 1 (.seq (.reg [SO.mk (some 29) (.move (.tmp 27)) none,SO.mk (some 30) (.iaddr 26 (.tmp 25) (.tmp 27)) none,SO.mk (some 31) (.load 3 (.tmp 30)) none,SO.mk (some 3) (.move (.tmp 29)) none,SO.mk (some 4) (.move (.tmp 31)) none]) (.keep [3,4,27,26,25,1] c18_13))) (.keep [27,26,25,1] c18_14))
theorem u18_15:type_of% (@swc _ _ c18_15.eq_1):=@swc _ _ c18_15.eq_1
def c18_16:SC:=(.seq (.cond (.tmp 28) .skip (.exit 0)) (.keep [27,26,25,1] c18_15))
theorem u18_16:type_of% (@swc _ _ c18_16.eq_1):=@swc _ _ c18_16.eq_1
def c18_17:SC:=(.seq (.reg [SO.mk (some 28) (.bin .lss 3 (.tmp 27) (.tmp 26)) none]) (.keep [28,25,26,27,1] c18_16))
theorem u18_17:type_of% (@swc _ _ c18_17.eq_1):=@swc _ _ c18_17.eq_1
def c18_18:SC:=(.block 0 (.loop (.keep [25,26,27,1] c18_17)))
theorem u18_18:type_of% (@swc _ _ c18_18.eq_1):=@swc _ _ c18_18.eq_1
def o18_19:List SO:=((SO.mk (some 74) (.pick (.tmp 70) (.const (Value.bool true)) (.tmp 73)) none) :: [])
theorem v18_19:type_of% (@swl _ _ o18_19.eq_1):=@swl _ _ o18_19.eq_1
def o18_20:List SO:=((SO.mk (some 70) (.move (.tmp 69)) none) :: (SO.mk (some 71) (.load 28 (.tmp 1)) (some (70 ,false))) :: (SO.mk (some 72) (.call 40 [(.tmp 71)]) (some (70 ,false))) :: (SO.mk (some 73) (.un .not (.tmp 72)) (some (70 ,false))) :: o18_19)
theorem v18_20:type_of% (@swl _ _ o18_20.eq_1):=@swl _ _ o18_20.eq_1
def o18_21:List SO:=((SO.mk (some 66) (.move (.tmp 5)) (some (64 ,false))) :: (SO.mk (some 67) (.call 39 [(.tmp 65),(.tmp 66)]) (some (64 ,false))) :: (SO.mk (some 68) (.un .not (.tmp 67)) (some (64 ,false))) :: (SO.mk (some 69) (.pick (.tmp 64) (.const (Value.bool true)) (.tmp 68)) none) :: o18_20)
theorem v18_21:type_of% (@swl _ _ o18_21.eq_1):=@swl _ _ o18_21.eq_1
def o18_22:List SO:=((SO.mk (some 62) (.un .not (.tmp 61)) (some (58 ,false))) :: (SO.mk (some 63) (.pick (.tmp 58) (.const (Value.bool true)) (.tmp 62)) none) :: (SO.mk (some 64) (.move (.tmp 63)) none) :: (SO.mk (some 65) (.load 28 (.tmp 1)) (some (64 ,false))) :: o18_21)
theorem v18_22:type_of% (@swl _ _ o18_22.eq_1):=@swl _ _ o18_22.eq_1
def o18_23:List SO:=((SO.mk (some 58) (.move (.tmp 57)) none) :: (SO.mk (some 59) (.load 28 (.tmp 1)) (some (58 ,false))) :: (SO.mk (some 60) (.move (.tmp 5)) (some (58 ,false))) :: (SO.mk (some 61) (.call 38 [(.tmp 59),(.tmp 60)]) (some (58 ,false))) :: o18_22)
theorem v18_23:type_of% (@swl _ _ o18_23.eq_1):=@swl _ _ o18_23.eq_1
def c18_24:SC:=(.seq (.reg [SO.mk (some 2) (.move (.const (Value.int .i64 9))) none]) (.keep [2] .ret))
theorem u18_24:type_of% (@swc _ _ c18_24.eq_1):=@swc _ _ c18_24.eq_1
def c18_25:SC:=(.cond (.tmp 74) c18_24 .skip)
theorem u18_25:type_of% (@swc _ _ c18_25.eq_1):=@swc _ _ c18_25.eq_1
def c18_26:SC:=(.seq (.reg [SO.mk (some 2) (.move (.const (Value.int .i64 0))) none]) (.keep [2] .ret))
theorem u18_26:type_of% (@swc _ _ c18_26.eq_1):=@swc _ _ c18_26.eq_1
def c18_27:SC:=(.seq (.seq (.reg ((SO.mk (some 54) (.faddr 28 (.tmp 1) 2) none) :: (SO.mk (some 55) (.load 22 (.tmp 54)) none) :: (SO.mk (some 56) (.call 37 [(.tmp 55)]) none) :: (SO.mk (some 57) (.un .not (.tmp 56)) none) :: o18_23)) (.keep [74] c18_25)) (.keep [] c18_26))
theorem u18_27:type_of% (@swc _ _ c18_27.eq_1):=@swc _ _ c18_27.eq_1
def c18_28:SC:=(.seq (.reg [SO.mk (some 53) (.mkmap 70) none,SO.mk (some 5) (.move (.tmp 53)) none]) (.keep [5,1] c18_27))
theorem u18_28:type_of% (@swc _ _ c18_28.eq_1):=@swc _ _ c18_28.eq_1
def c18_29:SC:=(.seq (.seq (.reg [SO.mk (some 24) (.faddr 28 (.tmp 1) 6) none,SO.mk (some 25) (.load 26 (.tmp 24)) none,SO.mk (some 26) (.len 26 (.tmp 25)) none,SO.mk (some 27) (.move (.const (Value.int .i64 0))) none]) (.keep [25,26,27,1] c18_18)) (.keep [1] c18_28))
theorem u18_29:type_of% (@swc _ _ c18_29.eq_1):=@swc _ _ c18_29.eq_1
def c18_30:SC:=(.seq (.seq (.reg ((SO.mk (some 6) (.faddr 28 (.tmp 1) 0) none) :: (SO.mk (some 7) (.load 3 (.tmp 6)) none) :: (SO.mk (some 8) (.bin .lss 3 (.tmp 7) (.const (Value.int .i64 1))) none) :: (SO.mk (some 9) (.move (.tmp 8)) none) :: o18_4)) (.keep [23,1] c18_6)) (.keep [1] c18_29))
theorem u18_30:type_of% (@swc _ _ c18_30.eq_1):=@swc _ _ c18_30.eq_1
def c18:SC:=(.seq (.reg [SO.mk (some 1) (.box 28 (.tmp 0)) none,SO.mk (some 2) (.move (.const (Value.int .i64 0))) none]) (.keep [1] c18_30))
theorem c18_eq:annC Try.f18 = some c18:=by kernel_rfl
theorem r18:Try.f18.results.toList = [.tmp 2]:=by kernel_rfl
theorem e18:enters Try.prog 18 = true:=by kernel_rfl
end Go.Proofs.Ytikgiadbkjmabaa
namespace Go.Proofs.Ytikgiadbkjmabaa
open Go.RowKit
set_option maxHeartbeats 4000000
set_option maxRecDepth 20000
attribute [local irreducible] SW OSW SWL SWLn SWD SEcall SEcallv SDv SE SO1 SOg ACalls ACallv Wk EndV
set_option linter.unusedSimpArgs false
set_option linter.unusedVariables false
def gnBad (l:List Int) (k:Nat):Bool:=decide (l[k]! < 0) || (decide (l[k]! ≥ 8) || (decide ((k:Int) > 0) && decide (l[k - 1]! ≥ l[k]!)))
def numBad (s:SttD):Bool:=decide (s.next < 1) || (decide (s.next > 1048576) || (decide (s.clock < 0) || decide (s.clock > 1073741824)))
def goneF (l:List Int):Bool:=(List.range l.length).all (fun k=>!gnBad l k)
def restF (s:SttD):Bool:=bktsF s.bkts && ((versF s []).1 && ((upsF s (versF s []).2).1 && queueF s))
def checkF (s:SttD):Int:=bif numBad s then 9 else bif goneF s.gone then (bif restF s then 0 else 9) else 9
theorem gone_no {l:List Int} {k:Nat} (hk:decide ((k:Int) < (l.length:Int)) = true) (h:gnBad l k = true):goneF l = false:=rng_no (ltS hk) h
theorem gone_all {l:List Int} {k:Nat} (hk:decide ((k:Int) < (l.length:Int)) = false) (h:∀ i,i < k → gnBad l i = false):goneF l = true:=rng_all fun i hi=>h i (by have:=geS hk;omega)
theorem check_p (s:SttD) (hkey:∀ k,k < s.vers.length → (KV.s2 s.vers[k]!.bkt s.vers[k]!.key).ok true) (hfit:∀ k:Nat,(s.ups[k]!).parts.length ≤ 2 ^ 47):Pure Try.prog 18 [s.av] (I (checkF s)):=by
  refine pure_of follows Try.func18 c18_eq r18 (Nat.le_of_ble_eq_true rfl) fun B σ hcl hsz=>?_
  obtain ⟨z1,z2,z3,z4,z5⟩:=st_sz5 (hsz s.av (by simp))
  clear hsz
  have hpw:∀ j:Nat,decide ((j:Int) < (s.gone.length:Int)) = true → decide ((j:Int) > 0) = true → IntKind.i64.wrap ((j:Int) - 1) = ((j - 1:Nat):Int):=fun j h1 h2=>prev_w (by have:=ltS h1;omega) h2
  have hpr:∀ j:Nat,decide ((j:Int) < (s.gone.length:Int)) = true → decide ((j:Int) > 0) = true → rowOf (s.gone.map int_) (j - 1) = [RV.v (.int .i64 s.gone[j - 1]!)]:=fun j h1 h2=>prev_row (f:=int_) (by have:=ltS h1;omega) h2
  repeat' (first | (simp -implicitDefEqProofs only [*,Nat.reduceBEq,↓reduceIte,Nat.reduceEqDiff,Nat.reduceAdd,reduceCtorEq,AO.kill,Int.reduceLT,Int.reduceToNat,List.getElem?_nil,Nat.reduceMul,Nat.reducePow,Nat.reduceLeDiff,rowOf_mapD,rowOf_mapI,rowOf_mapA,List.getElem?_cons_zero,List.getElem?_cons_succ,take_map_len,take_map_app,List.getElem?_cons_zero,c18,r18,v18_1,v18_2,v18_3,v18_4,u18_5,u18_6,v18_7,v18_8,v18_9,v18_10,u18_11,u18_12,u18_13,u18_14,u18_15,u18_16,u18_17,u18_18,v18_19,v18_20,v18_21,v18_22,v18_23,u18_24,u18_25,u18_26,u18_27,u18_28,u18_29,u18_30,ty28,ty3,ty26,ty70,ty22,ty54,mt70,SttD.av,SttD.cells,ints,int_,mvcgen_simp]) | (with_reducible refine And.intro ?_ ?_) | (refine call_ro e37 ( buckets_p s.bkts) rfl ?_ ?_ ?_ ?_) | (refine gcall_ro e37 ( buckets_p s.bkts) rfl ?_ ?_ ?_ ?_) | (refine dcall_ro e37 ( buckets_p s.bkts) rfl ?_ ?_ ?_ ?_) | (refine gdcall_ro rfl e37 ( buckets_p s.bkts) rfl ?_ ?_ ?_ ?_) | (refine call_ro e40 ( queue_p s) rfl ?_ ?_ ?_ ?_) | (refine gcall_ro e40 ( queue_p s) rfl ?_ ?_ ?_ ?_) | (refine dcall_ro e40 ( queue_p s) rfl ?_ ?_ ?_ ?_) | (refine gdcall_ro rfl e40 ( queue_p s) rfl ?_ ?_ ?_ ?_) | (refine gcall_do trivial ?_) | (refine call_own [] [(B + 53,.mp false (versF s []).2)] e38 (versions_p s [] hkey _ _ (B + 53) (by omega) (by simp [sto])) rfl ?_ ?_ ?_ ?_ ?_) | (refine call_own [] [(B + 53,.mp false (upsF s (versF s []).2).2)] e39 (uploads_p s (versF s []).2 hfit _ _ (B + 53) (by omega) (by simp [sto])) rfl ?_ ?_ ?_ ?_ ?_) | (refine loop_nat (s.gone.length) (fun k=>∀ i,i < k → gnBad s.gone i = false) (fun k=>[(25,.d (ints s.gone)),(26,I s.gone.length),(27,I k),(1,.lp (B + 1) 0)]) (fun k=>[(B + 1,.box s.cells)]) ?_ (Wk.keep hcl ?_ ?_ ?_) fun k hk hF=>?_;rotate_left 1;(focus (simp [Fr.get,newF,Fr.map,AV.kill,AV.mapN,SttD.av,SttD.cells,ints,int_]<;>fail));(focus (simp [sto,newL,Loc.kill,Loc.set,AO.kill,AV.kill,AV.mapN,SttD.av,SttD.cells,ints,int_]<;>fail));(focus (simp [newL,Loc.kill,Loc.set,SttD.av,SttD.cells,ints,int_]<;>fail));(try have hw:IntKind.i64.wrap ((k:Int) + 1) = (k:Int) + 1:=IntWalk.i64_in _ (by omega))) | (refine EndX.plain ?_) | (refine nil_split (fun hn=>?_) (fun hn=>?_)) | (refine gcall_no not_false ?_) | (refine gdcall_no not_false ?_) | (refine GuardS_of _ _ _ _ _ _ (fun hg=>?_) (fun hg=>?_)) | (refine GuardD_of _ _ _ _ (fun hg=>?_) (fun hg=>?_)) | (refine CondB_of _ _ _ _ _ _ _ ?_ (fun hg=>?_) (fun hg=>?_)))
  all_goals (try (first | ((first | unfold noN | unfold Fr.below | unfold Loc.below);simp [Fr.allN,AV.allN,AV.allNL,AO.allN];done) | rfl | trivial | assumption | (intro row hrow;simp only [List.mem_map] at hrow;obtain ⟨x,_,rfl⟩:=hrow;rfl) | (refine Wk.keep hcl ?_ ?_ ?_;(focus (simp [Fr.get,SttD.av,SttD.cells,ints,int_]<;>fail));(focus (simp [sto,SttD.av,SttD.cells,ints,int_]<;>fail));(focus (simp<;>fail))) | (simp [allP,opd,Fr.get,Fr.below,Fr.allN,AV.allN,AV.allNL,Loc.below,AO.allN,noN,killO,killT,killD,mkNames,AO.kill,AV.kill,AV.mapN,AV.mapNL];done) | (with_reducible exact ltD (by assumption)) | omega | (simp only [decide_eq_true_eq,decide_eq_false_iff_not] at *;omega)))
  all_goals (try (simp [Fr.below,Loc.below,Fr.allN,AO.allN,AV.allN,AV.allNL];done))
  all_goals (clear hpw hpr hkey hfit)
  all_goals (try (simp only [Bool.not_eq_true',Bool.not_eq_false'] at *))
  all_goals (try (
    have hN:numBad s = true:=by simp only [numBad, *,Bool.false_or,Bool.true_or,Bool.or_true,Bool.or_false,Bool.and_true,Bool.true_and,Bool.false_and,Bool.and_false,Bool.not_true,Bool.not_false,cond_true,cond_false]
    simp only [checkF,hN,Bool.false_or,Bool.true_or,Bool.or_true,Bool.or_false,Bool.and_true,Bool.true_and,Bool.false_and,Bool.and_false,Bool.not_true,Bool.not_false,cond_true,cond_false]
    done))
  all_goals (have hN:numBad s = false:=by simp only [numBad, *,Bool.false_or,Bool.true_or,Bool.or_true,Bool.or_false,Bool.and_true,Bool.true_and,Bool.false_and,Bool.and_false,Bool.not_true,Bool.not_false,cond_true,cond_false])
  all_goals (try (
    have h1:decide ((k:Int) < (s.gone.length:Int)) = true:=by assumption
    have hg:gnBad s.gone k = true:=by simp only [gnBad, *,Bool.false_or,Bool.true_or,Bool.or_true,Bool.or_false,Bool.and_true,Bool.true_and,Bool.false_and,Bool.and_false,Bool.not_true,Bool.not_false,cond_true,cond_false]
    simp only [checkF,hN,gone_no h1 hg,Bool.false_or,Bool.true_or,Bool.or_true,Bool.or_false,Bool.and_true,Bool.true_and,Bool.false_and,Bool.and_false,Bool.not_true,Bool.not_false,cond_true,cond_false]
    done))
  all_goals (try (
    have h1:decide ((k:Int) < (s.gone.length:Int)) = false:=by assumption
    simp only [checkF,hN,gone_all h1 hF,restF, *,Bool.false_or,Bool.true_or,Bool.or_true,Bool.or_false,Bool.and_true,Bool.true_and,Bool.false_and,Bool.and_false,Bool.not_true,Bool.not_false,cond_true,cond_false]
    done))
  all_goals (try (
    have hO:gnBad s.gone k = false:=by simp only [gnBad, *,Bool.false_or,Bool.true_or,Bool.or_true,Bool.or_false,Bool.and_true,Bool.true_and,Bool.false_and,Bool.and_false,Bool.not_true,Bool.not_false,cond_true,cond_false]
    exact allN' hF hO))
end Go.Proofs.Ytikgiadbkjmabaa
