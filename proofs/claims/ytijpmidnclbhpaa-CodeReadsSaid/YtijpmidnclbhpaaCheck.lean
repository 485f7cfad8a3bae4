/- state.Check. -/
import Derived.Test.YtijpmidnclbhpaaVers
import Derived.Test.YtijpmidnclbhpaaUps
import Derived.Test.YtijpmidnclbhpaaQueue
import Derived.Test.YtijpmidnclbhpaaTypes
namespace Go.Proofs.Ytijpmidnclbhpaa
open Go.RowKit
set_option maxRecDepth 100000
def o11_1:List SO:=((SO.mk (some 22) (.bin .gtr 3 (.tmp 21) (.const (Value.int .i64 1073741824))) (some (19 ,false))) :: (SO.mk (some 23) (.pick (.tmp 19) (.const (Value.bool true)) (.tmp 22)) none) :: [])
theorem v11_1:type_of% (@swl _ _ o11_1.eq_1):=@swl _ _ o11_1.eq_1
def o11_2:List SO:=((SO.mk (some 18) (.pick (.tmp 14) (.const (Value.bool true)) (.tmp 17)) none) :: (SO.mk (some 19) (.move (.tmp 18)) none) :: (SO.mk (some 20) (.faddr 28 (.tmp 1) 1) (some (19 ,false))) :: (SO.mk (some 21) (.load 3 (.tmp 20)) (some (19 ,false))) :: o11_1)
theorem v11_2:type_of% (@swl _ _ o11_2.eq_1):=@swl _ _ o11_2.eq_1
def o11_3:List SO:=((SO.mk (some 14) (.move (.tmp 13)) none) :: (SO.mk (some 15) (.faddr 28 (.tmp 1) 1) (some (14 ,false))) :: (SO.mk (some 16) (.load 3 (.tmp 15)) (some (14 ,false))) :: (SO.mk (some 17) (.bin .lss 3 (.tmp 16) (.const (Value.int .i64 0))) (some (14 ,false))) :: o11_2)
theorem v11_3:type_of% (@swl _ _ o11_3.eq_1):=@swl _ _ o11_3.eq_1
def o11_4:List SO:=((SO.mk (some 10) (.faddr 28 (.tmp 1) 0) (some (9 ,false))) :: (SO.mk (some 11) (.load 3 (.tmp 10)) (some (9 ,false))) :: (SO.mk (some 12) (.bin .gtr 3 (.tmp 11) (.const (Value.int .i64 1048576))) (some (9 ,false))) :: (SO.mk (some 13) (.pick (.tmp 9) (.const (Value.bool true)) (.tmp 12)) none) :: o11_3)
theorem v11_4:type_of% (@swl _ _ o11_4.eq_1):=@swl _ _ o11_4.eq_1
def c11_5:SC:=(.seq (.reg [SO.mk (some 2) (.move (.const (Value.int .i64 9))) none]) (.keep [2] .ret))
theorem u11_5:type_of% (@swc _ _ c11_5.eq_1):=@swc _ _ c11_5.eq_1
def c11_6:SC:=(.cond (.tmp 23) c11_5 .skip)
theorem u11_6:type_of% (@swc _ _ c11_6.eq_1):=@swc _ _ c11_6.eq_1
def o11_7:List SO:=((SO.mk (some 48) (.move (.tmp 4)) (some (41 ,true))) :: (SO.mk (some 49) (.bin .geq 3 (.tmp 47) (.tmp 48)) (some (41 ,true))) :: (SO.mk (some 50) (.pick (.tmp 41) (.tmp 49) (.const (Value.bool false))) (some (38 ,false))) :: (SO.mk (some 51) (.pick (.tmp 38) (.const (Value.bool true)) (.tmp 50)) none) :: [])
theorem v11_7:type_of% (@swl _ _ o11_7.eq_1):=@swl _ _ o11_7.eq_1
def o11_8:List SO:=((SO.mk (some 44) (.move (.tmp 3)) (some (41 ,true))) :: (SO.mk (some 45) (.bin .sub 3 (.tmp 44) (.const (Value.int .i64 1))) (some (41 ,true))) :: (SO.mk (some 46) (.iaddr 26 (.tmp 43) (.tmp 45)) (some (41 ,true))) :: (SO.mk (some 47) (.load 3 (.tmp 46)) (some (41 ,true))) :: o11_7)
theorem v11_8:type_of% (@swl _ _ o11_8.eq_1):=@swl _ _ o11_8.eq_1
def o11_9:List SO:=((SO.mk (some 40) (.bin .gtr 3 (.tmp 39) (.const (Value.int .i64 0))) (some (38 ,false))) :: (SO.mk (some 41) (.move (.tmp 40)) (some (38 ,false))) :: (SO.mk (some 42) (.faddr 28 (.tmp 1) 6) (some (41 ,true))) :: (SO.mk (some 43) (.load 26 (.tmp 42)) (some (41 ,true))) :: o11_8)
theorem v11_9:type_of% (@swl _ _ o11_9.eq_1):=@swl _ _ o11_9.eq_1
def o11_10:List SO:=((SO.mk (some 36) (.bin .geq 3 (.tmp 35) (.const (Value.int .i64 8))) (some (34 ,false))) :: (SO.mk (some 37) (.pick (.tmp 34) (.const (Value.bool true)) (.tmp 36)) none) :: (SO.mk (some 38) (.move (.tmp 37)) none) :: (SO.mk (some 39) (.move (.tmp 3)) (some (38 ,false))) :: o11_9)
theorem v11_10:type_of% (@swl _ _ o11_10.eq_1):=@swl _ _ o11_10.eq_1
def c11_11:SC:=(.seq (.reg [SO.mk (some 2) (.move (.const (Value.int .i64 9))) none]) (.keep [2] .ret))
theorem u11_11:type_of% (@swc _ _ c11_11.eq_1):=@swc _ _ c11_11.eq_1
def c11_12:SC:=(.cond (.tmp 51) c11_11 .skip)
theorem u11_12:type_of% (@swc _ _ c11_12.eq_1):=@swc _ _ c11_12.eq_1
def c11_13:SC:=(.seq (.reg ((SO.mk (some 32) (.move (.tmp 4)) none) :: (SO.mk (some 33) (.bin .lss 3 (.tmp 32) (.const (Value.int .i64 0))) none) :: (SO.mk (some 34) (.move (.tmp 33)) none) :: (SO.mk (some 35) (.move (.tmp 4)) (some (34 ,false))) :: o11_10)) (.keep [51,27,26,25,1] c11_12))
theorem u11_13:type_of% (@swc _ _ c11_13.eq_1):=@swc _ _ c11_13.eq_1
def c11_14:SC:=(.reg [SO.mk (some 52) (.bin .add 3 (.tmp 27) (.const (Value.int .i64 1))) none,SO.mk (some 27) (.move (.tmp 52)) none])
theorem u11_14:type_of% (@swc _ _ c11_14.eq_1):=@swc _ _ c11_14.eq_1
def c11_15:SC:=(.seq (.block 1 (.seq (.reg [SO.mk (some 29) (.move (.tmp 27)) none,SO.mk (some 30) (.iaddr 26 (.tmp 25) (.tmp 27)) none,SO.mk (some 31) (.load 3 (.tmp 30)) none,SO.mk (some 3) (.move (.tmp 29)) none,SO.mk (some 4) (.move (.tmp 31)) none]) (.keep [3,4,27,26,25,1] c11_13))) (.keep [27,26,25,1] c11_14))
theorem u11_15:type_of% (@swc _ _ c11_15.eq_1):=@swc _ _ c11_15.eq_1
def c11_16:SC:=(.seq (.cond (.tmp 28) .skip (.exit 0)) (.keep [27,26,25,1] c11_15))
theorem u11_16:type_of% (@swc _ _ c11_16.eq_1):=@swc _ _ c11_16.eq_1
def c11_17:SC:=(.seq (.reg [SO.mk (some 28) (.bin .lss 3 (.tmp 27) (.tmp 26)) none]) (.keep [28,25,26,27,1] c11_16))
theorem u11_17:type_of% (@swc _ _ c11_17.eq_1):=@swc _ _ c11_17.eq_1
def c11_18:SC:=(.block 0 (.loop (.keep [25,26,27,1] c11_17)))
theorem u11_18:type_of% (@swc _ _ c11_18.eq_1):=@swc _ _ c11_18.eq_1
def o11_19:List SO:=((SO.mk (some 74) (.pick (.tmp 70) (.const (Value.bool true)) (.tmp 73)) none) :: [])
theorem v11_19:type_of% (@swl _ _ o11_19.eq_1):=@swl _ _ o11_19.eq_1
def o11_20:List SO:=((SO.mk (some 70) (.move (.tmp 69)) none) :: (SO.mk (some 71) (.load 28 (.tmp 1)) (some (70 ,false))) :: (SO.mk (some 72) (.call 56 [(.tmp 71)]) (some (70 ,false))) :: (SO.mk (some 73) (.un .not (.tmp 72)) (some (70 ,false))) :: o11_19)
theorem v11_20:type_of% (@swl _ _ o11_20.eq_1):=@swl _ _ o11_20.eq_1
def o11_21:List SO:=((SO.mk (some 66) (.move (.tmp 5)) (some (64 ,false))) :: (SO.mk (some 67) (.call 55 [(.tmp 65),(.tmp 66)]) (some (64 ,false))) :: (SO.mk (some 68) (.un .not (.tmp 67)) (some (64 ,false))) :: (SO.mk (some 69) (.pick (.tmp 64) (.const (Value.bool true)) (.tmp 68)) none) :: o11_20)
theorem v11_21:type_of% (@swl _ _ o11_21.eq_1):=@swl _ _ o11_21.eq_1
def o11_22:List SO:=((SO.mk (some 62) (.un .not (.tmp 61)) (some (58 ,false))) :: (SO.mk (some 63) (.pick (.tmp 58) (.const (Value.bool true)) (.tmp 62)) none) :: (SO.mk (some 64) (.move (.tmp 63)) none) :: (SO.mk (some 65) (.load 28 (.tmp 1)) (some (64 ,false))) :: o11_21)
theorem v11_22:type_of% (@swl _ _ o11_22.eq_1):=@swl _ _ o11_22.eq_1
def o11_23:List SO:=((SO.mk (some 58) (.move (.tmp 57)) none) :: (SO.mk (some 59) (.load 28 (.tmp 1)) (some (58 ,false))) :: (SO.mk (some 60) (.move (.tmp 5)) (some (58 ,false))) :: (SO.mk (some 61) (.call 54 [(.tmp 59),(.tmp 60)]) (some (58 ,false))) :: o11_22)
theorem v11_23:type_of% (@swl _ _ o11_23.eq_1):=@swl _ _ o11_23.eq_1
def c11_24:SC:=(.seq (.reg [SO.mk (some 2) (.move (.const (Value.int .i64 9))) none]) (.keep [2] .ret))
theorem u11_24:type_of% (@swc _ _ c11_24.eq_1):=@swc _ _ c11_24.eq_1
def c11_25:SC:=(.cond (.tmp 74) c11_24 .skip)
theorem u11_25:type_of% (@swc _ _ c11_25.eq_1):=@swc _ _ c11_25.eq_1
def c11_26:SC:=(.seq (.reg [SO.mk (some 2) (.move (.const (Value.int .i64 0))) none]) (.keep [2] .ret))
theorem u11_26:type_of% (@swc _ _ c11_26.eq_1):=@swc _ _ c11_26.eq_1
def c11_27:SC:=(.seq (.seq (.reg ((SO.mk (some 54) (.faddr 28 (.tmp 1) 2) none) :: (SO.mk (some 55) (.load 22 (.tmp 54)) none) :: (SO.mk (some 56) (.call 53 [(.tmp 55)]) none) :: (SO.mk (some 57) (.un .not (.tmp 56)) none) :: o11_23)) (.keep [74] c11_25)) (.keep [] c11_26))
theorem u11_27:type_of% (@swc _ _ c11_27.eq_1):=@swc _ _ c11_27.eq_1
def c11_28:SC:=(.seq (.reg [SO.mk (some 53) (.mkmap 90) none,SO.mk (some 5) (.move (.tmp 53)) none]) (.keep [5,1] c11_27))
theorem u11_28:type_of% (@swc _ _ c11_28.eq_1):=@swc _ _ c11_28.eq_1
def c11_29:SC:=(.seq (.seq (.reg [SO.mk (some 24) (.faddr 28 (.tmp 1) 6) none,SO.mk (some 25) (.load 26 (.tmp 24)) none,SO.mk (some 26) (.len 26 (.tmp 25)) none,SO.mk (some 27) (.move (.const (Value.int .i64 0))) none]) (.keep [25,26,27,1] c11_18)) (.keep [1] c11_28))
theorem u11_29:type_of% (@swc _ _ c11_29.eq_1):=@swc _ _ c11_29.eq_1
def c11_30:SC:=(.seq (.seq (.reg ((SO.mk (some 6) (.faddr 28 (.tmp 1) 0) none) :: (SO.mk (some 7) (.load 3 (.tmp 6)) none) :: (SO.mk (some 8) (.bin .lss 3 (.tmp 7) (.const (Value.int .i64 1))) none) :: (SO.mk (some 9) (.move (.tmp 8)) none) :: o11_4)) (.keep [23,1] c11_6)) (.keep [1] c11_29))
theorem u11_30:type_of% (@swc _ _ c11_30.eq_1):=@swc _ _ c11_30.eq_1
def c11:SC:=(.seq (.reg [SO.mk (some 1) (.box 28 (.tmp 0)) none,SO.mk (some 2) (.move (.const (Value.int .i64 0))) none]) (.keep [1] c11_30))
theorem c11_eq:annC Try.f11 = some c11:=by kernel_rfl
theorem r11:Try.f11.results.toList = [.tmp 2]:=by kernel_rfl
theorem e11:enters Try.prog 11 = true:=by kernel_rfl
end Go.Proofs.Ytijpmidnclbhpaa
namespace Go.Proofs.Ytijpmidnclbhpaa
open Go.RowKit
set_option maxHeartbeats 4000000
set_option maxRecDepth 20000
attribute [local irreducible] SW OSW SWL SWLn SWD SEcall SEcallv SDv SE SO1 SOg ACalls ACallv Wk EndV
set_option linter.unusedSimpArgs false
set_option linter.unusedVariables false
def gnBad (l:List Int) (k:Nat):Bool:=decide (l[k]! < 0) || (decide (l[k]! ≥ 8) || (decide ((k:Int) > 0) && decide (l[k - 1]! ≥ l[k]!)))
def numBad (s:SttD):Bool:=decide (s.next < 1) || (decide (s.next > 1048576) || (decide (s.clock < 0) || decide (s.clock > 1073741824)))
def goneF (l:List Int):Bool:=(List.range l.length).all (fun k=>!gnBad l k)
def restF (s:SttD):Bool:=bktsF s.bkts && ((versF s []).1 && ((upsF s (versF s []).2).1 && queueF s))
def checkF (s:SttD):Int:=bif numBad s then 9 else bif goneF s.gone then (bif restF s then 0 else 9) else 9
theorem gone_no {l:List Int} {k:Nat} (hk:decide ((k:Int) < (l.length:Int)) = true) (h:gnBad l k = true):goneF l = false:=rng_no (ltS hk) h
theorem gone_all {l:List Int} {k:Nat} (hk:decide ((k:Int) < (l.length:Int)) = false) (h:∀ i,i < k → gnBad l i = false):goneF l = true:=rng_all fun i hi=>h i (by have:=geS hk;omega)
theorem check_p (s:SttD) (hkey:∀ k,k < s.vers.length → (KV.s2 s.vers[k]!.bkt s.vers[k]!.key).ok true) (hfit:∀ k:Nat,(s.ups[k]!).parts.length ≤ 2 ^ 47):Pure Try.prog 11 [s.av] (I (checkF s)):=by
  refine pure_of follows Try.func11 c11_eq r11 (Nat.le_of_ble_eq_true rfl) fun B σ hcl hsz=>?_
  obtain ⟨z1,z2,z3,z4,z5⟩:=st_sz5 (hsz s.av (by simp))
  clear hsz
  have hpw:∀ j:Nat,decide ((j:Int) < (s.gone.length:Int)) = true → decide ((j:Int) > 0) = true → IntKind.i64.wrap ((j:Int) - 1) = ((j - 1:Nat):Int):=fun j h1 h2=>prev_w (by have:=ltS h1;omega) h2
  have hpr:∀ j:Nat,decide ((j:Int) < (s.gone.length:Int)) = true → decide ((j:Int) > 0) = true → rowOf (s.gone.map int_) (j - 1) = [RV.v (.int .i64 s.gone[j - 1]!)]:=fun j h1 h2=>prev_row (f:=int_) (by have:=ltS h1;omega) h2
  repeat' (first | (simp -implicitDefEqProofs only [*,Nat.reduceBEq,↓reduceIte,Nat.reduceEqDiff,Nat.reduceAdd,reduceCtorEq,AO.kill,AV.kill,Int.reduceLT,Int.reduceToNat,List.getElem?_nil,Nat.reduceMul,Nat.reducePow,Nat.reduceLeDiff,rowOf_mapD,rowOf_mapI,rowOf_mapA,List.getElem?_cons_zero,List.getElem?_cons_succ,take_map_len,take_map_app,List.getElem?_cons_zero,c11,r11,v11_1,v11_2,v11_3,v11_4,u11_5,u11_6,v11_7,v11_8,v11_9,v11_10,u11_11,u11_12,u11_13,u11_14,u11_15,u11_16,u11_17,u11_18,v11_19,v11_20,v11_21,v11_22,v11_23,u11_24,u11_25,u11_26,u11_27,u11_28,u11_29,u11_30,ty28,ty3,ty26,ty90,ty22,ty47,mt90,SttD.av,SttD.cells,ints,int_,mvcgen_simp]) | (with_reducible refine And.intro ?_ ?_) | (refine call_ro e53 ( buckets_p s.bkts) rfl ?_ ?_ ?_ ?_) | (refine gcall_ro e53 ( buckets_p s.bkts) rfl ?_ ?_ ?_ ?_) | (refine dcall_ro e53 ( buckets_p s.bkts) rfl ?_ ?_ ?_ ?_) | (refine gdcall_ro rfl e53 ( buckets_p s.bkts) rfl ?_ ?_ ?_ ?_) | (refine call_ro e56 ( queue_p s) rfl ?_ ?_ ?_ ?_) | (refine gcall_ro e56 ( queue_p s) rfl ?_ ?_ ?_ ?_) | (refine dcall_ro e56 ( queue_p s) rfl ?_ ?_ ?_ ?_) | (refine gdcall_ro rfl e56 ( queue_p s) rfl ?_ ?_ ?_ ?_) | (refine gcall_do trivial ?_) | (refine call_own [] [(B + 53,.mp false (versF s []).2)] e54 (versions_p s [] hkey _ _ (B + 53) (by omega) (by simp [sto])) rfl ?_ ?_ ?_ ?_ ?_) | (refine call_own [] [(B + 53,.mp false (upsF s (versF s []).2).2)] e55 (uploads_p s (versF s []).2 hfit _ _ (B + 53) (by omega) (by simp [sto])) rfl ?_ ?_ ?_ ?_ ?_) | (refine loop_nat (s.gone.length) (fun k=>∀ i,i < k → gnBad s.gone i = false) (fun k=>[(25,.d (ints s.gone)),(26,I s.gone.length),(27,I k),(1,.lp (B + 1) 0)]) (fun k=>[(B + 1,.box s.cells)]) ?_ (Wk.keep hcl ?_ ?_ ?_) fun k hk hF=>?_;rotate_left 1;(focus (simp [Fr.get,newF,Fr.map,AV.kill,AV.mapN,SttD.av,SttD.cells,ints,int_]<;>fail));(focus (simp [sto,newL,Loc.kill,Loc.set,AO.kill,AV.kill,AV.mapN,SttD.av,SttD.cells,ints,int_]<;>fail));(focus (simp [newL,Loc.kill,Loc.set,SttD.av,SttD.cells,ints,int_]<;>fail));(try have hw:IntKind.i64.wrap ((k:Int) + 1) = (k:Int) + 1:=IntWalk.i64_in _ (by omega))) | (refine EndX.plain ?_) | (refine nil_split (fun hn=>?_) (fun hn=>?_)) | (refine gcall_no not_false ?_) | (refine gdcall_no not_false ?_) | (refine GuardS_of _ _ _ _ _ _ (fun hg=>?_) (fun hg=>?_)) | (refine GuardD_of _ _ _ _ (fun hg=>?_) (fun hg=>?_)) | (refine CondB_of _ _ _ _ _ _ _ ?_ (fun hg=>?_) (fun hg=>?_)))
  all_goals (try (first | ((first | unfold noN | unfold Fr.below | unfold Loc.below);simp [Fr.allN,AV.allN,AV.allNL,AO.allN];done) | rfl | trivial | assumption | (intro row hrow;simp only [List.mem_map] at hrow;obtain ⟨x,_,rfl⟩:=hrow;rfl) | (refine Wk.keep hcl ?_ ?_ ?_;(focus (simp [Fr.get,SttD.av,SttD.cells,ints,int_]<;>fail));(focus (simp [sto,SttD.av,SttD.cells,ints,int_]<;>fail));(focus (simp<;>fail))) | (simp [allP,opd,Fr.get,Fr.below,Fr.allN,AV.allN,AV.allNL,Loc.below,AO.allN,noN,killO,killT,killD,mkNames,AO.kill,AV.kill,AV.mapN,AV.mapNL];done) | (with_reducible exact ltD (by assumption)) | omega | (simp only [decide_eq_true_eq,decide_eq_false_iff_not] at *;omega)))
  all_goals (try (simp [Fr.below,Loc.below,Fr.allN,AO.allN,AV.allN,AV.allNL];done))
  all_goals (clear hpw hpr hkey hfit)
  all_goals (try (simp only [Bool.not_eq_true',Bool.not_eq_false'] at *))
  all_goals (try (
    have hN:numBad s = true:=by simp only [numBad, *,Bool.false_or,Bool.true_or,Bool.or_true,Bool.or_false,Bool.and_true,Bool.true_and,Bool.false_and,Bool.and_false,Bool.not_true,Bool.not_false,cond_true,cond_false]
    simp only [checkF,hN,Bool.false_or,Bool.true_or,Bool.or_true,Bool.or_false,Bool.and_true,Bool.true_and,Bool.false_and,Bool.and_false,Bool.not_true,Bool.not_false,cond_true,cond_false]
    done))
  all_goals (have hN:numBad s = false:=by simp only [numBad, *,Bool.false_or,Bool.true_or,Bool.or_true,Bool.or_false,Bool.and_true,Bool.true_and,Bool.false_and,Bool.and_false,Bool.not_true,Bool.not_false,cond_true,cond_false])
  all_goals (try (
    have h1:decide ((k:Int) < (s.gone.length:Int)) = true:=by assumption
    have hg:gnBad s.gone k = true:=by simp only [gnBad, *,Bool.false_or,Bool.true_or,Bool.or_true,Bool.or_false,Bool.and_true,Bool.true_and,Bool.false_and,Bool.and_false,Bool.not_true,Bool.not_false,cond_true,cond_false]
    simp only [checkF,hN,gone_no h1 hg,Bool.false_or,Bool.true_or,Bool.or_true,Bool.or_false,Bool.and_true,Bool.true_and,Bool.false_and,Bool.and_false,Bool.not_true,Bool.not_false,cond_true,cond_false]
    done))
  all_goals (try (
    have h1:decide ((k:Int) < (s.gone.length:Int)) = false:=by assumption
    simp only [checkF,hN,gone_all h1 hF,restF, *,Bool.false_or,Bool.true_or,Bool.or_true,Bool.or_false,Bool.and_true,Bool.true_and,Bool.false_and,Bool.and_false,Bool.not_true,Bool.not_false,cond_true,cond_false]
    done))
  all_goals (try (
    have hO:gnBad s.gone k = false:=by simp only [gnBad, *,Bool.false_or,Bool.true_or,Bool.or_true,Bool.or_false,Bool.and_true,Bool.true_and,Bool.false_and,Bool.and_false,Bool.not_true,Bool.not_false,cond_true,cond_false]
    exact allN' hF hO))
end Go.Proofs.Ytijpmidnclbhpaa
