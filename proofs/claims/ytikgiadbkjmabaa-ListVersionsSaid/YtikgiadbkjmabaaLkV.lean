/- The reference's VersionsOf;rows that are the same. -/
import Derived.Test.YtikgiadbkjmabaaLkR
import Derived.Test.YtikgiadbkjmabaaLkE
import Derived.Test.YtikgiadbkjmabaaTypes
namespace Go.Proofs.Ytikgiadbkjmabaa
open Go.RowKit
set_option maxRecDepth 100000
def o6_1:List SO:=((SO.mk (some 20) (.call 14 [(.tmp 16),(.tmp 17),(.tmp 18),(.tmp 19)]) none) :: (SO.mk (some 11) (.move (.tmp 20)) none) :: [])
theorem v6_1:type_of% (@swl _ _ o6_1.eq_1):=@swl _ _ o6_1.eq_1
def c6_2:SC:=(.seq (.reg [SO.mk (some 23) (.move (.tmp 11)) none,SO.mk (some 8) (.move (.const (Value.slice none 0 0))) none,SO.mk (some 9) (.move (.const (Value.bool false))) none,SO.mk (some 10) (.move (.tmp 23)) none]) (.keep [8,9,10] .ret))
theorem u6_2:type_of% (@swc _ _ c6_2.eq_1):=@swc _ _ c6_2.eq_1
def c6_3:SC:=(.cond (.tmp 22) c6_2 .skip)
theorem u6_3:type_of% (@swc _ _ c6_3.eq_1):=@swc _ _ c6_3.eq_1
def c6_4:SC:=(.cond (.tmp 31) .skip (.exit 0))
theorem u6_4:type_of% (@swc _ _ c6_4.eq_1):=@swc _ _ c6_4.eq_1
def o6_5:List SO:=((SO.mk (some 54) (.call 16 [(.tmp 37),(.tmp 53)]) none) :: (SO.mk (some 15) (.alloc 43) none) :: [])
theorem v6_5:type_of% (@swd _ _ o6_5.eq_1):=@swd _ _ o6_5.eq_1
def o6_6:List SO:=((SO.mk (some 50) (.faddr 41 (.tmp 49) 2) (some (40 ,false))) :: (SO.mk (some 51) (.load 9 (.tmp 50)) (some (40 ,false))) :: (SO.mk (some 52) (.bin .neq 9 (.tmp 46) (.tmp 51)) (some (40 ,false))) :: (SO.mk (some 53) (.pick (.tmp 40) (.const (Value.bool true)) (.tmp 52)) none) :: o6_5)
theorem v6_6:type_of% (@swd _ _ o6_6.eq_1):=@swd _ _ o6_6.eq_1
def o6_7:List SO:=((SO.mk (some 46) (.load 9 (.tmp 45)) (some (40 ,false))) :: (SO.mk (some 47) (.move (.tmp 12)) (some (40 ,false))) :: (SO.mk (some 48) (.move (.tmp 14)) (some (40 ,false))) :: (SO.mk (some 49) (.iaddr 23 (.tmp 47) (.tmp 48)) (some (40 ,false))) :: o6_6)
theorem v6_7:type_of% (@swd _ _ o6_7.eq_1):=@swd _ _ o6_7.eq_1
def o6_8:List SO:=((SO.mk (some 42) (.move (.tmp 14)) (some (40 ,false))) :: (SO.mk (some 43) (.bin .sub 3 (.tmp 42) (.const (Value.int .i64 1))) (some (40 ,false))) :: (SO.mk (some 44) (.iaddr 23 (.tmp 41) (.tmp 43)) (some (40 ,false))) :: (SO.mk (some 45) (.faddr 41 (.tmp 44) 2) (some (40 ,false))) :: o6_7)
theorem v6_8:type_of% (@swd _ _ o6_8.eq_1):=@swd _ _ o6_8.eq_1
def o6_9:List SO:=((SO.mk (some 38) (.move (.tmp 14)) none) :: (SO.mk (some 39) (.bin .eql 3 (.tmp 38) (.const (Value.int .i64 0))) none) :: (SO.mk (some 40) (.move (.tmp 39)) none) :: (SO.mk (some 41) (.move (.tmp 12)) (some (40 ,false))) :: o6_8)
theorem v6_9:type_of% (@swd _ _ o6_9.eq_1):=@swd _ _ o6_9.eq_1
def o6_10:List SO:=((SO.mk (some 34) (.move (.tmp 12)) none) :: (SO.mk (some 35) (.move (.tmp 14)) none) :: (SO.mk (some 36) (.iaddr 23 (.tmp 34) (.tmp 35)) none) :: (SO.mk (some 37) (.load 41 (.tmp 36)) none) :: o6_9)
theorem v6_10:type_of% (@swd _ _ o6_10.eq_1):=@swd _ _ o6_10.eq_1
theorem m6_10 (B:Nat):mkNames B o6_10 = [B + 15]:=(rfl)
def c6_11:SC:=(.reg [SO.mk (some 55) (.move (.tmp 13)) none,SO.mk (some 56) (.load 43 (.tmp 15)) none,SO.mk (some 57) (.bslice 29 1 [(0 ,(.tmp 56))]) none,SO.mk (some 58) (.app 29 29 (.tmp 55) (.tmp 57)) none,SO.mk (some 13) (.move (.tmp 58)) none])
theorem u6_11:type_of% (@swc _ _ c6_11.eq_1):=@swc _ _ c6_11.eq_1
def c6_12:SC:=(.reg [SO.mk (some 32) (.move (.tmp 14)) none,SO.mk (some 33) (.bin .add 3 (.tmp 32) (.const (Value.int .i64 1))) none,SO.mk (some 14) (.move (.tmp 33)) none])
theorem u6_12:type_of% (@swc _ _ c6_12.eq_1):=@swc _ _ c6_12.eq_1
def c6_13:SC:=(.seq (.block 1 (.seq (.dreg false o6_10 [SO.mk none (.store 43 (.tmp 15) (.tmp 54)) none]) (.keep [13,15,14,12,3] c6_11))) (.keep [14,12,3,13] c6_12))
theorem u6_13:type_of% (@swc _ _ c6_13.eq_1):=@swc _ _ c6_13.eq_1
def c6_14:SC:=(.seq (.seq (.reg [SO.mk (some 28) (.move (.tmp 14)) none,SO.mk (some 29) (.move (.tmp 12)) none,SO.mk (some 30) (.len 23 (.tmp 29)) none,SO.mk (some 31) (.bin .lss 3 (.tmp 28) (.tmp 30)) none]) (.keep [31,12,14,3,13] c6_4)) (.keep [13,14,12,3] c6_13))
theorem u6_14:type_of% (@swc _ _ c6_14.eq_1):=@swc _ _ c6_14.eq_1
def c6_15:SC:=(.block 0 (.loop (.keep [12,14,3,13] c6_14)))
theorem u6_15:type_of% (@swc _ _ c6_15.eq_1):=@swc _ _ c6_15.eq_1
def o6_16:List SO:=((SO.mk (some 9) (.move (.const (Value.bool true))) none) :: (SO.mk (some 10) (.move (.const (Value.int .i64 0))) none) :: [])
theorem v6_16:type_of% (@swl _ _ o6_16.eq_1):=@swl _ _ o6_16.eq_1
def c6_17:SC:=(.seq (.reg ((SO.mk (some 63) (.move (.tmp 13)) none) :: (SO.mk (some 64) (.move (.tmp 3)) none) :: (SO.mk (some 65) (.slice 29 (.tmp 63) none (some (.tmp 64))) none) :: (SO.mk (some 8) (.move (.tmp 65)) none) :: o6_16)) (.keep [8,9,10] .ret))
theorem u6_17:type_of% (@swc _ _ c6_17.eq_1):=@swc _ _ c6_17.eq_1
def c6_18:SC:=(.cond (.tmp 62) c6_17 .skip)
theorem u6_18:type_of% (@swc _ _ c6_18.eq_1):=@swc _ _ c6_18.eq_1
def c6_19:SC:=(.seq (.reg [SO.mk (some 66) (.move (.tmp 13)) none,SO.mk (some 8) (.move (.tmp 66)) none,SO.mk (some 9) (.move (.const (Value.bool false))) none,SO.mk (some 10) (.move (.const (Value.int .i64 0))) none]) (.keep [8,9,10] .ret))
theorem u6_19:type_of% (@swc _ _ c6_19.eq_1):=@swc _ _ c6_19.eq_1
def c6_20:SC:=(.seq (.seq (.reg [SO.mk (some 59) (.move (.tmp 13)) none,SO.mk (some 60) (.len 29 (.tmp 59)) none,SO.mk (some 61) (.move (.tmp 3)) none,SO.mk (some 62) (.bin .gtr 3 (.tmp 60) (.tmp 61)) none]) (.keep [62,3,13] c6_18)) (.keep [13] c6_19))
theorem u6_20:type_of% (@swc _ _ c6_20.eq_1):=@swc _ _ c6_20.eq_1
def c6_21:SC:=(.seq (.seq (.reg [SO.mk (some 14) (.move (.const (Value.int .i64 0))) none]) (.keep [12,14,3,13] c6_15)) (.keep [3,13] c6_20))
theorem u6_21:type_of% (@swc _ _ c6_21.eq_1):=@swc _ _ c6_21.eq_1
def c6_22:SC:=(.seq (.reg [SO.mk (some 13) (.move (.const (Value.slice none 0 0))) none]) (.keep [12,3,13] c6_21))
theorem u6_22:type_of% (@swc _ _ c6_22.eq_1):=@swc _ _ c6_22.eq_1
def c6_23:SC:=(.seq (.reg [SO.mk (some 24) (.load 28 (.tmp 4)) none,SO.mk (some 25) (.move (.tmp 1)) none,SO.mk (some 26) (.move (.tmp 2)) none,SO.mk (some 27) (.call 15 [(.tmp 24),(.tmp 25),(.tmp 26)]) none,SO.mk (some 12) (.move (.tmp 27)) none]) (.keep [12,3] c6_22))
theorem u6_23:type_of% (@swc _ _ c6_23.eq_1):=@swc _ _ c6_23.eq_1
def c6_24:SC:=(.seq (.seq (.reg [SO.mk (some 21) (.move (.tmp 11)) none,SO.mk (some 22) (.bin .neq 30 (.tmp 21) (.const (Value.int .i64 0))) none]) (.keep [22,11,4,1,2,3] c6_3)) (.keep [4,1,2,3] c6_23))
theorem u6_24:type_of% (@swc _ _ c6_24.eq_1):=@swc _ _ c6_24.eq_1
def c6_25:SC:=(.seq (.reg ((SO.mk (some 16) (.load 28 (.tmp 4)) none) :: (SO.mk (some 17) (.move (.tmp 1)) none) :: (SO.mk (some 18) (.move (.tmp 2)) none) :: (SO.mk (some 19) (.move (.tmp 3)) none) :: o6_1)) (.keep [11,4,1,2,3] c6_24))
theorem u6_25:type_of% (@swc _ _ c6_25.eq_1):=@swc _ _ c6_25.eq_1
def c6:SC:=(.seq (.reg [SO.mk (some 4) (.box 28 (.tmp 0)) none,SO.mk (some 8) (.move (.const (Value.slice none 0 0))) none,SO.mk (some 9) (.move (.const (Value.bool false))) none,SO.mk (some 10) (.move (.const (Value.int .i64 0))) none]) (.keep [4,1,2,3] c6_25))
theorem c6_eq:annC Try.f6 = some c6:=by kernel_rfl
theorem r6:Try.f6.results.toList = [.tmp 8,.tmp 9,.tmp 10]:=by kernel_rfl
theorem e6:enters Try.prog 6 = true:=by kernel_rfl
def c7_1:SC:=(.seq (.reg [SO.mk (some 4) (.move (.const (Value.bool false))) none]) (.keep [4] .ret))
theorem u7_1:type_of% (@swc _ _ c7_1.eq_1):=@swc _ _ c7_1.eq_1
def c7_2:SC:=(.cond (.tmp 10) c7_1 .skip)
theorem u7_2:type_of% (@swc _ _ c7_2.eq_1):=@swc _ _ c7_2.eq_1
def c7_3:SC:=(.cond (.tmp 14) .skip (.exit 0))
theorem u7_3:type_of% (@swc _ _ c7_3.eq_1):=@swc _ _ c7_3.eq_1
def o7_4:List SO:=((SO.mk (some 25) (.bin .neq 43 (.tmp 20) (.tmp 24)) none) :: [])
theorem v7_4:type_of% (@swd _ _ o7_4.eq_1):=@swd _ _ o7_4.eq_1
def o7_5:List SO:=((SO.mk (some 21) (.move (.tmp 1)) none) :: (SO.mk (some 22) (.move (.tmp 5)) none) :: (SO.mk (some 23) (.iaddr 29 (.tmp 21) (.tmp 22)) none) :: (SO.mk (some 24) (.load 43 (.tmp 23)) none) :: o7_4)
theorem v7_5:type_of% (@swd _ _ o7_5.eq_1):=@swd _ _ o7_5.eq_1
def o7_6:List SO:=((SO.mk (some 17) (.move (.tmp 0)) none) :: (SO.mk (some 18) (.move (.tmp 5)) none) :: (SO.mk (some 19) (.iaddr 29 (.tmp 17) (.tmp 18)) none) :: (SO.mk (some 20) (.load 43 (.tmp 19)) none) :: o7_5)
theorem v7_6:type_of% (@swd _ _ o7_6.eq_1):=@swd _ _ o7_6.eq_1
theorem m7_6 (B:Nat):mkNames B o7_6 = []:=(rfl)
def c7_7:SC:=(.seq (.reg [SO.mk (some 4) (.move (.const (Value.bool false))) none]) (.keep [4] .ret))
theorem u7_7:type_of% (@swc _ _ c7_7.eq_1):=@swc _ _ c7_7.eq_1
def c7_8:SC:=(.cond (.tmp 25) c7_7 .skip)
theorem u7_8:type_of% (@swc _ _ c7_8.eq_1):=@swc _ _ c7_8.eq_1
def c7_9:SC:=(.reg [SO.mk (some 15) (.move (.tmp 5)) none,SO.mk (some 16) (.bin .add 3 (.tmp 15) (.const (Value.int .i64 1))) none,SO.mk (some 5) (.move (.tmp 16)) none])
theorem u7_9:type_of% (@swc _ _ c7_9.eq_1):=@swc _ _ c7_9.eq_1
def c7_10:SC:=(.seq (.block 1 (.seq (.dreg false o7_6 []) (.keep [25,5,1,0] c7_8))) (.keep [5,1,0] c7_9))
theorem u7_10:type_of% (@swc _ _ c7_10.eq_1):=@swc _ _ c7_10.eq_1
def c7_11:SC:=(.seq (.seq (.reg [SO.mk (some 11) (.move (.tmp 5)) none,SO.mk (some 12) (.move (.tmp 0)) none,SO.mk (some 13) (.len 29 (.tmp 12)) none,SO.mk (some 14) (.bin .lss 3 (.tmp 11) (.tmp 13)) none]) (.keep [14,0,1,5] c7_3)) (.keep [5,1,0] c7_10))
theorem u7_11:type_of% (@swc _ _ c7_11.eq_1):=@swc _ _ c7_11.eq_1
def c7_12:SC:=(.block 0 (.loop (.keep [0,1,5] c7_11)))
theorem u7_12:type_of% (@swc _ _ c7_12.eq_1):=@swc _ _ c7_12.eq_1
def c7_13:SC:=(.seq (.reg [SO.mk (some 4) (.move (.const (Value.bool true))) none]) (.keep [4] .ret))
theorem u7_13:type_of% (@swc _ _ c7_13.eq_1):=@swc _ _ c7_13.eq_1
def c7_14:SC:=(.seq (.seq (.reg [SO.mk (some 5) (.move (.const (Value.int .i64 0))) none]) (.keep [0,1,5] c7_12)) (.keep [] c7_13))
theorem u7_14:type_of% (@swc _ _ c7_14.eq_1):=@swc _ _ c7_14.eq_1
def c7_15:SC:=(.seq (.seq (.reg [SO.mk (some 6) (.move (.tmp 0)) none,SO.mk (some 7) (.len 29 (.tmp 6)) none,SO.mk (some 8) (.move (.tmp 1)) none,SO.mk (some 9) (.len 29 (.tmp 8)) none,SO.mk (some 10) (.bin .neq 3 (.tmp 7) (.tmp 9)) none]) (.keep [10,0,1] c7_2)) (.keep [0,1] c7_14))
theorem u7_15:type_of% (@swc _ _ c7_15.eq_1):=@swc _ _ c7_15.eq_1
def c7:SC:=(.seq (.reg [SO.mk (some 4) (.move (.const (Value.bool false))) none]) (.keep [0,1] c7_15))
theorem c7_eq:annC Try.f7 = some c7:=by kernel_rfl
theorem r7:Try.f7.results.toList = [.tmp 4]:=by kernel_rfl
theorem e7:enters Try.prog 7 = true:=by kernel_rfl
end Go.Proofs.Ytikgiadbkjmabaa
namespace Go.Proofs.Ytikgiadbkjmabaa
open Go.RowKit
set_option maxHeartbeats 4000000
set_option maxRecDepth 20000
attribute [local irreducible] SW OSW SWL SWLn SWD SEcall SEcallv SDv SE SO1 SOg ACalls ACallv Wk EndV
set_option linter.unusedSimpArgs false
set_option linter.unusedVariables false
def latB (l:List VerD) (i:Nat):Bool:=(i == 0) || !(l[i - 1]!.key.toList == l[i]!.key.toList)
def rV (l:List VerD) (k:Nat):List RowD:=(List.range k).map fun i=>rowD l[i]! (latB l i)
theorem rV_len (l:List VerD) (k:Nat):(rV l k).length = k:=by simp [rV]
theorem rV_s (l:List VerD) (k:Nat):rV l (k + 1) = rV l k ++ [rowD l[k]! (latB l k)]:=by simp [rV,List.range_succ]
def pgV (e:Int) (R:List RowD) (most:Int):AV:=bif e == 0 then .tup [.d (.ro ((pageL R most).map RowD.row)),Bo (decide ((R.length:Int) > most)),I 0] else .tup [.d (.ro []),Bo false,I e]
theorem listF_most {s:SttD} {name pre:ByteArray} {most:Int} (h:listF s name pre most = 0):1 ≤ most ∧ most ≤ 50:=by
  unfold listF at h
  have h50:inR most 1 50 = true:=by
    cases h1:mayF s<;>rw [h1] at h<;>simp only [cond_true,cond_false] at h
    · cases h
    · cases h2:s.bkts.any (namedB name)<;>rw [h2] at h<;>simp only [cond_true,cond_false] at h
      · cases h
      · cases h3:(ruleF pre 0 0 == 0)<;>rw [h3] at h<;>simp only [cond_true,cond_false] at h
        · rw [h] at h3;cases h3
        · cases h4:inR most 1 50<;>rw [h4] at h<;>first | rfl | (simp at h)
  simp only [inR,Bool.and_eq_true,decide_eq_true_eq] at h50
  omega
theorem oK_all (s:SttD) (name pre:ByteArray):(oK s.vers name pre s.vers.length).length ≤ s.vers.length:=oK_len _ _ _ _ (Nat.le_refl _)
theorem versionsOf_p (s:SttD) (hc:Pure Try.prog 31 [s.av] (Bo (mayF s))) (hw:s.vers.length * 120 ≤ 2 ^ 47) (name pre:ByteArray) (most:Int) :
    Pure Try.prog 6 [s.av,.d (.v (.string name)),.d (.v (.string pre)),I most] (pgV (listF s name pre most) (rV (oK s.vers name pre s.vers.length) (oK s.vers name pre s.vers.length).length) most):=by
  refine pureZ_of follows Try.func6 c6_eq r6 (Nat.le_of_ble_eq_true rfl) fun B σ hcl hsz=>?_
  clear hsz
  have h1:=listFault_p s hc name pre most
  have h2:=sorted_p s hw name pre
  have h3:=oK_all s name pre
  have h4:=@listF_most s name pre most
  generalize listF s name pre most = e at h1 h4 ⊢
  generalize oK s.vers name pre s.vers.length = l at h2 h3 ⊢
  have htk:∀ i,List.take i ((rV l i).map RowD.row) = (rV l i).map RowD.row:=fun i=>List.take_of_length_le (by simp [rV_len])
  have hw0:IntKind.i64.wrap ((0:Int) + 1) = 1:=by decide
  unfold pgV
  cases he:(e == 0)
  · have he':(e != 0) = true:=by simp only [bne,he,Bool.not_false]
    repeat' (first | (simp -implicitDefEqProofs only [*,Nat.reduceBEq,↓reduceIte,Nat.reduceEqDiff,Nat.reduceAdd,reduceCtorEq,Int.reduceLT,Int.reduceToNat,List.getElem?_nil,Nat.reduceMul,Nat.reducePow,Nat.reduceLeDiff,rowOf_mapD,rowOf_mapI,rowOf_mapA,List.getElem?_cons_zero,List.getElem?_cons_succ,take_map_len,take_map_app,List.getElem?_cons_zero,c6,r6,v6_1,u6_2,u6_3,u6_4,v6_5,v6_6,v6_7,v6_8,v6_9,v6_10,m6_10,u6_11,u6_12,u6_13,u6_14,u6_15,v6_16,u6_17,u6_18,u6_19,u6_20,u6_21,u6_22,u6_23,u6_24,u6_25,ty28,ty30,ty23,ty3,ty41,ty9,ty43,ty29,SttD.av,SttD.cells,ints,mvcgen_simp]) | (with_reducible refine And.intro ?_ ?_) | (refine call_ro e14 ( h1) rfl ?_ ?_ ?_ ?_) | (refine gcall_ro e14 ( h1) rfl ?_ ?_ ?_ ?_) | (refine dcall_ro e14 ( h1) rfl ?_ ?_ ?_ ?_) | (refine gdcall_ro rfl e14 ( h1) rfl ?_ ?_ ?_ ?_) | (refine EndX.plain ?_) | (refine nil_split (fun hn=>?_) (fun hn=>?_)) | (refine gcall_no not_false ?_) | (refine gdcall_no not_false ?_) | (refine GuardS_of _ _ _ _ _ _ (fun hg=>?_) (fun hg=>?_)) | (refine GuardD_of _ _ _ _ (fun hg=>?_) (fun hg=>?_)) | (refine CondB_of _ _ _ _ _ _ _ ?_ (fun hg=>?_) (fun hg=>?_)))
    all_goals (try (first | ((first | unfold noN | unfold Fr.below | unfold Loc.below);simp [Fr.allN,AV.allN,AV.allNL,AO.allN];done) | rfl | trivial | assumption | (intro row hrow;simp only [List.mem_map] at hrow;obtain ⟨x,_,rfl⟩:=hrow;rfl) | (refine Wk.keep hcl ?_ ?_ ?_;(focus (simp [Fr.get,SttD.av,SttD.cells,ints]<;>fail));(focus (simp [sto,SttD.av,SttD.cells,ints]<;>fail));(focus (simp<;>fail))) | (simp [allP,opd,Fr.get,Fr.below,Fr.allN,AV.allN,AV.allNL,Loc.below,AO.allN,noN,killO,killT,killD,mkNames,AO.kill,AV.kill,AV.mapN,AV.mapNL];done) | (with_reducible exact ltD (by assumption)) | omega | (simp only [decide_eq_true_eq,decide_eq_false_iff_not] at *;omega)))
  have he':(e != 0) = false:=by simp only [bne,he,Bool.not_true]
  obtain rfl:e = 0:=eq_of_beq he
  obtain ⟨m1,m2⟩:=h4 rfl
  repeat' (first | (simp -implicitDefEqProofs only [*,Nat.reduceBEq,↓reduceIte,Nat.reduceEqDiff,Nat.reduceAdd,reduceCtorEq,Int.reduceLT,Int.reduceToNat,List.getElem?_nil,Nat.reduceMul,Nat.reducePow,Nat.reduceLeDiff,rowOf_mapD,rowOf_mapI,rowOf_mapA,List.getElem?_cons_zero,List.getElem?_cons_succ,take_map_len,take_map_app,List.getElem?_cons_zero,c6,r6,v6_1,u6_2,u6_3,u6_4,v6_5,v6_6,v6_7,v6_8,v6_9,v6_10,m6_10,u6_11,u6_12,u6_13,u6_14,u6_15,v6_16,u6_17,u6_18,u6_19,u6_20,u6_21,u6_22,u6_23,u6_24,u6_25,ty28,ty30,ty23,ty3,ty41,ty9,ty43,ty29,SttD.av,SttD.cells,ints,mvcgen_simp]) | (with_reducible refine And.intro ?_ ?_) | (refine call_ro e14 ( h1) rfl ?_ ?_ ?_ ?_) | (refine gcall_ro e14 ( h1) rfl ?_ ?_ ?_ ?_) | (refine dcall_ro e14 ( h1) rfl ?_ ?_ ?_ ?_) | (refine gdcall_ro rfl e14 ( h1) rfl ?_ ?_ ?_ ?_) | (refine call_ro e15 ( h2) rfl ?_ ?_ ?_ ?_) | (refine gcall_ro e15 ( h2) rfl ?_ ?_ ?_ ?_) | (refine dcall_ro e15 ( h2) rfl ?_ ?_ ?_ ?_) | (refine gdcall_ro rfl e15 ( h2) rfl ?_ ?_ ?_ ?_) | (refine EndX.plain ?_) | (refine nil_split (fun hn=>?_) (fun hn=>?_)) | (refine gcall_no not_false ?_) | (refine gdcall_no not_false ?_) | (refine GuardS_of _ _ _ _ _ _ (fun hg=>?_) (fun hg=>?_)) | (refine GuardD_of _ _ _ _ (fun hg=>?_) (fun hg=>?_)) | (refine CondB_of _ _ _ _ _ _ _ ?_ (fun hg=>?_) (fun hg=>?_)))
  all_goals (try (first | ((first | unfold noN | unfold Fr.below | unfold Loc.below);simp [Fr.allN,AV.allN,AV.allNL,AO.allN];done) | rfl | trivial | assumption | (intro row hrow;simp only [List.mem_map] at hrow;obtain ⟨x,_,rfl⟩:=hrow;rfl) | (refine Wk.keep hcl ?_ ?_ ?_;(focus (simp [Fr.get,SttD.av,SttD.cells,ints]<;>fail));(focus (simp [sto,SttD.av,SttD.cells,ints]<;>fail));(focus (simp<;>fail))) | (simp [allP,opd,Fr.get,Fr.below,Fr.allN,AV.allN,AV.allNL,Loc.below,AO.allN,noN,killO,killT,killD,mkNames,AO.kill,AV.kill,AV.mapN,AV.mapNL];done) | (with_reducible exact ltD (by assumption)) | omega | (simp only [decide_eq_true_eq,decide_eq_false_iff_not] at *;omega)))
  refine loop_nat l.length (fun _=>True) (fun i=>[(12,.d (.ro (l.map VerD.row))),(14,I i),(3,I most),(13,.os (B + 13) i)]) (fun i=>[(B + 13,.arr 7 43 ((rV l i).map RowD.row))]) trivial (Wk.trans (Wk.nameF (s:=13) (n:=B + 13) (k:=7) (E:=43) rfl (by omega) (.inl (by omega)) (fun m=>AO.kill_below (q:=fun m=>decide (m < B)) (by simp) _ (hcl m).1)) (Wk.keep hcl ?_ ?_ ?_)) fun i hi _=>?_
  · simp [Fr.get,newF,Fr.map,AV.kill,AV.mapN]
  · simp [sto,newL,Loc.kill,Loc.set,AO.kill,AV.kill,AV.mapN,rV]
  · simp [newL,Loc.kill,Loc.set]
  have hrl:=rV_len l i
  rcases Nat.lt_or_eq_of_le hi with hlt | rfl
  · have hdk:decide ((i:Int) < (l.length:Int)) = true:=by simpa using hlt
    have hr1:rowOf (l.map VerD.row) i = VerD.row l[i]!:=rowOf_map _ _ _ hlt
    have hwk:IntKind.i64.wrap ((i:Int) + 1) = ((i + 1:Nat):Int):=(IntWalk.i64_in _ (by omega)).trans (by omega)
    have h7:=rowOf_p l[i]! (latB l i)
    rcases Nat.eq_zero_or_pos i with rfl | h0
    · have e0:latB l 0 = true:=rfl
      rw [e0] at h7
      repeat' (first | (simp -implicitDefEqProofs only [*,Nat.reduceBEq,↓reduceIte,Nat.reduceEqDiff,Nat.reduceAdd,reduceCtorEq,Int.reduceLT,Int.reduceToNat,List.getElem?_nil,Nat.reduceMul,Nat.reducePow,Nat.reduceLeDiff,rowOf_mapD,rowOf_mapI,rowOf_mapA,List.getElem?_cons_zero,List.getElem?_cons_succ,take_map_len,take_map_app,List.getElem?_cons_zero,c6,r6,v6_1,u6_2,u6_3,u6_4,v6_5,v6_6,v6_7,v6_8,v6_9,v6_10,m6_10,u6_11,u6_12,u6_13,u6_14,u6_15,v6_16,u6_17,u6_18,u6_19,u6_20,u6_21,u6_22,u6_23,u6_24,u6_25,ty28,ty30,ty23,ty3,ty41,ty9,ty43,ty29,VerD.row,RowD.row,rowD,beq_self_eq_true,mvcgen_simp]) | (with_reducible refine And.intro ?_ ?_) | (refine call_ro e16 ( h7) rfl ?_ ?_ ?_ ?_) | (refine gcall_ro e16 ( h7) rfl ?_ ?_ ?_ ?_) | (refine dcall_ro e16 ( h7) rfl ?_ ?_ ?_ ?_) | (refine gdcall_ro rfl e16 ( h7) rfl ?_ ?_ ?_ ?_) | (refine EndX.plain ?_) | (refine nil_split (fun hn=>?_) (fun hn=>?_)) | (refine gcall_no not_false ?_) | (refine gdcall_no not_false ?_) | (refine GuardS_of _ _ _ _ _ _ (fun hg=>?_) (fun hg=>?_)) | (refine GuardD_of _ _ _ _ (fun hg=>?_) (fun hg=>?_)) | (refine CondB_of _ _ _ _ _ _ _ ?_ (fun hg=>?_) (fun hg=>?_)))
      all_goals (try (first | ((first | unfold noN | unfold Fr.below | unfold Loc.below);simp [Fr.allN,AV.allN,AV.allNL,AO.allN];done) | rfl | trivial | assumption | (intro row hrow;simp only [List.mem_map] at hrow;obtain ⟨x,_,rfl⟩:=hrow;rfl) | (refine Wk.keep hcl ?_ ?_ ?_;(focus (simp [Fr.get,VerD.row,RowD.row,rowD,beq_self_eq_true]<;>fail));(focus (simp [sto,VerD.row,RowD.row,rowD,beq_self_eq_true]<;>fail));(focus (simp<;>fail))) | (simp [allP,opd,Fr.get,Fr.below,Fr.allN,AV.allN,AV.allNL,Loc.below,AO.allN,noN,killO,killT,killD,mkNames,AO.kill,AV.kill,AV.mapN,AV.mapNL];done) | (with_reducible exact ltD (by assumption)) | omega | (simp only [decide_eq_true_eq,decide_eq_false_iff_not] at *;omega)))
      all_goals (try omega)
      refine Wk.keep hcl ?_ ?_ ?_<;>simp [Fr.get,sto,rV,RowD.row,rowD,e0]
    · have e0:((i:Int) == 0) = false:=by simp;omega
      have hw1:IntKind.i64.wrap ((i:Int) - 1) = ((i - 1:Nat):Int):=(IntWalk.i64_in _ (by omega)).trans (by omega)
      have hr2:rowOf (l.map VerD.row) (i - 1) = VerD.row l[i - 1]!:=rowOf_map _ _ _ (by omega)
      have e1:latB l i = !(l[i - 1]!.key.toList == l[i]!.key.toList):=by
        unfold latB
        rw [show (i == 0) = false by simp;omega];rfl
      rw [e1] at h7
      repeat' (first | (simp -implicitDefEqProofs only [*,Nat.reduceBEq,↓reduceIte,Nat.reduceEqDiff,Nat.reduceAdd,reduceCtorEq,Int.reduceLT,Int.reduceToNat,List.getElem?_nil,Nat.reduceMul,Nat.reducePow,Nat.reduceLeDiff,rowOf_mapD,rowOf_mapI,rowOf_mapA,List.getElem?_cons_zero,List.getElem?_cons_succ,take_map_len,take_map_app,List.getElem?_cons_zero,c6,r6,v6_1,u6_2,u6_3,u6_4,v6_5,v6_6,v6_7,v6_8,v6_9,v6_10,m6_10,u6_11,u6_12,u6_13,u6_14,u6_15,v6_16,u6_17,u6_18,u6_19,u6_20,u6_21,u6_22,u6_23,u6_24,u6_25,ty28,ty30,ty23,ty3,ty41,ty9,ty43,ty29,VerD.row,RowD.row,rowD,mvcgen_simp]) | (with_reducible refine And.intro ?_ ?_) | (refine call_ro e16 ( h7) rfl ?_ ?_ ?_ ?_) | (refine gcall_ro e16 ( h7) rfl ?_ ?_ ?_ ?_) | (refine dcall_ro e16 ( h7) rfl ?_ ?_ ?_ ?_) | (refine gdcall_ro rfl e16 ( h7) rfl ?_ ?_ ?_ ?_) | (refine EndX.plain ?_) | (refine nil_split (fun hn=>?_) (fun hn=>?_)) | (refine gcall_no not_false ?_) | (refine gdcall_no not_false ?_) | (refine GuardS_of _ _ _ _ _ _ (fun hg=>?_) (fun hg=>?_)) | (refine GuardD_of _ _ _ _ (fun hg=>?_) (fun hg=>?_)) | (refine CondB_of _ _ _ _ _ _ _ ?_ (fun hg=>?_) (fun hg=>?_)))
      all_goals (try (first | ((first | unfold noN | unfold Fr.below | unfold Loc.below);simp [Fr.allN,AV.allN,AV.allNL,AO.allN];done) | rfl | trivial | assumption | (intro row hrow;simp only [List.mem_map] at hrow;obtain ⟨x,_,rfl⟩:=hrow;rfl) | (refine Wk.keep hcl ?_ ?_ ?_;(focus (simp [Fr.get,VerD.row,RowD.row,rowD]<;>fail));(focus (simp [sto,VerD.row,RowD.row,rowD]<;>fail));(focus (simp<;>fail))) | (simp [allP,opd,Fr.get,Fr.below,Fr.allN,AV.allN,AV.allNL,Loc.below,AO.allN,noN,killO,killT,killD,mkNames,AO.kill,AV.kill,AV.mapN,AV.mapNL];done) | (with_reducible exact ltD (by assumption)) | omega | (simp only [decide_eq_true_eq,decide_eq_false_iff_not] at *;omega)))
      all_goals (try (simp only [List.length_map];omega))
      refine Wk.keep hcl ?_ ?_ ?_<;>simp [Fr.get,sto,rV_s,RowD.row,rowD,e1,rV_len]
  · have hdk:decide ((l.length:Int) < (l.length:Int)) = false:=by simp
    unfold pageL
    repeat' (first | (simp -implicitDefEqProofs only [*,Nat.reduceBEq,↓reduceIte,Nat.reduceEqDiff,Nat.reduceAdd,reduceCtorEq,Int.reduceLT,Int.reduceToNat,List.getElem?_nil,Nat.reduceMul,Nat.reducePow,Nat.reduceLeDiff,rowOf_mapD,rowOf_mapI,rowOf_mapA,List.getElem?_cons_zero,List.getElem?_cons_succ,take_map_len,take_map_app,List.getElem?_cons_zero,c6,r6,v6_1,u6_2,u6_3,u6_4,v6_5,v6_6,v6_7,v6_8,v6_9,v6_10,m6_10,u6_11,u6_12,u6_13,u6_14,u6_15,v6_16,u6_17,u6_18,u6_19,u6_20,u6_21,u6_22,u6_23,u6_24,u6_25,ty28,ty30,ty23,ty3,ty41,ty9,ty43,ty29,bnd,sliceV,Option.getD_some,Option.getD_none,mvcgen_simp]) | (with_reducible refine And.intro ?_ ?_) | (refine EndX.plain ?_) | (refine nil_split (fun hn=>?_) (fun hn=>?_)) | (refine gcall_no not_false ?_) | (refine gdcall_no not_false ?_) | (refine GuardS_of _ _ _ _ _ _ (fun hg=>?_) (fun hg=>?_)) | (refine GuardD_of _ _ _ _ (fun hg=>?_) (fun hg=>?_)) | (refine CondB_of _ _ _ _ _ _ _ ?_ (fun hg=>?_) (fun hg=>?_)))
    all_goals (try (first | ((first | unfold noN | unfold Fr.below | unfold Loc.below);simp [Fr.allN,AV.allN,AV.allNL,AO.allN];done) | rfl | trivial | assumption | (intro row hrow;simp only [List.mem_map] at hrow;obtain ⟨x,_,rfl⟩:=hrow;rfl) | (refine Wk.keep hcl ?_ ?_ ?_;(focus (simp [Fr.get,bnd,sliceV,Option.getD_some,Option.getD_none]<;>fail));(focus (simp [sto,bnd,sliceV,Option.getD_some,Option.getD_none]<;>fail));(focus (simp<;>fail))) | (simp [allP,opd,Fr.get,Fr.below,Fr.allN,AV.allN,AV.allNL,Loc.below,AO.allN,noN,killO,killT,killD,mkNames,AO.kill,AV.kill,AV.mapN,AV.mapNL];done) | (with_reducible exact ltD (by assumption)) | omega | (simp only [decide_eq_true_eq,decide_eq_false_iff_not] at *;omega)))
    all_goals (try (simp only [decide_eq_true_eq,decide_eq_false_iff_not] at hg))
    rw [if_pos (by omega),List.map_take]
theorem feqW (a:ByteArray) (b:Bool) (c:Int) (d e:Bool) (f g:Int) (a':ByteArray) (b':Bool) (c':Int) (d' e':Bool) (f' g':Int):feq Try.prog 20 43 [.d (.v (.string a)),.d (.v (.bool b)),.d (.v (.int .i64 c)),.d (.v (.bool d)),.d (.v (.bool e)),.d (.v (.int .i64 f)),.d (.v (.int .i64 g))] [.d (.v (.string a')),.d (.v (.bool b')),.d (.v (.int .i64 c')),.d (.v (.bool d')),.d (.v (.bool e')),.d (.v (.int .i64 f')),.d (.v (.int .i64 g'))] = some (True,(a.toList == a'.toList && (b == b' && (c == c' && (d == d' && (e == e' && (f == f' && (g == g' && true)))))))):=by
  have h:∃ q,feq Try.prog 20 43 [.d (.v (.string a)),.d (.v (.bool b)),.d (.v (.int .i64 c)),.d (.v (.bool d)),.d (.v (.bool e)),.d (.v (.int .i64 f)),.d (.v (.int .i64 g))] [.d (.v (.string a')),.d (.v (.bool b')),.d (.v (.int .i64 c')),.d (.v (.bool d')),.d (.v (.bool e')),.d (.v (.int .i64 f')),.d (.v (.int .i64 g'))] = some (q,(a.toList == a'.toList && (b == b' && (c == c' && (d == d' && (e == e' && (f == f' && (g == g' && true)))))))) ∧ q:=by
    refine ⟨True ∧ True ∧ IntKind.i64 = IntKind.i64 ∧ True ∧ True ∧ IntKind.i64 = IntKind.i64 ∧ IntKind.i64 = IntKind.i64 ∧ True,?_,by simp⟩
    kernel_rfl
  obtain ⟨q,h1,h2⟩:=h
  rw [h1,eq_true h2]
theorem sameRows_self (l:List RowD):Pure Try.prog 7 [.d (.ro (l.map RowD.row)),.d (.ro (l.map RowD.row))] (Bo true):=by
  refine pure_of follows Try.func7 c7_eq r7 (Nat.le_of_ble_eq_true rfl) fun B σ hcl hsz=>?_
  have hlen:l.length ≤ 2 ^ 47:=by simpa using (show Sized (.ro (l.map RowD.row)) from hsz (.d (.ro (l.map RowD.row))) (by simp)).len
  clear hsz
  repeat' (first | (simp -implicitDefEqProofs only [*,Nat.reduceBEq,↓reduceIte,Nat.reduceEqDiff,Nat.reduceAdd,reduceCtorEq,Int.reduceLT,Int.reduceToNat,List.getElem?_nil,Nat.reduceMul,Nat.reducePow,Nat.reduceLeDiff,rowOf_mapD,rowOf_mapI,rowOf_mapA,List.getElem?_cons_zero,List.getElem?_cons_succ,take_map_len,take_map_app,List.getElem?_cons_zero,c7,r7,u7_1,u7_2,u7_3,v7_4,v7_5,v7_6,m7_6,u7_7,u7_8,u7_9,u7_10,u7_11,u7_12,u7_13,u7_14,u7_15,ty29,ty3,ty43,RowD.row,bne_self_eq_false,beq_self_eq_true,feqW,Bool.and_self,mvcgen_simp]) | (with_reducible refine And.intro ?_ ?_) | (refine loop_nat (l.length) (fun _=>True) (fun k=>[(0,.d (.ro (l.map RowD.row))),(1,.d (.ro (l.map RowD.row))),(5,I k)]) (fun k=>[]) ?_ (Wk.keep hcl ?_ ?_ ?_) fun k hk hF=>?_;rotate_left 1;(focus (simp [Fr.get,newF,Fr.map,AV.kill,AV.mapN,RowD.row,bne_self_eq_false,beq_self_eq_true,feqW,Bool.and_self]<;>fail));(focus (simp [sto,newL,Loc.kill,Loc.set,AO.kill,AV.kill,AV.mapN,RowD.row,bne_self_eq_false,beq_self_eq_true,feqW,Bool.and_self]<;>fail));(focus (simp [newL,Loc.kill,Loc.set,RowD.row,bne_self_eq_false,beq_self_eq_true,feqW,Bool.and_self]<;>fail));(try have hw:IntKind.i64.wrap ((k:Int) + 1) = (k:Int) + 1:=IntWalk.i64_in _ (by omega))) | (refine EndX.plain ?_) | (refine nil_split (fun hn=>?_) (fun hn=>?_)) | (refine gcall_no not_false ?_) | (refine gdcall_no not_false ?_) | (refine GuardS_of _ _ _ _ _ _ (fun hg=>?_) (fun hg=>?_)) | (refine GuardD_of _ _ _ _ (fun hg=>?_) (fun hg=>?_)) | (refine CondB_of _ _ _ _ _ _ _ ?_ (fun hg=>?_) (fun hg=>?_)))
  all_goals (try (first | ((first | unfold noN | unfold Fr.below | unfold Loc.below);simp [Fr.allN,AV.allN,AV.allNL,AO.allN];done) | rfl | trivial | assumption | (intro row hrow;simp only [List.mem_map] at hrow;obtain ⟨x,_,rfl⟩:=hrow;rfl) | (refine Wk.keep hcl ?_ ?_ ?_;(focus (simp [Fr.get,RowD.row,bne_self_eq_false,beq_self_eq_true,feqW,Bool.and_self]<;>fail));(focus (simp [sto,RowD.row,bne_self_eq_false,beq_self_eq_true,feqW,Bool.and_self]<;>fail));(focus (simp<;>fail))) | (simp [allP,opd,Fr.get,Fr.below,Fr.allN,AV.allN,AV.allNL,Loc.below,AO.allN,noN,killO,killT,killD,mkNames,AO.kill,AV.kill,AV.mapN,AV.mapNL];done) | (with_reducible exact ltD (by assumption)) | omega | (simp only [decide_eq_true_eq,decide_eq_false_iff_not] at *;omega)))
end Go.Proofs.Ytikgiadbkjmabaa
