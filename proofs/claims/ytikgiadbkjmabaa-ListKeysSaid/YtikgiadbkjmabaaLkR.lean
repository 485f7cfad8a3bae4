/- The reference's sortedVersions. -/
import Derived.Test.YtikgiadbkjmabaaLkO
import Derived.Test.YtikgiadbkjmabaaIdx
import Derived.Test.YtikgiadbkjmabaaNm
import Derived.Test.YtikgiadbkjmabaaTypes
namespace Go.Proofs.Ytikgiadbkjmabaa
open Go.RowKit
set_option maxRecDepth 100000
def o35_1:List SO:=((SO.mk (some 17) (.pick (.tmp 10) (.tmp 16) (.const (Value.bool false))) none) :: (SO.mk (some 4) (.move (.tmp 17)) none) :: [])
theorem v35_1:type_of% (@swl _ _ o35_1.eq_1):=@swl _ _ o35_1.eq_1
def o35_2:List SO:=((SO.mk (some 13) (.len 9 (.tmp 12)) (some (10 ,true))) :: (SO.mk (some 14) (.slice 9 (.tmp 11) none (some (.tmp 13))) (some (10 ,true))) :: (SO.mk (some 15) (.move (.tmp 1)) (some (10 ,true))) :: (SO.mk (some 16) (.bin .eql 9 (.tmp 14) (.tmp 15)) (some (10 ,true))) :: o35_1)
theorem v35_2:type_of% (@swl _ _ o35_2.eq_1):=@swl _ _ o35_2.eq_1
def o35_3:List SO:=((SO.mk (some 9) (.bin .geq 3 (.tmp 6) (.tmp 8)) none) :: (SO.mk (some 10) (.move (.tmp 9)) none) :: (SO.mk (some 11) (.move (.tmp 0)) (some (10 ,true))) :: (SO.mk (some 12) (.move (.tmp 1)) (some (10 ,true))) :: o35_2)
theorem v35_3:type_of% (@swl _ _ o35_3.eq_1):=@swl _ _ o35_3.eq_1
def c35_4:SC:=(.seq (.reg ((SO.mk (some 5) (.move (.tmp 0)) none) :: (SO.mk (some 6) (.len 9 (.tmp 5)) none) :: (SO.mk (some 7) (.move (.tmp 1)) none) :: (SO.mk (some 8) (.len 9 (.tmp 7)) none) :: o35_3)) (.keep [4] .ret))
theorem u35_4:type_of% (@swc _ _ c35_4.eq_1):=@swc _ _ c35_4.eq_1
def c35:SC:=(.seq (.reg [SO.mk (some 4) (.move (.const (Value.bool false))) none]) (.keep [0,1] c35_4))
theorem c35_eq:annC Try.f35 = some c35:=by kernel_rfl
theorem r35:Try.f35.results.toList = [.tmp 4]:=by kernel_rfl
theorem e35:enters Try.prog 35 = true:=by kernel_rfl
def c15_1:SC:=(.cond (.tmp 17) .skip (.exit 0))
theorem u15_1:type_of% (@swc _ _ c15_1.eq_1):=@swc _ _ c15_1.eq_1
def o15_2:List SO:=((SO.mk (some 24) (.load 41 (.tmp 23)) none) :: (SO.mk (some 9) (.alloc 41) none) :: (SO.mk none (.store 41 (.tmp 9) (.tmp 24)) none) :: [])
theorem v15_2:type_of% (@swl _ _ o15_2.eq_1):=@swl _ _ o15_2.eq_1
def o15_3:List SO:=((SO.mk (some 33) (.call 35 [(.tmp 31),(.tmp 32)]) (some (29 ,false))) :: (SO.mk (some 34) (.un .not (.tmp 33)) (some (29 ,false))) :: (SO.mk (some 35) (.pick (.tmp 29) (.const (Value.bool true)) (.tmp 34)) none) :: [])
theorem v15_3:type_of% (@swl _ _ o15_3.eq_1):=@swl _ _ o15_3.eq_1
def o15_4:List SO:=((SO.mk (some 29) (.move (.tmp 28)) none) :: (SO.mk (some 30) (.faddr 41 (.tmp 9) 2) (some (29 ,false))) :: (SO.mk (some 31) (.load 9 (.tmp 30)) (some (29 ,false))) :: (SO.mk (some 32) (.move (.tmp 2)) (some (29 ,false))) :: o15_3)
theorem v15_4:type_of% (@swl _ _ o15_4.eq_1):=@swl _ _ o15_4.eq_1
def c15_5:SC:=(.cond (.tmp 35) (.exit 1) .skip)
theorem u15_5:type_of% (@swc _ _ c15_5.eq_1):=@swc _ _ c15_5.eq_1
def c15_6:SC:=(.cond (.tmp 39) .skip (.exit 2))
theorem u15_6:type_of% (@swc _ _ c15_6.eq_1):=@swc _ _ c15_6.eq_1
def o15_7:List SO:=((SO.mk (some 50) (.faddr 41 (.tmp 9) 2) (some (44 ,true))) :: (SO.mk (some 51) (.load 9 (.tmp 50)) (some (44 ,true))) :: (SO.mk (some 52) (.bin .geq 9 (.tmp 49) (.tmp 51)) (some (44 ,true))) :: (SO.mk (some 53) (.pick (.tmp 44) (.tmp 52) (.const (Value.bool false))) none) :: [])
theorem v15_7:type_of% (@swd _ _ o15_7.eq_1):=@swd _ _ o15_7.eq_1
def o15_8:List SO:=((SO.mk (some 46) (.move (.tmp 12)) (some (44 ,true))) :: (SO.mk (some 47) (.iaddr 23 (.tmp 45) (.tmp 46)) (some (44 ,true))) :: (SO.mk (some 48) (.faddr 41 (.tmp 47) 2) (some (44 ,true))) :: (SO.mk (some 49) (.load 9 (.tmp 48)) (some (44 ,true))) :: o15_7)
theorem v15_8:type_of% (@swd _ _ o15_8.eq_1):=@swd _ _ o15_8.eq_1
def o15_9:List SO:=((SO.mk (some 42) (.move (.tmp 11)) none) :: (SO.mk (some 43) (.un .not (.tmp 42)) none) :: (SO.mk (some 44) (.move (.tmp 43)) none) :: (SO.mk (some 45) (.move (.tmp 7)) (some (44 ,true))) :: o15_8)
theorem v15_9:type_of% (@swd _ _ o15_9.eq_1):=@swd _ _ o15_9.eq_1
theorem m15_9 (B:Nat):mkNames B o15_9 = []:=(rfl)
def c15_10:SC:=(.seq (.reg [SO.mk (some 54) (.move (.tmp 10)) none,SO.mk (some 55) (.load 41 (.tmp 9)) none,SO.mk (some 56) (.bslice 23 1 [(0 ,(.tmp 55))]) none,SO.mk (some 57) (.app 23 23 (.tmp 54) (.tmp 56)) none,SO.mk (some 10) (.move (.tmp 57)) none]) (.keep [10,12,7,9,8,2,1,3] (.reg [SO.mk (some 11) (.move (.const (Value.bool true))) none])))
theorem u15_10:type_of% (@swc _ _ c15_10.eq_1):=@swc _ _ c15_10.eq_1
def c15_11:SC:=(.cond (.tmp 53) c15_10 .skip)
theorem u15_11:type_of% (@swc _ _ c15_11.eq_1):=@swc _ _ c15_11.eq_1
def o15_12:List SO:=((SO.mk (some 62) (.load 41 (.tmp 61)) none) :: (SO.mk (some 63) (.bslice 23 1 [(0 ,(.tmp 62))]) none) :: (SO.mk (some 64) (.app 23 23 (.tmp 58) (.tmp 63)) none) :: (SO.mk (some 10) (.move (.tmp 64)) none) :: [])
theorem v15_12:type_of% (@swl _ _ o15_12.eq_1):=@swl _ _ o15_12.eq_1
def c15_13:SC:=(.reg ((SO.mk (some 58) (.move (.tmp 10)) none) :: (SO.mk (some 59) (.move (.tmp 7)) none) :: (SO.mk (some 60) (.move (.tmp 12)) none) :: (SO.mk (some 61) (.iaddr 23 (.tmp 59) (.tmp 60)) none) :: o15_12))
theorem u15_13:type_of% (@swc _ _ c15_13.eq_1):=@swc _ _ c15_13.eq_1
def c15_14:SC:=(.reg [SO.mk (some 40) (.move (.tmp 12)) none,SO.mk (some 41) (.bin .add 3 (.tmp 40) (.const (Value.int .i64 1))) none,SO.mk (some 12) (.move (.tmp 41)) none])
theorem u15_14:type_of% (@swc _ _ c15_14.eq_1):=@swc _ _ c15_14.eq_1
def c15_15:SC:=(.seq (.block 3 (.seq (.seq (.dreg false o15_9 []) (.keep [53,10,12,7,11,9,8,2,1,3] c15_11)) (.keep [10,12,7,11,9,8,2,1,3] c15_13))) (.keep [12,7,11,9,10,8,2,1,3] c15_14))
theorem u15_15:type_of% (@swc _ _ c15_15.eq_1):=@swc _ _ c15_15.eq_1
def c15_16:SC:=(.seq (.seq (.reg [SO.mk (some 36) (.move (.tmp 12)) none,SO.mk (some 37) (.move (.tmp 7)) none,SO.mk (some 38) (.len 23 (.tmp 37)) none,SO.mk (some 39) (.bin .lss 3 (.tmp 36) (.tmp 38)) none]) (.keep [39,7,12,11,9,10,8,2,1,3] c15_6)) (.keep [10,12,7,11,9,8,2,1,3] c15_15))
theorem u15_16:type_of% (@swc _ _ c15_16.eq_1):=@swc _ _ c15_16.eq_1
def c15_17:SC:=(.block 2 (.loop (.keep [7,12,11,9,10,8,2,1,3] c15_16)))
theorem u15_17:type_of% (@swc _ _ c15_17.eq_1):=@swc _ _ c15_17.eq_1
def c15_18:SC:=(.reg [SO.mk (some 67) (.move (.tmp 10)) none,SO.mk (some 68) (.load 41 (.tmp 9)) none,SO.mk (some 69) (.bslice 23 1 [(0 ,(.tmp 68))]) none,SO.mk (some 70) (.app 23 23 (.tmp 67) (.tmp 69)) none,SO.mk (some 10) (.move (.tmp 70)) none])
theorem u15_18:type_of% (@swc _ _ c15_18.eq_1):=@swc _ _ c15_18.eq_1
def c15_19:SC:=(.cond (.tmp 66) c15_18 .skip)
theorem u15_19:type_of% (@swc _ _ c15_19.eq_1):=@swc _ _ c15_19.eq_1
def c15_20:SC:=(.reg [SO.mk (some 71) (.move (.tmp 10)) none,SO.mk (some 7) (.move (.tmp 71)) none])
theorem u15_20:type_of% (@swc _ _ c15_20.eq_1):=@swc _ _ c15_20.eq_1
def c15_21:SC:=(.seq (.seq (.reg [SO.mk (some 65) (.move (.tmp 11)) none,SO.mk (some 66) (.un .not (.tmp 65)) none]) (.keep [66,9,10,8,2,1,3] c15_19)) (.keep [10,8,2,1,3] c15_20))
theorem u15_21:type_of% (@swc _ _ c15_21.eq_1):=@swc _ _ c15_21.eq_1
def c15_22:SC:=(.seq (.seq (.reg [SO.mk (some 12) (.move (.const (Value.int .i64 0))) none]) (.keep [7,12,11,9,10,8,2,1,3] c15_17)) (.keep [11,9,10,8,2,1,3] c15_21))
theorem u15_22:type_of% (@swc _ _ c15_22.eq_1):=@swc _ _ c15_22.eq_1
def c15_23:SC:=(.seq (.reg [SO.mk (some 11) (.move (.const (Value.bool false))) none]) (.keep [7,11,9,10,8,2,1,3] c15_22))
theorem u15_23:type_of% (@swc _ _ c15_23.eq_1):=@swc _ _ c15_23.eq_1
def c15_24:SC:=(.seq (.reg [SO.mk (some 10) (.move (.const (Value.slice none 0 0))) none]) (.keep [7,9,10,8,2,1,3] c15_23))
theorem u15_24:type_of% (@swc _ _ c15_24.eq_1):=@swc _ _ c15_24.eq_1
def c15_25:SC:=(.seq (.seq (.reg ((SO.mk (some 25) (.faddr 41 (.tmp 9) 1) none) :: (SO.mk (some 26) (.load 9 (.tmp 25)) none) :: (SO.mk (some 27) (.move (.tmp 1)) none) :: (SO.mk (some 28) (.bin .neq 9 (.tmp 26) (.tmp 27)) none) :: o15_4)) (.keep [35,7,9,8,2,1,3] c15_5)) (.keep [7,9,8,2,1,3] c15_24))
theorem u15_25:type_of% (@swc _ _ c15_25.eq_1):=@swc _ _ c15_25.eq_1
def c15_26:SC:=(.reg [SO.mk (some 18) (.move (.tmp 8)) none,SO.mk (some 19) (.bin .add 3 (.tmp 18) (.const (Value.int .i64 1))) none,SO.mk (some 8) (.move (.tmp 19)) none])
theorem u15_26:type_of% (@swc _ _ c15_26.eq_1):=@swc _ _ c15_26.eq_1
def c15_27:SC:=(.seq (.block 1 (.seq (.reg ((SO.mk (some 20) (.faddr 28 (.tmp 3) 3) none) :: (SO.mk (some 21) (.load 23 (.tmp 20)) none) :: (SO.mk (some 22) (.move (.tmp 8)) none) :: (SO.mk (some 23) (.iaddr 23 (.tmp 21) (.tmp 22)) none) :: o15_2)) (.keep [7,9,8,2,1,3] c15_25))) (.keep [8,2,1,3,7] c15_26))
theorem u15_27:type_of% (@swc _ _ c15_27.eq_1):=@swc _ _ c15_27.eq_1
def c15_28:SC:=(.seq (.seq (.reg [SO.mk (some 13) (.move (.tmp 8)) none,SO.mk (some 14) (.faddr 28 (.tmp 3) 3) none,SO.mk (some 15) (.load 23 (.tmp 14)) none,SO.mk (some 16) (.len 23 (.tmp 15)) none,SO.mk (some 17) (.bin .lss 3 (.tmp 13) (.tmp 16)) none]) (.keep [17,3,1,2,8,7] c15_1)) (.keep [7,8,2,1,3] c15_27))
theorem u15_28:type_of% (@swc _ _ c15_28.eq_1):=@swc _ _ c15_28.eq_1
def c15_29:SC:=(.block 0 (.loop (.keep [3,1,2,8,7] c15_28)))
theorem u15_29:type_of% (@swc _ _ c15_29.eq_1):=@swc _ _ c15_29.eq_1
def c15_30:SC:=(.seq (.reg [SO.mk (some 72) (.move (.tmp 7)) none,SO.mk (some 6) (.move (.tmp 72)) none]) (.keep [6] .ret))
theorem u15_30:type_of% (@swc _ _ c15_30.eq_1):=@swc _ _ c15_30.eq_1
def c15_31:SC:=(.seq (.seq (.reg [SO.mk (some 8) (.move (.const (Value.int .i64 0))) none]) (.keep [3,1,2,8,7] c15_29)) (.keep [7] c15_30))
theorem u15_31:type_of% (@swc _ _ c15_31.eq_1):=@swc _ _ c15_31.eq_1
def c15_32:SC:=(.seq (.reg [SO.mk (some 7) (.move (.const (Value.slice none 0 0))) none]) (.keep [3,1,2,7] c15_31))
theorem u15_32:type_of% (@swc _ _ c15_32.eq_1):=@swc _ _ c15_32.eq_1
def c15:SC:=(.seq (.reg [SO.mk (some 3) (.box 28 (.tmp 0)) none,SO.mk (some 6) (.move (.const (Value.slice none 0 0))) none]) (.keep [3,1,2] c15_32))
theorem c15_eq:annC Try.f15 = some c15:=by kernel_rfl
theorem r15:Try.f15.results.toList = [.tmp 6]:=by kernel_rfl
theorem e15:enters Try.prog 15 = true:=by kernel_rfl
end Go.Proofs.Ytikgiadbkjmabaa
namespace Go.Proofs.Ytikgiadbkjmabaa
open Go.RowKit
set_option maxHeartbeats 4000000
set_option maxRecDepth 20000
attribute [local irreducible] SW OSW SWL SWLn SWD SEcall SEcallv SDv SE SO1 SOg ACalls ACallv Wk EndV
set_option linter.unusedSimpArgs false
set_option linter.unusedVariables false
theorem begins_p (s p:ByteArray):Pure Try.prog 35 [.d (.v (.string s)),.d (.v (.string p))] (Bo (preB s p)):=by
  refine pure_of follows Try.func35 c35_eq r35 (Nat.le_of_ble_eq_true rfl) fun B σ hcl hsz=>?_
  clear hsz
  repeat' (first | (simp -implicitDefEqProofs only [*,Nat.reduceBEq,↓reduceIte,Nat.reduceEqDiff,Nat.reduceAdd,reduceCtorEq,AO.kill,Int.reduceLT,Int.reduceToNat,List.getElem?_nil,Nat.reduceMul,Nat.reducePow,Nat.reduceLeDiff,rowOf_mapD,rowOf_mapI,rowOf_mapA,List.getElem?_cons_zero,List.getElem?_cons_succ,take_map_len,take_map_app,List.getElem?_cons_zero,c35,r35,v35_1,v35_2,v35_3,u35_4,ty9,ty3,bnd,sliceV,Option.getD_some,Option.getD_none,mvcgen_simp]) | (with_reducible refine And.intro ?_ ?_) | (refine EndX.plain ?_) | (refine nil_split (fun hn=>?_) (fun hn=>?_)) | (refine gcall_no not_false ?_) | (refine gdcall_no not_false ?_) | (refine GuardS_of _ _ _ _ _ _ (fun hg=>?_) (fun hg=>?_)) | (refine GuardD_of _ _ _ _ (fun hg=>?_) (fun hg=>?_)) | (refine CondB_of _ _ _ _ _ _ _ ?_ (fun hg=>?_) (fun hg=>?_)))
  all_goals (try (first | ((first | unfold noN | unfold Fr.below | unfold Loc.below);simp [Fr.allN,AV.allN,AV.allNL,AO.allN];done) | rfl | trivial | assumption | (intro row hrow;simp only [List.mem_map] at hrow;obtain ⟨x,_,rfl⟩:=hrow;rfl) | (refine Wk.keep hcl ?_ ?_ ?_;(focus (simp [Fr.get,bnd,sliceV,Option.getD_some,Option.getD_none]<;>fail));(focus (simp [sto,bnd,sliceV,Option.getD_some,Option.getD_none]<;>fail));(focus (simp<;>fail))) | (simp [allP,opd,Fr.get,Fr.below,Fr.allN,AV.allN,AV.allNL,Loc.below,AO.allN,noN,killO,killT,killD,mkNames,AO.kill,AV.kill,AV.mapN,AV.mapNL];done) | (with_reducible exact ltD (by assumption)) | omega | (simp only [decide_eq_true_eq,decide_eq_false_iff_not] at *;omega)))
  all_goals (try (simp only [decide_eq_true_eq] at hg;omega))
  all_goals (simp only [preB, *,Bool.false_or,Bool.true_or,Bool.or_true,Bool.or_false,Bool.and_true,Bool.true_and,Bool.false_and,Bool.and_false,Bool.not_true,Bool.not_false,cond_true,cond_false])
def stI (v:VerD) (r:Bool × List VerD) (o:VerD):Bool × List VerD:=bif !r.1 && !Op.bytesLess o.key.toList v.key.toList then (true,r.2 ++ [v,o]) else (r.1,r.2 ++ [o])
def iK (v:VerD) (l:List VerD) (k:Nat):Bool × List VerD:=(l.take k).foldl (stI v) (false,[])
theorem iK_0 (v:VerD) (l:List VerD):iK v l 0 = (false,[]):=rfl
theorem iK_s (v:VerD) (l:List VerD) (k:Nat) (h:k < l.length):iK v l (k + 1) = stI v (iK v l k) l[k]!:=by
  unfold iK
  rw [List.take_add_one,List.getElem?_eq_getElem h,List.foldl_append]
  simp [h]
theorem stI_1 (v:VerD) (l:List VerD):∀ acc,l.foldl (stI v) (true,acc) = (true,acc ++ l):=by
  induction l with
  | nil=>intro acc;simp
  | cons o l ih=>intro acc;rw [List.foldl_cons];simp only [stI,Bool.not_true,Bool.false_and,cond_false];rw [ih];simp
theorem stI_0 (v:VerD) (l:List VerD):∀ acc,(bif (l.foldl (stI v) (false,acc)).1 then (l.foldl (stI v) (false,acc)).2 else (l.foldl (stI v) (false,acc)).2 ++ [v]) = acc ++ insR v l:=by
  induction l with
  | nil=>intro acc;simp [insR]
  | cons o l ih =>
    intro acc
    rw [List.foldl_cons]
    unfold insR
    rw [← ByteArray.toList_eq,← ByteArray.toList_eq]
    cases h:Op.bytesLess o.key.toList v.key.toList
    · have e:stI v (false,acc) o = (true,acc ++ [v,o]):=by simp [stI,h]
      rw [e,stI_1];simp
    · have e:stI v (false,acc) o = (false,acc ++ [o]):=by simp [stI,h]
      rw [e,ih];simp
theorem iK_end (v:VerD) (l:List VerD):(bif (iK v l l.length).1 then (iK v l l.length).2 else (iK v l l.length).2 ++ [v]) = insR v l:=by
  have:=stI_0 v l []
  unfold iK
  rw [List.take_length]
  simpa using this
theorem iK_len (v:VerD) (l:List VerD):∀ k,k ≤ l.length → (iK v l k).2.length = k + (bif (iK v l k).1 then 1 else 0)
  | 0,_=>rfl
  | k + 1,h=>by
    have ih:=iK_len v l k (by omega)
    rw [iK_s v l k (by omega)]
    unfold stI
    generalize iK v l k = r at ih ⊢
    obtain ⟨p,m⟩:=r
    cases p<;>cases Op.bytesLess l[k]!.key.toList v.key.toList<;>simp at ih ⊢<;>omega
theorem iK_le (v:VerD) (l:List VerD) (k:Nat) (h:k ≤ l.length):(iK v l k).2.length ≤ k + 1 ∧ ((iK v l k).1 = false → (iK v l k).2.length = k):=by
  have:=iK_len v l k h
  cases hp:(iK v l k).1<;>rw [hp] at this
  · exact ⟨by simp at this;omega,fun _=>by simpa using this⟩
  · exact ⟨by simp at this;omega,fun h=>by cases h⟩
def oK (l:List VerD) (name pre:ByteArray) (k:Nat):List VerD:=srtR ((l.take k).filter fun v=>!skipV name pre v)
theorem oK_0 (l:List VerD) (name pre:ByteArray):oK l name pre 0 = []:=rfl
theorem oK_skip {l:List VerD} {name pre:ByteArray} {k:Nat} (h:k < l.length) (hs:skipV name pre l[k]! = true):oK l name pre (k + 1) = oK l name pre k:=by
  unfold oK
  rw [take_next h,List.filter_append]
  generalize l[k]! = v at hs
  simp [hs]
theorem oK_put {l:List VerD} {name pre:ByteArray} {k:Nat} (h:k < l.length) (hs:skipV name pre l[k]! = false):oK l name pre (k + 1) = insR l[k]! (oK l name pre k):=by
  unfold oK srtR
  rw [take_next h,List.filter_append]
  generalize l[k]! = v at hs
  simp [hs]
theorem insR_len (v:VerD) (l:List VerD):(insR v l).length = l.length + 1:=by simpa using (insR_perm v l).length_eq
theorem oK_len (l:List VerD) (name pre:ByteArray):∀ k,k ≤ l.length → (oK l name pre k).length ≤ k
  | 0,_=>Nat.le_refl _
  | k + 1,h=>by
    have ih:=oK_len l name pre k (by omega)
    cases hs:skipV name pre l[k]!
    · rw [oK_put (by omega) hs,insR_len];omega
    · rw [oK_skip (by omega) hs];omega
theorem takeM {α:Type} (f:α → List RV) (l:List α) (x:List RV):List.take (l.length + 1) (l.map f ++ [x]) = l.map f ++ [x]:=List.take_of_length_le (by simp)
theorem ref_next {B:Nat} {σ:Sto} (hcl:ClosedS B σ) {a:Fr} {l:Loc} {X:List VerD} {C:List AV} {v1 v2 v8:AV} (h3:a.get 3 = .lp (B + 3) 0) (h1:a.get 1 = v1) (h2:a.get 2 = v2) (h8:a.get 8 = v8) (h7:a.get 7 = .os (B + 10) X.length) (g10:sto l σ (B + 10) = .arr 12 41 (X.map VerD.row)) (g3:sto l σ (B + 3) = .box C) (h4:∀ p ∈ l,B ≤ p.1) (hC:(AO.box C).kill (B + 7) = .box C) (k1:AV.ren (B + 10) (B + 7) v1 = v1) (k2:AV.ren (B + 10) (B + 7) v2 = v2) (k8:AV.ren (B + 10) (B + 7) v8 = v8) :
    Wk B [] σ a l [(3,.lp (B + 3) 0),(1,v1),(2,v2),(8,v8),(7,.os (B + 7) X.length)] [(B + 3,.box C),(B + 7,.arr 12 41 (X.map VerD.row))]:=by
  refine (Wk.keep (a':=[(3,.lp (B + 3) 0),(1,v1),(2,v2),(8,v8),(7,.os (B + 10) X.length)]) (l':=[(B + 10,.arr 12 41 (X.map VerD.row)),(B + 3,.box C)]) hcl (by simp [h3,h1,h2,h8,h7]) (by simp [g10,g3]) (fun p hp=>.inr (h4 p hp))).trans ?_
  refine (Wk.ren (n:=B + 10) (m:=B + 7) (l1:=[(B + 3,.box C)]) (k:=12) (E:=41) (rows:=X.map VerD.row) hcl (by omega) (by omega) (.inl (by omega)) (fun x=>AO.kill_below (q:=fun m=>decide (m < B)) (by simp) _ (hcl x).1) (by simp [sto]) (by simp [sto,hC]) (by simp)).trans ?_
  refine Wk.keep hcl ?_ (by simp [sto]) (by simp)
  simp [Fr.get,Fr.map,k1,k2,k8]
  simp [AV.ren,AV.mapN]
theorem sorted_p (s:SttD) (hw:s.vers.length * 120 ≤ 2 ^ 47) (name pre:ByteArray):Pure Try.prog 15 [s.av,.d (.v (.string name)),.d (.v (.string pre))] (.d (.ro ((oK s.vers name pre s.vers.length).map VerD.row))):=by
  refine pureZ_of follows Try.func15 c15_eq r15 (Nat.le_of_ble_eq_true rfl) fun B σ hcl hsz=>?_
  obtain ⟨z1,z2,z3,z4,z5⟩:=st_sz5 (hsz s.av (by simp))
  clear hsz
  repeat' (first | (simp -implicitDefEqProofs only [*,Nat.reduceBEq,↓reduceIte,Nat.reduceEqDiff,Nat.reduceAdd,reduceCtorEq,AO.kill,Int.reduceLT,Int.reduceToNat,List.getElem?_nil,Nat.reduceMul,Nat.reducePow,Nat.reduceLeDiff,rowOf_mapD,rowOf_mapI,rowOf_mapA,List.getElem?_cons_zero,List.getElem?_cons_succ,take_map_len,take_map_app,List.getElem?_cons_zero,c15,r15,u15_1,v15_2,v15_3,v15_4,u15_5,u15_6,v15_7,v15_8,v15_9,m15_9,u15_10,u15_11,v15_12,u15_13,u15_14,u15_15,u15_16,u15_17,u15_18,u15_19,u15_20,u15_21,u15_22,u15_23,u15_24,u15_25,u15_26,u15_27,u15_28,u15_29,u15_30,u15_31,u15_32,ty28,ty23,ty3,ty41,ty9,SttD.av,SttD.cells,VerD.row,ints,oK_0,iK_0,takeM,mvcgen_simp]) | (with_reducible refine And.intro ?_ ?_) | (refine call_ro e35 ( begins_p (s.vers[i]!).key pre) rfl ?_ ?_ ?_ ?_) | (refine gcall_ro e35 ( begins_p (s.vers[i]!).key pre) rfl ?_ ?_ ?_ ?_) | (refine dcall_ro e35 ( begins_p (s.vers[i]!).key pre) rfl ?_ ?_ ?_ ?_) | (refine gdcall_ro rfl e35 ( begins_p (s.vers[i]!).key pre) rfl ?_ ?_ ?_ ?_) | (refine loop_nat (s.vers.length) (fun _=>True) (fun i=>[(3,.lp (B + 3) 0),(1,.d (.v (.string name))),(2,.d (.v (.string pre))),(8,I i),(7,.os (B + 7) (oK s.vers name pre i).length)]) (fun i=>[(B + 3,.box s.cells),(B + 7,.arr 12 41 ((oK s.vers name pre i).map VerD.row))]) ?_ (Wk.trans (Wk.nameF (s:=7) (n:=B + 7) (k:=12) (E:=41) rfl (by omega) (.inl (by omega)) (fun m=>AO.kill_below (q:=fun m=>decide (m < B)) (by simp) _ (hcl m).1)) (Wk.keep hcl ?_ ?_ ?_)) fun i hi hFi=>?_;rotate_left 1;(focus (simp [Fr.get,newF,Fr.map,AV.kill,AV.mapN,SttD.av,SttD.cells,VerD.row,ints,oK_0,iK_0,takeM]<;>fail));(focus (simp [sto,newL,Loc.kill,Loc.set,AO.kill,AV.kill,AV.mapN,SttD.av,SttD.cells,VerD.row,ints,oK_0,iK_0,takeM]<;>fail));(focus (simp [newL,Loc.kill,Loc.set,SttD.av,SttD.cells,VerD.row,ints,oK_0,iK_0,takeM]<;>fail));(try have hwi:IntKind.i64.wrap ((i:Int) + 1) = (i:Int) + 1:=IntWalk.i64_in _ (by omega))) | (refine loop_nat ((oK s.vers name pre i).length) (fun _=>True) (fun k=>[(7,.os (B + 7) (oK s.vers name pre i).length),(12,I k),(11,Bo (iK s.vers[i]! (oK s.vers name pre i) k).1),(9,.lp (B + 9) 0),(10,.os (B + 10) (iK s.vers[i]! (oK s.vers name pre i) k).2.length),(8,I i),(2,.d (.v (.string pre))),(1,.d (.v (.string name))),(3,.lp (B + 3) 0)]) (fun k=>[(B + 7,.arr 12 41 ((oK s.vers name pre i).map VerD.row)),(B + 9,.box ((s.vers[i]!).row.map .d)),(B + 10,.arr 12 41 ((iK s.vers[i]! (oK s.vers name pre i) k).2.map VerD.row)),(B + 3,.box s.cells)]) ?_ (Wk.trans (Wk.nameF (s:=10) (n:=B + 10) (k:=12) (E:=41) rfl (by omega) (.inl (by omega)) (fun m=>AO.kill_below (q:=fun m=>decide (m < B)) (by simp) _ (hcl m).1)) (Wk.keep hcl ?_ ?_ ?_)) fun k hk hF=>?_;rotate_left 1;(focus (simp [Fr.get,newF,Fr.map,AV.kill,AV.mapN,SttD.av,SttD.cells,VerD.row,ints,oK_0,iK_0,takeM]<;>fail));(focus (simp [sto,newL,Loc.kill,Loc.set,AO.kill,AV.kill,AV.mapN,SttD.av,SttD.cells,VerD.row,ints,oK_0,iK_0,takeM]<;>fail));(focus (simp [newL,Loc.kill,Loc.set,SttD.av,SttD.cells,VerD.row,ints,oK_0,iK_0,takeM]<;>fail));(try have hw:IntKind.i64.wrap ((k:Int) + 1) = (k:Int) + 1:=IntWalk.i64_in _ (by omega))) | (refine EndX.plain ?_) | (refine nil_split (fun hn=>?_) (fun hn=>?_)) | (refine gcall_no not_false ?_) | (refine gdcall_no not_false ?_) | (refine GuardS_of _ _ _ _ _ _ (fun hg=>?_) (fun hg=>?_)) | (refine GuardD_of _ _ _ _ (fun hg=>?_) (fun hg=>?_)) | (refine CondB_of _ _ _ _ _ _ _ ?_ (fun hg=>?_) (fun hg=>?_)))
  all_goals (try (first | ((first | unfold noN | unfold Fr.below | unfold Loc.below);simp [Fr.allN,AV.allN,AV.allNL,AO.allN];done) | rfl | trivial | assumption | (intro row hrow;simp only [List.mem_map] at hrow;obtain ⟨x,_,rfl⟩:=hrow;rfl) | (refine Wk.keep hcl ?_ ?_ ?_;(focus (simp [Fr.get,SttD.av,SttD.cells,VerD.row,ints,oK_0,iK_0,takeM]<;>fail));(focus (simp [sto,SttD.av,SttD.cells,VerD.row,ints,oK_0,iK_0,takeM]<;>fail));(focus (simp<;>fail))) | (simp [allP,opd,Fr.get,Fr.below,Fr.allN,AV.allN,AV.allNL,Loc.below,AO.allN,noN,killO,killT,killD,mkNames,AO.kill,AV.kill,AV.mapN,AV.mapNL];done) | (with_reducible exact ltD (by assumption)) | omega | (simp only [decide_eq_true_eq,decide_eq_false_iff_not] at *;omega)))
  all_goals (try (
    have hi':i = s.vers.length:=Nat.le_antisymm hi (geD (by assumption))
    rw [hi'];done))
  all_goals (have q3:i < s.vers.length:=ltD (by assumption))
  all_goals (have q2:=oK_len s.vers name pre i hi)
  all_goals (try (
    have hsk:skipV name pre s.vers[i]! = true:=by
      have hh:=hg
      simp only [Bool.not_eq_true'] at hh
      simp only [skipV,hh,Bool.false_or,Bool.true_or,Bool.or_true,Bool.or_false,Bool.and_true,Bool.true_and,Bool.false_and,Bool.and_false,Bool.not_true,Bool.not_false,cond_true,cond_false]
    rw [oK_skip q3 hsk]
    refine Wk.keep hcl ?_ ?_ ?_<;>simp [Fr.get,sto]
    done))
  all_goals (have q1:=iK_le s.vers[i]! (oK s.vers name pre i) k hk)
  all_goals (
    have hsk:skipV name pre s.vers[i]! = false:=by
      have hh1:(!s.vers[i]!.bkt.toList == name.toList) = false:=by assumption
      have hh2:(!preB s.vers[i]!.key pre) = false:=by assumption
      simp only [skipV,hh1,hh2,Bool.false_or,Bool.true_or,Bool.or_true,Bool.or_false,Bool.and_true,Bool.true_and,Bool.false_and,Bool.and_false,Bool.not_true,Bool.not_false,cond_true,cond_false])
  all_goals (try (have q4:k < (oK s.vers name pre i).length:=ltD (by assumption)))
  all_goals (try (have q5:k = (oK s.vers name pre i).length:=Nat.le_antisymm hk (geD (by assumption))))
  all_goals (try (have q6:(iK s.vers[i]! (oK s.vers name pre i) k).1 = false:=by simpa using (by assumption:(!(iK s.vers[i]! (oK s.vers name pre i) k).1) = true)))
  all_goals (try (have q6:(iK s.vers[i]! (oK s.vers name pre i) k).1 = true:=by simpa using (by assumption:(!(iK s.vers[i]! (oK s.vers name pre i) k).1) = false)))
  all_goals (try (have q7:=q1.2 q6))
  all_goals (try (simp only [List.length_append,List.length_map,List.length_cons,List.length_nil];omega))
  all_goals (try omega)
  all_goals (try (
    have q8:=iK_end s.vers[i]! (oK s.vers name pre i)
    rw [← q5,q6] at q8
    simp only [cond_true,cond_false] at q8
    rw [oK_put q3 hsk,← q8]
    refine ref_next hcl (by simp [Fr.get]) (by simp [Fr.get]) (by simp [Fr.get]) (by simp [Fr.get]) (by simp [Fr.get]) (by simp [sto,VerD.row,ints]) (by simp [sto]) (by simp) (by simp [AO.kill,AV.kill,AV.mapN]) rfl rfl rfl
    done))
  all_goals (try (
    have hw:IntKind.i64.wrap ((k:Int) + 1) = ((k + 1:Nat):Int):=(IntWalk.i64_in _ (by omega)).trans (by omega)
    rw [hw,iK_s _ _ _ q4]
    unfold stI
    simp only [*,Bool.false_or,Bool.true_or,Bool.or_true,Bool.or_false,Bool.and_true,Bool.true_and,Bool.false_and,Bool.and_false,Bool.not_true,Bool.not_false,cond_true,cond_false]
    refine Wk.keep hcl ?_ ?_ ?_<;>first | (simp [Fr.get,sto,VerD.row,ints,takeM];done) | (simp [Fr.get,sto,VerD.row,ints,takeM];simpa using q7)
    done))
end Go.Proofs.Ytikgiadbkjmabaa
