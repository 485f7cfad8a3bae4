/- Places in lists. -/
import Derived.Test.YtikgiadbkjmabaaStD
import Derived.Test.YtikgiadbkjmabaaTypes
namespace Go.Proofs.Ytikgiadbkjmabaa
open Go.RowKit
set_option maxRecDepth 100000
def o97_1:List SO:=((SO.mk (some 15) (.load 3 (.tmp 14)) none) :: (SO.mk (some 16) (.bin .eql 3 (.tmp 11) (.tmp 15)) none) :: [])
theorem v97_1:type_of% (@swl _ _ o97_1.eq_1):=@swl _ _ o97_1.eq_1
def c97_2:SC:=(.seq (.reg [SO.mk (some 17) (.move (.tmp 5)) none,SO.mk (some 4) (.move (.tmp 17)) none]) (.keep [4] .ret))
theorem u97_2:type_of% (@swc _ _ c97_2.eq_1):=@swc _ _ c97_2.eq_1
def c97_3:SC:=(.cond (.tmp 16) c97_2 .skip)
theorem u97_3:type_of% (@swc _ _ c97_3.eq_1):=@swc _ _ c97_3.eq_1
def c97_4:SC:=(.seq (.reg ((SO.mk (some 11) (.move (.tmp 1)) none) :: (SO.mk (some 12) (.move (.tmp 0)) none) :: (SO.mk (some 13) (.move (.tmp 5)) none) :: (SO.mk (some 14) (.iaddr 26 (.tmp 12) (.tmp 13)) none) :: o97_1)) (.keep [16,5,8,7,0,1] c97_3))
theorem u97_4:type_of% (@swc _ _ c97_4.eq_1):=@swc _ _ c97_4.eq_1
def c97_5:SC:=(.reg [SO.mk (some 18) (.bin .add 3 (.tmp 8) (.const (Value.int .i64 1))) none,SO.mk (some 8) (.move (.tmp 18)) none])
theorem u97_5:type_of% (@swc _ _ c97_5.eq_1):=@swc _ _ c97_5.eq_1
def c97_6:SC:=(.seq (.block 1 (.seq (.reg [SO.mk (some 10) (.move (.tmp 8)) none,SO.mk (some 5) (.move (.tmp 10)) none]) (.keep [5,8,7,0,1] c97_4))) (.keep [8,7,0,1] c97_5))
theorem u97_6:type_of% (@swc _ _ c97_6.eq_1):=@swc _ _ c97_6.eq_1
def c97_7:SC:=(.seq (.cond (.tmp 9) .skip (.exit 0)) (.keep [8,7,0,1] c97_6))
theorem u97_7:type_of% (@swc _ _ c97_7.eq_1):=@swc _ _ c97_7.eq_1
def c97_8:SC:=(.seq (.reg [SO.mk (some 9) (.bin .lss 3 (.tmp 8) (.tmp 7)) none]) (.keep [9,1,0,7,8] c97_7))
theorem u97_8:type_of% (@swc _ _ c97_8.eq_1):=@swc _ _ c97_8.eq_1
def c97_9:SC:=(.block 0 (.loop (.keep [1,0,7,8] c97_8)))
theorem u97_9:type_of% (@swc _ _ c97_9.eq_1):=@swc _ _ c97_9.eq_1
def c97_10:SC:=(.seq (.reg [SO.mk (some 4) (.move (.const (Value.int .i64 (-1)))) none]) (.keep [4] .ret))
theorem u97_10:type_of% (@swc _ _ c97_10.eq_1):=@swc _ _ c97_10.eq_1
def c97_11:SC:=(.seq (.seq (.reg [SO.mk (some 6) (.move (.tmp 0)) none,SO.mk (some 7) (.len 26 (.tmp 6)) none,SO.mk (some 8) (.move (.const (Value.int .i64 0))) none]) (.keep [1,0,7,8] c97_9)) (.keep [] c97_10))
theorem u97_11:type_of% (@swc _ _ c97_11.eq_1):=@swc _ _ c97_11.eq_1
def c97:SC:=(.seq (.reg [SO.mk (some 4) (.move (.const (Value.int .i64 0))) none]) (.keep [1,0] c97_11))
theorem c97_eq:annC Try.f97 = some c97:=by kernel_rfl
theorem r97:Try.f97.results.toList = [.tmp 4]:=by kernel_rfl
theorem e97:enters Try.prog 97 = true:=by kernel_rfl
def c95_1:SC:=(.seq (.reg [SO.mk (some 5) (.move (.tmp 0)) none,SO.mk (some 6) (.move (.tmp 1)) none,SO.mk (some 7) (.call 97 [(.tmp 5),(.tmp 6)]) none,SO.mk (some 8) (.bin .geq 3 (.tmp 7) (.const (Value.int .i64 0))) none,SO.mk (some 4) (.move (.tmp 8)) none]) (.keep [4] .ret))
theorem u95_1:type_of% (@swc _ _ c95_1.eq_1):=@swc _ _ c95_1.eq_1
def c95:SC:=(.seq (.reg [SO.mk (some 4) (.move (.const (Value.bool false))) none]) (.keep [0,1] c95_1))
theorem c95_eq:annC Try.f95 = some c95:=by kernel_rfl
theorem r95:Try.f95.results.toList = [.tmp 4]:=by kernel_rfl
theorem e95:enters Try.prog 95 = true:=by kernel_rfl
def c80_1:SC:=(.cond (.tmp 10) .skip (.exit 0))
theorem u80_1:type_of% (@swc _ _ c80_1.eq_1):=@swc _ _ c80_1.eq_1
def o80_2:List SO:=((SO.mk (some 17) (.load 3 (.tmp 16)) none) :: (SO.mk (some 18) (.move (.tmp 1)) none) :: (SO.mk (some 19) (.bin .eql 3 (.tmp 17) (.tmp 18)) none) :: [])
theorem v80_2:type_of% (@swl _ _ o80_2.eq_1):=@swl _ _ o80_2.eq_1
def c80_3:SC:=(.seq (.reg [SO.mk (some 4) (.move (.const (Value.bool true))) none]) (.keep [4] .ret))
theorem u80_3:type_of% (@swc _ _ c80_3.eq_1):=@swc _ _ c80_3.eq_1
def c80_4:SC:=(.cond (.tmp 19) c80_3 .skip)
theorem u80_4:type_of% (@swc _ _ c80_4.eq_1):=@swc _ _ c80_4.eq_1
def c80_5:SC:=(.reg [SO.mk (some 11) (.move (.tmp 5)) none,SO.mk (some 12) (.bin .add 3 (.tmp 11) (.const (Value.int .i64 1))) none,SO.mk (some 5) (.move (.tmp 12)) none])
theorem u80_5:type_of% (@swc _ _ c80_5.eq_1):=@swc _ _ c80_5.eq_1
def c80_6:SC:=(.seq (.block 1 (.seq (.reg ((SO.mk (some 13) (.faddr 28 (.tmp 2) 6) none) :: (SO.mk (some 14) (.load 26 (.tmp 13)) none) :: (SO.mk (some 15) (.move (.tmp 5)) none) :: (SO.mk (some 16) (.iaddr 26 (.tmp 14) (.tmp 15)) none) :: o80_2)) (.keep [19,5,1,2] c80_4))) (.keep [5,1,2] c80_5))
theorem u80_6:type_of% (@swc _ _ c80_6.eq_1):=@swc _ _ c80_6.eq_1
def c80_7:SC:=(.seq (.seq (.reg [SO.mk (some 6) (.move (.tmp 5)) none,SO.mk (some 7) (.faddr 28 (.tmp 2) 6) none,SO.mk (some 8) (.load 26 (.tmp 7)) none,SO.mk (some 9) (.len 26 (.tmp 8)) none,SO.mk (some 10) (.bin .lss 3 (.tmp 6) (.tmp 9)) none]) (.keep [10,2,1,5] c80_1)) (.keep [5,1,2] c80_6))
theorem u80_7:type_of% (@swc _ _ c80_7.eq_1):=@swc _ _ c80_7.eq_1
def c80_8:SC:=(.block 0 (.loop (.keep [2,1,5] c80_7)))
theorem u80_8:type_of% (@swc _ _ c80_8.eq_1):=@swc _ _ c80_8.eq_1
def c80_9:SC:=(.seq (.reg [SO.mk (some 4) (.move (.const (Value.bool false))) none]) (.keep [4] .ret))
theorem u80_9:type_of% (@swc _ _ c80_9.eq_1):=@swc _ _ c80_9.eq_1
def c80_10:SC:=(.seq (.seq (.reg [SO.mk (some 5) (.move (.const (Value.int .i64 0))) none]) (.keep [2,1,5] c80_8)) (.keep [] c80_9))
theorem u80_10:type_of% (@swc _ _ c80_10.eq_1):=@swc _ _ c80_10.eq_1
def c80:SC:=(.seq (.reg [SO.mk (some 2) (.box 28 (.tmp 0)) none,SO.mk (some 4) (.move (.const (Value.bool false))) none]) (.keep [2,1] c80_10))
theorem c80_eq:annC Try.f80 = some c80:=by kernel_rfl
theorem r80:Try.f80.results.toList = [.tmp 4]:=by kernel_rfl
theorem e80:enters Try.prog 80 = true:=by kernel_rfl
def c32_1:SC:=(.cond (.tmp 10) .skip (.exit 0))
theorem u32_1:type_of% (@swc _ _ c32_1.eq_1):=@swc _ _ c32_1.eq_1
def o32_2:List SO:=((SO.mk (some 17) (.faddr 54 (.tmp 16) 0) none) :: (SO.mk (some 18) (.load 9 (.tmp 17)) none) :: (SO.mk (some 19) (.move (.tmp 1)) none) :: (SO.mk (some 20) (.bin .eql 9 (.tmp 18) (.tmp 19)) none) :: [])
theorem v32_2:type_of% (@swl _ _ o32_2.eq_1):=@swl _ _ o32_2.eq_1
def c32_3:SC:=(.seq (.reg [SO.mk (some 21) (.move (.tmp 5)) none,SO.mk (some 4) (.move (.tmp 21)) none]) (.keep [4] .ret))
theorem u32_3:type_of% (@swc _ _ c32_3.eq_1):=@swc _ _ c32_3.eq_1
def c32_4:SC:=(.cond (.tmp 20) c32_3 .skip)
theorem u32_4:type_of% (@swc _ _ c32_4.eq_1):=@swc _ _ c32_4.eq_1
def c32_5:SC:=(.reg [SO.mk (some 11) (.move (.tmp 5)) none,SO.mk (some 12) (.bin .add 3 (.tmp 11) (.const (Value.int .i64 1))) none,SO.mk (some 5) (.move (.tmp 12)) none])
theorem u32_5:type_of% (@swc _ _ c32_5.eq_1):=@swc _ _ c32_5.eq_1
def c32_6:SC:=(.seq (.block 1 (.seq (.reg ((SO.mk (some 13) (.faddr 28 (.tmp 2) 2) none) :: (SO.mk (some 14) (.load 22 (.tmp 13)) none) :: (SO.mk (some 15) (.move (.tmp 5)) none) :: (SO.mk (some 16) (.iaddr 22 (.tmp 14) (.tmp 15)) none) :: o32_2)) (.keep [20,5,1,2] c32_4))) (.keep [5,1,2] c32_5))
theorem u32_6:type_of% (@swc _ _ c32_6.eq_1):=@swc _ _ c32_6.eq_1
def c32_7:SC:=(.seq (.seq (.reg [SO.mk (some 6) (.move (.tmp 5)) none,SO.mk (some 7) (.faddr 28 (.tmp 2) 2) none,SO.mk (some 8) (.load 22 (.tmp 7)) none,SO.mk (some 9) (.len 22 (.tmp 8)) none,SO.mk (some 10) (.bin .lss 3 (.tmp 6) (.tmp 9)) none]) (.keep [10,2,1,5] c32_1)) (.keep [5,1,2] c32_6))
theorem u32_7:type_of% (@swc _ _ c32_7.eq_1):=@swc _ _ c32_7.eq_1
def c32_8:SC:=(.block 0 (.loop (.keep [2,1,5] c32_7)))
theorem u32_8:type_of% (@swc _ _ c32_8.eq_1):=@swc _ _ c32_8.eq_1
def c32_9:SC:=(.seq (.reg [SO.mk (some 4) (.move (.const (Value.int .i64 (-1)))) none]) (.keep [4] .ret))
theorem u32_9:type_of% (@swc _ _ c32_9.eq_1):=@swc _ _ c32_9.eq_1
def c32_10:SC:=(.seq (.seq (.reg [SO.mk (some 5) (.move (.const (Value.int .i64 0))) none]) (.keep [2,1,5] c32_8)) (.keep [] c32_9))
theorem u32_10:type_of% (@swc _ _ c32_10.eq_1):=@swc _ _ c32_10.eq_1
def c32:SC:=(.seq (.reg [SO.mk (some 2) (.box 28 (.tmp 0)) none,SO.mk (some 4) (.move (.const (Value.int .i64 0))) none]) (.keep [2,1] c32_10))
theorem c32_eq:annC Try.f32 = some c32:=by kernel_rfl
theorem r32:Try.f32.results.toList = [.tmp 4]:=by kernel_rfl
theorem e32:enters Try.prog 32 = true:=by kernel_rfl
def c54_1:SC:=(.cond (.tmp 10) .skip (.exit 0))
theorem u54_1:type_of% (@swc _ _ c54_1.eq_1):=@swc _ _ c54_1.eq_1
def o54_2:List SO:=((SO.mk (some 17) (.faddr 41 (.tmp 16) 0) none) :: (SO.mk (some 18) (.load 3 (.tmp 17)) none) :: (SO.mk (some 19) (.move (.tmp 1)) none) :: (SO.mk (some 20) (.bin .eql 3 (.tmp 18) (.tmp 19)) none) :: [])
theorem v54_2:type_of% (@swl _ _ o54_2.eq_1):=@swl _ _ o54_2.eq_1
def c54_3:SC:=(.seq (.reg [SO.mk (some 21) (.move (.tmp 5)) none,SO.mk (some 4) (.move (.tmp 21)) none]) (.keep [4] .ret))
theorem u54_3:type_of% (@swc _ _ c54_3.eq_1):=@swc _ _ c54_3.eq_1
def c54_4:SC:=(.cond (.tmp 20) c54_3 .skip)
theorem u54_4:type_of% (@swc _ _ c54_4.eq_1):=@swc _ _ c54_4.eq_1
def c54_5:SC:=(.reg [SO.mk (some 11) (.move (.tmp 5)) none,SO.mk (some 12) (.bin .add 3 (.tmp 11) (.const (Value.int .i64 1))) none,SO.mk (some 5) (.move (.tmp 12)) none])
theorem u54_5:type_of% (@swc _ _ c54_5.eq_1):=@swc _ _ c54_5.eq_1
def c54_6:SC:=(.seq (.block 1 (.seq (.reg ((SO.mk (some 13) (.faddr 28 (.tmp 2) 3) none) :: (SO.mk (some 14) (.load 23 (.tmp 13)) none) :: (SO.mk (some 15) (.move (.tmp 5)) none) :: (SO.mk (some 16) (.iaddr 23 (.tmp 14) (.tmp 15)) none) :: o54_2)) (.keep [20,5,1,2] c54_4))) (.keep [5,1,2] c54_5))
theorem u54_6:type_of% (@swc _ _ c54_6.eq_1):=@swc _ _ c54_6.eq_1
def c54_7:SC:=(.seq (.seq (.reg [SO.mk (some 6) (.move (.tmp 5)) none,SO.mk (some 7) (.faddr 28 (.tmp 2) 3) none,SO.mk (some 8) (.load 23 (.tmp 7)) none,SO.mk (some 9) (.len 23 (.tmp 8)) none,SO.mk (some 10) (.bin .lss 3 (.tmp 6) (.tmp 9)) none]) (.keep [10,2,1,5] c54_1)) (.keep [5,1,2] c54_6))
theorem u54_7:type_of% (@swc _ _ c54_7.eq_1):=@swc _ _ c54_7.eq_1
def c54_8:SC:=(.block 0 (.loop (.keep [2,1,5] c54_7)))
theorem u54_8:type_of% (@swc _ _ c54_8.eq_1):=@swc _ _ c54_8.eq_1
def c54_9:SC:=(.seq (.reg [SO.mk (some 4) (.move (.const (Value.int .i64 (-1)))) none]) (.keep [4] .ret))
theorem u54_9:type_of% (@swc _ _ c54_9.eq_1):=@swc _ _ c54_9.eq_1
def c54_10:SC:=(.seq (.seq (.reg [SO.mk (some 5) (.move (.const (Value.int .i64 0))) none]) (.keep [2,1,5] c54_8)) (.keep [] c54_9))
theorem u54_10:type_of% (@swc _ _ c54_10.eq_1):=@swc _ _ c54_10.eq_1
def c54:SC:=(.seq (.reg [SO.mk (some 2) (.box 28 (.tmp 0)) none,SO.mk (some 4) (.move (.const (Value.int .i64 0))) none]) (.keep [2,1] c54_10))
theorem c54_eq:annC Try.f54 = some c54:=by kernel_rfl
theorem r54:Try.f54.results.toList = [.tmp 4]:=by kernel_rfl
theorem e54:enters Try.prog 54 = true:=by kernel_rfl
end Go.Proofs.Ytikgiadbkjmabaa
namespace Go.Proofs.Ytikgiadbkjmabaa
open Go.RowKit
set_option maxHeartbeats 4000000
set_option maxRecDepth 20000
attribute [local irreducible] SW OSW SWL SWLn SWD SEcall SEcallv SDv SE SO1 SOg ACalls ACallv Wk EndV
set_option linter.unusedSimpArgs false
set_option linter.unusedVariables false
def idxD (n:Nat) (p:Nat → Bool):Int:=match (List.range n).find? p with
  | some k=>k
  | none=>-1
theorem idxD_some {n k:Nat} {p:Nat → Bool} (hk:decide ((k:Int) < (n:Int)) = true) (hp:p k = true) (hF:∀ i,i < k → p i = false):idxD n p = k:=by
  have hk:k < n:=by have:=of_decide_eq_true hk;omega
  unfold idxD
  have:(List.range n).find? p = some k:=by
    rw [List.find?_eq_some_iff_getElem]
    refine ⟨hp,k,by simpa using hk,by simp,fun j hj=>?_⟩
    simp [hF j hj]
  rw [this]
theorem idxD_none {n k:Nat} {p:Nat → Bool} (hk:decide ((k:Int) < (n:Int)) = false) (hF:∀ i,i < k → p i = false):idxD n p = -1:=by
  have hk:n ≤ k:=by have:=of_decide_eq_false hk;omega
  unfold idxD
  have:(List.range n).find? p = none:=by
    rw [List.find?_eq_none]
    intro x hx
    have:=List.mem_range.1 hx
    rw [hF x (by omega)];decide
  rw [this]
theorem idxD_lt {n:Nat} {p:Nat → Bool}:idxD n p < n:=by
  unfold idxD
  split
  · rename_i k h
    have:=List.mem_range.1 (List.mem_of_find?_eq_some h);omega
  · omega
theorem idxD_ge {n:Nat} {p:Nat → Bool}:idxD n p ≥ 0 ↔ ∃ k,k < n ∧ p k = true:=by
  unfold idxD
  split
  · rename_i k h
    exact ⟨fun _=>⟨k,List.mem_range.1 (List.mem_of_find?_eq_some h),List.find?_some h⟩,fun _=>by omega⟩
  · rename_i h
    rw [List.find?_eq_none] at h
    refine ⟨fun h=>by omega,fun ⟨k,h1,h2⟩=>?_⟩
    exact absurd h2 (h k (List.mem_range.2 h1))
theorem allN' {p:Nat → Bool} {k:Nat} (hF:∀ i,i < k → p i = false) (h:p k = false):∀ i,i < k + 1 → p i = false:=fun i hi=>by
  rcases Nat.lt_succ_iff_lt_or_eq.1 hi with h' | rfl
  · exact hF i h'
  · exact h
def pI (l:List Int) (v:Int) (k:Nat):Bool:=v == l[k]!
def pG (l:List Int) (v:Int) (k:Nat):Bool:=l[k]! == v
def pB (l:List BktD) (s:ByteArray) (k:Nat):Bool:=l[k]!.name.toList == s.toList
def pV (l:List VerD) (v:Int) (k:Nat):Bool:=l[k]!.id == v
theorem index_p (l:List Int) (v:Int):Pure Try.prog 97 [.d (ints l),I v] (I (idxD l.length (pI l v))):=by
  refine pure_of follows Try.func97 c97_eq r97 (Nat.le_of_ble_eq_true rfl) fun B σ hcl hsz=>?_
  have hlen:l.length ≤ 2 ^ 47:=by simpa using (show Sized (ints l) from hsz (.d (ints l)) (by simp)).len
  clear hsz
  repeat' (first | (simp -implicitDefEqProofs only [*,Nat.reduceBEq,↓reduceIte,Nat.reduceEqDiff,Nat.reduceAdd,reduceCtorEq,AO.kill,Int.reduceLT,Int.reduceToNat,List.getElem?_nil,Nat.reduceMul,Nat.reducePow,Nat.reduceLeDiff,rowOf_mapD,rowOf_mapI,rowOf_mapA,List.getElem?_cons_zero,List.getElem?_cons_succ,take_map_len,take_map_app,List.getElem?_cons_zero,c97,r97,v97_1,u97_2,u97_3,u97_4,u97_5,u97_6,u97_7,u97_8,u97_9,u97_10,u97_11,ty26,ty3,ints,int_,mvcgen_simp]) | (with_reducible refine And.intro ?_ ?_) | (refine loop_nat (l.length) (fun k=>∀ i,i < k → pI l v i = false) (fun k=>[(0,.d (ints l)),(1,I v),(7,I l.length),(8,I k)]) (fun k=>[]) ?_ (Wk.keep hcl ?_ ?_ ?_) fun k hk hF=>?_;rotate_left 1;(focus (simp [Fr.get,newF,Fr.map,AV.kill,AV.mapN,ints,int_]<;>fail));(focus (simp [sto,newL,Loc.kill,Loc.set,AO.kill,AV.kill,AV.mapN,ints,int_]<;>fail));(focus (simp [newL,Loc.kill,Loc.set,ints,int_]<;>fail));(try have hw:IntKind.i64.wrap ((k:Int) + 1) = (k:Int) + 1:=IntWalk.i64_in _ (by omega))) | (refine EndX.plain ?_) | (refine nil_split (fun hn=>?_) (fun hn=>?_)) | (refine gcall_no not_false ?_) | (refine gdcall_no not_false ?_) | (refine GuardS_of _ _ _ _ _ _ (fun hg=>?_) (fun hg=>?_)) | (refine GuardD_of _ _ _ _ (fun hg=>?_) (fun hg=>?_)) | (refine CondB_of _ _ _ _ _ _ _ ?_ (fun hg=>?_) (fun hg=>?_)))
  all_goals (try (first | ((first | unfold noN | unfold Fr.below | unfold Loc.below);simp [Fr.allN,AV.allN,AV.allNL,AO.allN];done) | rfl | trivial | assumption | (intro row hrow;simp only [List.mem_map] at hrow;obtain ⟨x,_,rfl⟩:=hrow;rfl) | (refine Wk.keep hcl ?_ ?_ ?_;(focus (simp [Fr.get,ints,int_]<;>fail));(focus (simp [sto,ints,int_]<;>fail));(focus (simp<;>fail))) | (simp [allP,opd,Fr.get,Fr.below,Fr.allN,AV.allN,AV.allNL,Loc.below,AO.allN,noN,killO,killT,killD,mkNames,AO.kill,AV.kill,AV.mapN,AV.mapNL];done) | (with_reducible exact ltD (by assumption)) | omega | (simp only [decide_eq_true_eq,decide_eq_false_iff_not] at *;omega)))
  all_goals first
    | (rw [idxD_some (p:=pI l v) (k:=k) (by assumption) (by assumption) hF];done)
    | (rw [idxD_none (p:=pI l v) (k:=k) (by assumption) hF];done)
    | exact allN' hF (by assumption)
theorem contains_p (l:List Int) (v:Int):Pure Try.prog 95 [.d (ints l),I v] (Bo (decide (idxD l.length (pI l v) ≥ 0))):=by
  refine pure_of follows Try.func95 c95_eq r95 (Nat.le_of_ble_eq_true rfl) fun B σ hcl hsz=>?_
  clear hsz
  repeat' (first | (simp -implicitDefEqProofs only [*,Nat.reduceBEq,↓reduceIte,Nat.reduceEqDiff,Nat.reduceAdd,reduceCtorEq,AO.kill,Int.reduceLT,Int.reduceToNat,List.getElem?_nil,Nat.reduceMul,Nat.reducePow,Nat.reduceLeDiff,rowOf_mapD,rowOf_mapI,rowOf_mapA,List.getElem?_cons_zero,List.getElem?_cons_succ,take_map_len,take_map_app,List.getElem?_cons_zero,c95,r95,u95_1,ty3,mvcgen_simp]) | (with_reducible refine And.intro ?_ ?_) | (refine call_ro e97 ( index_p l v) rfl ?_ ?_ ?_ ?_) | (refine gcall_ro e97 ( index_p l v) rfl ?_ ?_ ?_ ?_) | (refine dcall_ro e97 ( index_p l v) rfl ?_ ?_ ?_ ?_) | (refine gdcall_ro rfl e97 ( index_p l v) rfl ?_ ?_ ?_ ?_) | (refine EndX.plain ?_) | (refine nil_split (fun hn=>?_) (fun hn=>?_)) | (refine gcall_no not_false ?_) | (refine gdcall_no not_false ?_) | (refine GuardS_of _ _ _ _ _ _ (fun hg=>?_) (fun hg=>?_)) | (refine GuardD_of _ _ _ _ (fun hg=>?_) (fun hg=>?_)) | (refine CondB_of _ _ _ _ _ _ _ ?_ (fun hg=>?_) (fun hg=>?_)))
  all_goals (try (first | ((first | unfold noN | unfold Fr.below | unfold Loc.below);simp [Fr.allN,AV.allN,AV.allNL,AO.allN];done) | rfl | trivial | assumption | (intro row hrow;simp only [List.mem_map] at hrow;obtain ⟨x,_,rfl⟩:=hrow;rfl) | (refine Wk.keep hcl ?_ ?_ ?_;(focus (simp [Fr.get]<;>fail));(focus (simp [sto]<;>fail));(focus (simp<;>fail))) | (simp [allP,opd,Fr.get,Fr.below,Fr.allN,AV.allN,AV.allNL,Loc.below,AO.allN,noN,killO,killT,killD,mkNames,AO.kill,AV.kill,AV.mapN,AV.mapNL];done) | (with_reducible exact ltD (by assumption)) | omega | (simp only [decide_eq_true_eq,decide_eq_false_iff_not] at *;omega)))
theorem gone_p (s:SttD) (v:Int):Pure Try.prog 80 [s.av,I v] (Bo (decide (idxD s.gone.length (pG s.gone v) ≥ 0))):=by
  refine pure_of follows Try.func80 c80_eq r80 (Nat.le_of_ble_eq_true rfl) fun B σ hcl hsz=>?_
  obtain ⟨z1,z2,z3,z4,z5⟩:=st_sz5 (hsz s.av (by simp))
  clear hsz
  repeat' (first | (simp -implicitDefEqProofs only [*,Nat.reduceBEq,↓reduceIte,Nat.reduceEqDiff,Nat.reduceAdd,reduceCtorEq,AO.kill,Int.reduceLT,Int.reduceToNat,List.getElem?_nil,Nat.reduceMul,Nat.reducePow,Nat.reduceLeDiff,rowOf_mapD,rowOf_mapI,rowOf_mapA,List.getElem?_cons_zero,List.getElem?_cons_succ,take_map_len,take_map_app,List.getElem?_cons_zero,c80,r80,u80_1,v80_2,u80_3,u80_4,u80_5,u80_6,u80_7,u80_8,u80_9,u80_10,ty28,ty26,ty3,SttD.av,SttD.cells,ints,int_,mvcgen_simp]) | (with_reducible refine And.intro ?_ ?_) | (refine loop_nat (s.gone.length) (fun k=>∀ i,i < k → pG s.gone v i = false) (fun k=>[(2,.lp (B + 2) 0),(1,I v),(5,I k)]) (fun k=>[(B + 2,.box s.cells)]) ?_ (Wk.keep hcl ?_ ?_ ?_) fun k hk hF=>?_;rotate_left 1;(focus (simp [Fr.get,newF,Fr.map,AV.kill,AV.mapN,SttD.av,SttD.cells,ints,int_]<;>fail));(focus (simp [sto,newL,Loc.kill,Loc.set,AO.kill,AV.kill,AV.mapN,SttD.av,SttD.cells,ints,int_]<;>fail));(focus (simp [newL,Loc.kill,Loc.set,SttD.av,SttD.cells,ints,int_]<;>fail));(try have hw:IntKind.i64.wrap ((k:Int) + 1) = (k:Int) + 1:=IntWalk.i64_in _ (by omega))) | (refine EndX.plain ?_) | (refine nil_split (fun hn=>?_) (fun hn=>?_)) | (refine gcall_no not_false ?_) | (refine gdcall_no not_false ?_) | (refine GuardS_of _ _ _ _ _ _ (fun hg=>?_) (fun hg=>?_)) | (refine GuardD_of _ _ _ _ (fun hg=>?_) (fun hg=>?_)) | (refine CondB_of _ _ _ _ _ _ _ ?_ (fun hg=>?_) (fun hg=>?_)))
  all_goals (try (first | ((first | unfold noN | unfold Fr.below | unfold Loc.below);simp [Fr.allN,AV.allN,AV.allNL,AO.allN];done) | rfl | trivial | assumption | (intro row hrow;simp only [List.mem_map] at hrow;obtain ⟨x,_,rfl⟩:=hrow;rfl) | (refine Wk.keep hcl ?_ ?_ ?_;(focus (simp [Fr.get,SttD.av,SttD.cells,ints,int_]<;>fail));(focus (simp [sto,SttD.av,SttD.cells,ints,int_]<;>fail));(focus (simp<;>fail))) | (simp [allP,opd,Fr.get,Fr.below,Fr.allN,AV.allN,AV.allNL,Loc.below,AO.allN,noN,killO,killT,killD,mkNames,AO.kill,AV.kill,AV.mapN,AV.mapNL];done) | (with_reducible exact ltD (by assumption)) | omega | (simp only [decide_eq_true_eq,decide_eq_false_iff_not] at *;omega)))
  all_goals first
    | (rw [idxD_some (p:=pG s.gone v) (k:=k) (by assumption) (by assumption) hF,decide_eq_true (by omega)];done)
    | (rw [idxD_none (p:=pG s.gone v) (k:=k) (by assumption) hF];rfl)
    | exact allN' hF (by assumption)
theorem bucketAt_p (s:SttD) (v:ByteArray):Pure Try.prog 32 [s.av,.d (.v (.string v))] (I (idxD s.bkts.length (pB s.bkts v))):=by
  refine pure_of follows Try.func32 c32_eq r32 (Nat.le_of_ble_eq_true rfl) fun B σ hcl hsz=>?_
  obtain ⟨z1,z2,z3,z4,z5⟩:=st_sz5 (hsz s.av (by simp))
  clear hsz
  repeat' (first | (simp -implicitDefEqProofs only [*,Nat.reduceBEq,↓reduceIte,Nat.reduceEqDiff,Nat.reduceAdd,reduceCtorEq,AO.kill,Int.reduceLT,Int.reduceToNat,List.getElem?_nil,Nat.reduceMul,Nat.reducePow,Nat.reduceLeDiff,rowOf_mapD,rowOf_mapI,rowOf_mapA,List.getElem?_cons_zero,List.getElem?_cons_succ,take_map_len,take_map_app,List.getElem?_cons_zero,c32,r32,u32_1,v32_2,u32_3,u32_4,u32_5,u32_6,u32_7,u32_8,u32_9,u32_10,ty28,ty22,ty3,ty54,ty9,SttD.av,SttD.cells,BktD.row,ints,int_,mvcgen_simp]) | (with_reducible refine And.intro ?_ ?_) | (refine loop_nat (s.bkts.length) (fun k=>∀ i,i < k → pB s.bkts v i = false) (fun k=>[(2,.lp (B + 2) 0),(1,.d (.v (.string v))),(5,I k)]) (fun k=>[(B + 2,.box s.cells)]) ?_ (Wk.keep hcl ?_ ?_ ?_) fun k hk hF=>?_;rotate_left 1;(focus (simp [Fr.get,newF,Fr.map,AV.kill,AV.mapN,SttD.av,SttD.cells,BktD.row,ints,int_]<;>fail));(focus (simp [sto,newL,Loc.kill,Loc.set,AO.kill,AV.kill,AV.mapN,SttD.av,SttD.cells,BktD.row,ints,int_]<;>fail));(focus (simp [newL,Loc.kill,Loc.set,SttD.av,SttD.cells,BktD.row,ints,int_]<;>fail));(try have hw:IntKind.i64.wrap ((k:Int) + 1) = (k:Int) + 1:=IntWalk.i64_in _ (by omega))) | (refine EndX.plain ?_) | (refine nil_split (fun hn=>?_) (fun hn=>?_)) | (refine gcall_no not_false ?_) | (refine gdcall_no not_false ?_) | (refine GuardS_of _ _ _ _ _ _ (fun hg=>?_) (fun hg=>?_)) | (refine GuardD_of _ _ _ _ (fun hg=>?_) (fun hg=>?_)) | (refine CondB_of _ _ _ _ _ _ _ ?_ (fun hg=>?_) (fun hg=>?_)))
  all_goals (try (first | ((first | unfold noN | unfold Fr.below | unfold Loc.below);simp [Fr.allN,AV.allN,AV.allNL,AO.allN];done) | rfl | trivial | assumption | (intro row hrow;simp only [List.mem_map] at hrow;obtain ⟨x,_,rfl⟩:=hrow;rfl) | (refine Wk.keep hcl ?_ ?_ ?_;(focus (simp [Fr.get,SttD.av,SttD.cells,BktD.row,ints,int_]<;>fail));(focus (simp [sto,SttD.av,SttD.cells,BktD.row,ints,int_]<;>fail));(focus (simp<;>fail))) | (simp [allP,opd,Fr.get,Fr.below,Fr.allN,AV.allN,AV.allNL,Loc.below,AO.allN,noN,killO,killT,killD,mkNames,AO.kill,AV.kill,AV.mapN,AV.mapNL];done) | (with_reducible exact ltD (by assumption)) | omega | (simp only [decide_eq_true_eq,decide_eq_false_iff_not] at *;omega)))
  all_goals first
    | (rw [idxD_some (p:=pB s.bkts v) (k:=k) (by assumption) (by assumption) hF];done)
    | (rw [idxD_none (p:=pB s.bkts v) (k:=k) (by assumption) hF];done)
    | exact allN' hF (by assumption)
theorem versionAt_p (s:SttD) (v:Int):Pure Try.prog 54 [s.av,I v] (I (idxD s.vers.length (pV s.vers v))):=by
  refine pure_of follows Try.func54 c54_eq r54 (Nat.le_of_ble_eq_true rfl) fun B σ hcl hsz=>?_
  obtain ⟨z1,z2,z3,z4,z5⟩:=st_sz5 (hsz s.av (by simp))
  clear hsz
  repeat' (first | (simp -implicitDefEqProofs only [*,Nat.reduceBEq,↓reduceIte,Nat.reduceEqDiff,Nat.reduceAdd,reduceCtorEq,AO.kill,Int.reduceLT,Int.reduceToNat,List.getElem?_nil,Nat.reduceMul,Nat.reducePow,Nat.reduceLeDiff,rowOf_mapD,rowOf_mapI,rowOf_mapA,List.getElem?_cons_zero,List.getElem?_cons_succ,take_map_len,take_map_app,List.getElem?_cons_zero,c54,r54,u54_1,v54_2,u54_3,u54_4,u54_5,u54_6,u54_7,u54_8,u54_9,u54_10,ty28,ty23,ty3,ty41,SttD.av,SttD.cells,VerD.row,ints,int_,mvcgen_simp]) | (with_reducible refine And.intro ?_ ?_) | (refine loop_nat (s.vers.length) (fun k=>∀ i,i < k → pV s.vers v i = false) (fun k=>[(2,.lp (B + 2) 0),(1,I v),(5,I k)]) (fun k=>[(B + 2,.box s.cells)]) ?_ (Wk.keep hcl ?_ ?_ ?_) fun k hk hF=>?_;rotate_left 1;(focus (simp [Fr.get,newF,Fr.map,AV.kill,AV.mapN,SttD.av,SttD.cells,VerD.row,ints,int_]<;>fail));(focus (simp [sto,newL,Loc.kill,Loc.set,AO.kill,AV.kill,AV.mapN,SttD.av,SttD.cells,VerD.row,ints,int_]<;>fail));(focus (simp [newL,Loc.kill,Loc.set,SttD.av,SttD.cells,VerD.row,ints,int_]<;>fail));(try have hw:IntKind.i64.wrap ((k:Int) + 1) = (k:Int) + 1:=IntWalk.i64_in _ (by omega))) | (refine EndX.plain ?_) | (refine nil_split (fun hn=>?_) (fun hn=>?_)) | (refine gcall_no not_false ?_) | (refine gdcall_no not_false ?_) | (refine GuardS_of _ _ _ _ _ _ (fun hg=>?_) (fun hg=>?_)) | (refine GuardD_of _ _ _ _ (fun hg=>?_) (fun hg=>?_)) | (refine CondB_of _ _ _ _ _ _ _ ?_ (fun hg=>?_) (fun hg=>?_)))
  all_goals (try (first | ((first | unfold noN | unfold Fr.below | unfold Loc.below);simp [Fr.allN,AV.allN,AV.allNL,AO.allN];done) | rfl | trivial | assumption | (intro row hrow;simp only [List.mem_map] at hrow;obtain ⟨x,_,rfl⟩:=hrow;rfl) | (refine Wk.keep hcl ?_ ?_ ?_;(focus (simp [Fr.get,SttD.av,SttD.cells,VerD.row,ints,int_]<;>fail));(focus (simp [sto,SttD.av,SttD.cells,VerD.row,ints,int_]<;>fail));(focus (simp<;>fail))) | (simp [allP,opd,Fr.get,Fr.below,Fr.allN,AV.allN,AV.allNL,Loc.below,AO.allN,noN,killO,killT,killD,mkNames,AO.kill,AV.kill,AV.mapN,AV.mapNL];done) | (with_reducible exact ltD (by assumption)) | omega | (simp only [decide_eq_true_eq,decide_eq_false_iff_not] at *;omega)))
  all_goals first
    | (rw [idxD_some (p:=pV s.vers v) (k:=k) (by assumption) (by assumption) hF];done)
    | (rw [idxD_none (p:=pV s.vers v) (k:=k) (by assumption) hF];done)
    | exact allN' hF (by assumption)
end Go.Proofs.Ytikgiadbkjmabaa
