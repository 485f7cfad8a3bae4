/- Places in lists. -/
import Derived.Test.YtijpmidnclbhpaaStD
import Derived.Test.YtijpmidnclbhpaaTypes
namespace Go.Proofs.Ytijpmidnclbhpaa
open Go.RowKit
set_option maxRecDepth 100000
def o96_1:List SO:=((SO.mk (some 15) (.load 3 (.tmp 14)) none) :: (SO.mk (some 16) (.bin .eql 3 (.tmp 11) (.tmp 15)) none) :: [])
theorem v96_1:type_of% (@swl _ _ o96_1.eq_1):=@swl _ _ o96_1.eq_1
def c96_2:SC:=(.seq (.reg [SO.mk (some 17) (.move (.tmp 5)) none,SO.mk (some 4) (.move (.tmp 17)) none]) (.keep [4] .ret))
theorem u96_2:type_of% (@swc _ _ c96_2.eq_1):=@swc _ _ c96_2.eq_1
def c96_3:SC:=(.cond (.tmp 16) c96_2 .skip)
theorem u96_3:type_of% (@swc _ _ c96_3.eq_1):=@swc _ _ c96_3.eq_1
def c96_4:SC:=(.seq (.reg ((SO.mk (some 11) (.move (.tmp 1)) none) :: (SO.mk (some 12) (.move (.tmp 0)) none) :: (SO.mk (some 13) (.move (.tmp 5)) none) :: (SO.mk (some 14) (.iaddr 26 (.tmp 12) (.tmp 13)) none) :: o96_1)) (.keep [16,5,8,7,0,1] c96_3))
theorem u96_4:type_of% (@swc _ _ c96_4.eq_1):=@swc _ _ c96_4.eq_1
def c96_5:SC:=(.reg [SO.mk (some 18) (.bin .add 3 (.tmp 8) (.const (Value.int .i64 1))) none,SO.mk (some 8) (.move (.tmp 18)) none])
theorem u96_5:type_of% (@swc _ _ c96_5.eq_1):=@swc _ _ c96_5.eq_1
def c96_6:SC:=(.seq (.block 1 (.seq (.reg [SO.mk (some 10) (.move (.tmp 8)) none,SO.mk (some 5) (.move (.tmp 10)) none]) (.keep [5,8,7,0,1] c96_4))) (.keep [8,7,0,1] c96_5))
theorem u96_6:type_of% (@swc _ _ c96_6.eq_1):=@swc _ _ c96_6.eq_1
def c96_7:SC:=(.seq (.cond (.tmp 9) .skip (.exit 0)) (.keep [8,7,0,1] c96_6))
theorem u96_7:type_of% (@swc _ _ c96_7.eq_1):=@swc _ _ c96_7.eq_1
def c96_8:SC:=(.seq (.reg [SO.mk (some 9) (.bin .lss 3 (.tmp 8) (.tmp 7)) none]) (.keep [9,1,0,7,8] c96_7))
theorem u96_8:type_of% (@swc _ _ c96_8.eq_1):=@swc _ _ c96_8.eq_1
def c96_9:SC:=(.block 0 (.loop (.keep [1,0,7,8] c96_8)))
theorem u96_9:type_of% (@swc _ _ c96_9.eq_1):=@swc _ _ c96_9.eq_1
def c96_10:SC:=(.seq (.reg [SO.mk (some 4) (.move (.const (Value.int .i64 (-1)))) none]) (.keep [4] .ret))
theorem u96_10:type_of% (@swc _ _ c96_10.eq_1):=@swc _ _ c96_10.eq_1
def c96_11:SC:=(.seq (.seq (.reg [SO.mk (some 6) (.move (.tmp 0)) none,SO.mk (some 7) (.len 26 (.tmp 6)) none,SO.mk (some 8) (.move (.const (Value.int .i64 0))) none]) (.keep [1,0,7,8] c96_9)) (.keep [] c96_10))
theorem u96_11:type_of% (@swc _ _ c96_11.eq_1):=@swc _ _ c96_11.eq_1
def c96:SC:=(.seq (.reg [SO.mk (some 4) (.move (.const (Value.int .i64 0))) none]) (.keep [1,0] c96_11))
theorem c96_eq:annC Try.f96 = some c96:=by kernel_rfl
theorem r96:Try.f96.results.toList = [.tmp 4]:=by kernel_rfl
theorem e96:enters Try.prog 96 = true:=by kernel_rfl
def c93_1:SC:=(.seq (.reg [SO.mk (some 5) (.move (.tmp 0)) none,SO.mk (some 6) (.move (.tmp 1)) none,SO.mk (some 7) (.call 96 [(.tmp 5),(.tmp 6)]) none,SO.mk (some 8) (.bin .geq 3 (.tmp 7) (.const (Value.int .i64 0))) none,SO.mk (some 4) (.move (.tmp 8)) none]) (.keep [4] .ret))
theorem u93_1:type_of% (@swc _ _ c93_1.eq_1):=@swc _ _ c93_1.eq_1
def c93:SC:=(.seq (.reg [SO.mk (some 4) (.move (.const (Value.bool false))) none]) (.keep [0,1] c93_1))
theorem c93_eq:annC Try.f93 = some c93:=by kernel_rfl
theorem r93:Try.f93.results.toList = [.tmp 4]:=by kernel_rfl
theorem e93:enters Try.prog 93 = true:=by kernel_rfl
def c82_1:SC:=(.cond (.tmp 10) .skip (.exit 0))
theorem u82_1:type_of% (@swc _ _ c82_1.eq_1):=@swc _ _ c82_1.eq_1
def o82_2:List SO:=((SO.mk (some 17) (.load 3 (.tmp 16)) none) :: (SO.mk (some 18) (.move (.tmp 1)) none) :: (SO.mk (some 19) (.bin .eql 3 (.tmp 17) (.tmp 18)) none) :: [])
theorem v82_2:type_of% (@swl _ _ o82_2.eq_1):=@swl _ _ o82_2.eq_1
def c82_3:SC:=(.seq (.reg [SO.mk (some 4) (.move (.const (Value.bool true))) none]) (.keep [4] .ret))
theorem u82_3:type_of% (@swc _ _ c82_3.eq_1):=@swc _ _ c82_3.eq_1
def c82_4:SC:=(.cond (.tmp 19) c82_3 .skip)
theorem u82_4:type_of% (@swc _ _ c82_4.eq_1):=@swc _ _ c82_4.eq_1
def c82_5:SC:=(.reg [SO.mk (some 11) (.move (.tmp 5)) none,SO.mk (some 12) (.bin .add 3 (.tmp 11) (.const (Value.int .i64 1))) none,SO.mk (some 5) (.move (.tmp 12)) none])
theorem u82_5:type_of% (@swc _ _ c82_5.eq_1):=@swc _ _ c82_5.eq_1
def c82_6:SC:=(.seq (.block 1 (.seq (.reg ((SO.mk (some 13) (.faddr 28 (.tmp 2) 6) none) :: (SO.mk (some 14) (.load 26 (.tmp 13)) none) :: (SO.mk (some 15) (.move (.tmp 5)) none) :: (SO.mk (some 16) (.iaddr 26 (.tmp 14) (.tmp 15)) none) :: o82_2)) (.keep [19,5,1,2] c82_4))) (.keep [5,1,2] c82_5))
theorem u82_6:type_of% (@swc _ _ c82_6.eq_1):=@swc _ _ c82_6.eq_1
def c82_7:SC:=(.seq (.seq (.reg [SO.mk (some 6) (.move (.tmp 5)) none,SO.mk (some 7) (.faddr 28 (.tmp 2) 6) none,SO.mk (some 8) (.load 26 (.tmp 7)) none,SO.mk (some 9) (.len 26 (.tmp 8)) none,SO.mk (some 10) (.bin .lss 3 (.tmp 6) (.tmp 9)) none]) (.keep [10,2,1,5] c82_1)) (.keep [5,1,2] c82_6))
theorem u82_7:type_of% (@swc _ _ c82_7.eq_1):=@swc _ _ c82_7.eq_1
def c82_8:SC:=(.block 0 (.loop (.keep [2,1,5] c82_7)))
theorem u82_8:type_of% (@swc _ _ c82_8.eq_1):=@swc _ _ c82_8.eq_1
def c82_9:SC:=(.seq (.reg [SO.mk (some 4) (.move (.const (Value.bool false))) none]) (.keep [4] .ret))
theorem u82_9:type_of% (@swc _ _ c82_9.eq_1):=@swc _ _ c82_9.eq_1
def c82_10:SC:=(.seq (.seq (.reg [SO.mk (some 5) (.move (.const (Value.int .i64 0))) none]) (.keep [2,1,5] c82_8)) (.keep [] c82_9))
theorem u82_10:type_of% (@swc _ _ c82_10.eq_1):=@swc _ _ c82_10.eq_1
def c82:SC:=(.seq (.reg [SO.mk (some 2) (.box 28 (.tmp 0)) none,SO.mk (some 4) (.move (.const (Value.bool false))) none]) (.keep [2,1] c82_10))
theorem c82_eq:annC Try.f82 = some c82:=by kernel_rfl
theorem r82:Try.f82.results.toList = [.tmp 4]:=by kernel_rfl
theorem e82:enters Try.prog 82 = true:=by kernel_rfl
def c62_1:SC:=(.cond (.tmp 10) .skip (.exit 0))
theorem u62_1:type_of% (@swc _ _ c62_1.eq_1):=@swc _ _ c62_1.eq_1
def o62_2:List SO:=((SO.mk (some 17) (.faddr 47 (.tmp 16) 0) none) :: (SO.mk (some 18) (.load 9 (.tmp 17)) none) :: (SO.mk (some 19) (.move (.tmp 1)) none) :: (SO.mk (some 20) (.bin .eql 9 (.tmp 18) (.tmp 19)) none) :: [])
theorem v62_2:type_of% (@swl _ _ o62_2.eq_1):=@swl _ _ o62_2.eq_1
def c62_3:SC:=(.seq (.reg [SO.mk (some 21) (.move (.tmp 5)) none,SO.mk (some 4) (.move (.tmp 21)) none]) (.keep [4] .ret))
theorem u62_3:type_of% (@swc _ _ c62_3.eq_1):=@swc _ _ c62_3.eq_1
def c62_4:SC:=(.cond (.tmp 20) c62_3 .skip)
theorem u62_4:type_of% (@swc _ _ c62_4.eq_1):=@swc _ _ c62_4.eq_1
def c62_5:SC:=(.reg [SO.mk (some 11) (.move (.tmp 5)) none,SO.mk (some 12) (.bin .add 3 (.tmp 11) (.const (Value.int .i64 1))) none,SO.mk (some 5) (.move (.tmp 12)) none])
theorem u62_5:type_of% (@swc _ _ c62_5.eq_1):=@swc _ _ c62_5.eq_1
def c62_6:SC:=(.seq (.block 1 (.seq (.reg ((SO.mk (some 13) (.faddr 28 (.tmp 2) 2) none) :: (SO.mk (some 14) (.load 22 (.tmp 13)) none) :: (SO.mk (some 15) (.move (.tmp 5)) none) :: (SO.mk (some 16) (.iaddr 22 (.tmp 14) (.tmp 15)) none) :: o62_2)) (.keep [20,5,1,2] c62_4))) (.keep [5,1,2] c62_5))
theorem u62_6:type_of% (@swc _ _ c62_6.eq_1):=@swc _ _ c62_6.eq_1
def c62_7:SC:=(.seq (.seq (.reg [SO.mk (some 6) (.move (.tmp 5)) none,SO.mk (some 7) (.faddr 28 (.tmp 2) 2) none,SO.mk (some 8) (.load 22 (.tmp 7)) none,SO.mk (some 9) (.len 22 (.tmp 8)) none,SO.mk (some 10) (.bin .lss 3 (.tmp 6) (.tmp 9)) none]) (.keep [10,2,1,5] c62_1)) (.keep [5,1,2] c62_6))
theorem u62_7:type_of% (@swc _ _ c62_7.eq_1):=@swc _ _ c62_7.eq_1
def c62_8:SC:=(.block 0 (.loop (.keep [2,1,5] c62_7)))
theorem u62_8:type_of% (@swc _ _ c62_8.eq_1):=@swc _ _ c62_8.eq_1
def c62_9:SC:=(.seq (.reg [SO.mk (some 4) (.move (.const (Value.int .i64 (-1)))) none]) (.keep [4] .ret))
theorem u62_9:type_of% (@swc _ _ c62_9.eq_1):=@swc _ _ c62_9.eq_1
def c62_10:SC:=(.seq (.seq (.reg [SO.mk (some 5) (.move (.const (Value.int .i64 0))) none]) (.keep [2,1,5] c62_8)) (.keep [] c62_9))
theorem u62_10:type_of% (@swc _ _ c62_10.eq_1):=@swc _ _ c62_10.eq_1
def c62:SC:=(.seq (.reg [SO.mk (some 2) (.box 28 (.tmp 0)) none,SO.mk (some 4) (.move (.const (Value.int .i64 0))) none]) (.keep [2,1] c62_10))
theorem c62_eq:annC Try.f62 = some c62:=by kernel_rfl
theorem r62:Try.f62.results.toList = [.tmp 4]:=by kernel_rfl
theorem e62:enters Try.prog 62 = true:=by kernel_rfl
def c65_1:SC:=(.cond (.tmp 10) .skip (.exit 0))
theorem u65_1:type_of% (@swc _ _ c65_1.eq_1):=@swc _ _ c65_1.eq_1
def o65_2:List SO:=((SO.mk (some 17) (.faddr 51 (.tmp 16) 0) none) :: (SO.mk (some 18) (.load 3 (.tmp 17)) none) :: (SO.mk (some 19) (.move (.tmp 1)) none) :: (SO.mk (some 20) (.bin .eql 3 (.tmp 18) (.tmp 19)) none) :: [])
theorem v65_2:type_of% (@swl _ _ o65_2.eq_1):=@swl _ _ o65_2.eq_1
def c65_3:SC:=(.seq (.reg [SO.mk (some 21) (.move (.tmp 5)) none,SO.mk (some 4) (.move (.tmp 21)) none]) (.keep [4] .ret))
theorem u65_3:type_of% (@swc _ _ c65_3.eq_1):=@swc _ _ c65_3.eq_1
def c65_4:SC:=(.cond (.tmp 20) c65_3 .skip)
theorem u65_4:type_of% (@swc _ _ c65_4.eq_1):=@swc _ _ c65_4.eq_1
def c65_5:SC:=(.reg [SO.mk (some 11) (.move (.tmp 5)) none,SO.mk (some 12) (.bin .add 3 (.tmp 11) (.const (Value.int .i64 1))) none,SO.mk (some 5) (.move (.tmp 12)) none])
theorem u65_5:type_of% (@swc _ _ c65_5.eq_1):=@swc _ _ c65_5.eq_1
def c65_6:SC:=(.seq (.block 1 (.seq (.reg ((SO.mk (some 13) (.faddr 28 (.tmp 2) 3) none) :: (SO.mk (some 14) (.load 23 (.tmp 13)) none) :: (SO.mk (some 15) (.move (.tmp 5)) none) :: (SO.mk (some 16) (.iaddr 23 (.tmp 14) (.tmp 15)) none) :: o65_2)) (.keep [20,5,1,2] c65_4))) (.keep [5,1,2] c65_5))
theorem u65_6:type_of% (@swc _ _ c65_6.eq_1):=@swc _ _ c65_6.eq_1
def c65_7:SC:=(.seq (.seq (.reg [SO.mk (some 6) (.move (.tmp 5)) none,SO.mk (some 7) (.faddr 28 (.tmp 2) 3) none,SO.mk (some 8) (.load 23 (.tmp 7)) none,SO.mk (some 9) (.len 23 (.tmp 8)) none,SO.mk (some 10) (.bin .lss 3 (.tmp 6) (.tmp 9)) none]) (.keep [10,2,1,5] c65_1)) (.keep [5,1,2] c65_6))
theorem u65_7:type_of% (@swc _ _ c65_7.eq_1):=@swc _ _ c65_7.eq_1
def c65_8:SC:=(.block 0 (.loop (.keep [2,1,5] c65_7)))
theorem u65_8:type_of% (@swc _ _ c65_8.eq_1):=@swc _ _ c65_8.eq_1
def c65_9:SC:=(.seq (.reg [SO.mk (some 4) (.move (.const (Value.int .i64 (-1)))) none]) (.keep [4] .ret))
theorem u65_9:type_of% (@swc _ _ c65_9.eq_1):=@swc _ _ c65_9.eq_1
def c65_10:SC:=(.seq (.seq (.reg [SO.mk (some 5) (.move (.const (Value.int .i64 0))) none]) (.keep [2,1,5] c65_8)) (.keep [] c65_9))
theorem u65_10:type_of% (@swc _ _ c65_10.eq_1):=@swc _ _ c65_10.eq_1
def c65:SC:=(.seq (.reg [SO.mk (some 2) (.box 28 (.tmp 0)) none,SO.mk (some 4) (.move (.const (Value.int .i64 0))) none]) (.keep [2,1] c65_10))
theorem c65_eq:annC Try.f65 = some c65:=by kernel_rfl
theorem r65:Try.f65.results.toList = [.tmp 4]:=by kernel_rfl
theorem e65:enters Try.prog 65 = true:=by kernel_rfl
end Go.Proofs.Ytijpmidnclbhpaa
namespace Go.Proofs.Ytijpmidnclbhpaa
open Go.RowKit
set_option maxHeartbeats 4000000
set_option maxRecDepth 20000
attribute [local irreducible] SW OSW SWL SWLn SWD SEcall SEcallv SDv SE SO1 SOg ACalls ACallv Wk EndV
set_option linter.unusedSimpArgs false
set_option linter.unusedVariables false
def idxD (n:Nat) (p:Nat → Bool):Int:=match (List.range n).find? p with
  | some k=>k
  | none=>-1
theorem idxD_some {n k:Nat} {p:Nat → Bool} (hk:decide ((k:Int) < (n:Int)) = true) (hp:p k = true) (hF:∀ i,i < k → p i = false):idxD n p = k:=by
  have hk:k < n:=by have:=of_decide_eq_true hk;omega
  unfold idxD
  have:(List.range n).find? p = some k:=by
    rw [List.find?_eq_some_iff_getElem]
    refine ⟨hp,k,by simpa using hk,by simp,fun j hj=>?_⟩
    simp [hF j hj]
  rw [this]
theorem idxD_none {n k:Nat} {p:Nat → Bool} (hk:decide ((k:Int) < (n:Int)) = false) (hF:∀ i,i < k → p i = false):idxD n p = -1:=by
  have hk:n ≤ k:=by have:=of_decide_eq_false hk;omega
  unfold idxD
  have:(List.range n).find? p = none:=by
    rw [List.find?_eq_none]
    intro x hx
    have:=List.mem_range.1 hx
    rw [hF x (by omega)];decide
  rw [this]
theorem idxD_lt {n:Nat} {p:Nat → Bool}:idxD n p < n:=by
  unfold idxD
  split
  · rename_i k h
    have:=List.mem_range.1 (List.mem_of_find?_eq_some h);omega
  · omega
theorem idxD_ge {n:Nat} {p:Nat → Bool}:idxD n p ≥ 0 ↔ ∃ k,k < n ∧ p k = true:=by
  unfold idxD
  split
  · rename_i k h
    exact ⟨fun _=>⟨k,List.mem_range.1 (List.mem_of_find?_eq_some h),List.find?_some h⟩,fun _=>by omega⟩
  · rename_i h
    rw [List.find?_eq_none] at h
    refine ⟨fun h=>by omega,fun ⟨k,h1,h2⟩=>?_⟩
    exact absurd h2 (h k (List.mem_range.2 h1))
theorem allN' {p:Nat → Bool} {k:Nat} (hF:∀ i,i < k → p i = false) (h:p k = false):∀ i,i < k + 1 → p i = false:=fun i hi=>by
  rcases Nat.lt_succ_iff_lt_or_eq.1 hi with h' | rfl
  · exact hF i h'
  · exact h
def pI (l:List Int) (v:Int) (k:Nat):Bool:=v == l[k]!
def pG (l:List Int) (v:Int) (k:Nat):Bool:=l[k]! == v
def pB (l:List BktD) (s:ByteArray) (k:Nat):Bool:=l[k]!.name.toList == s.toList
def pV (l:List VerD) (v:Int) (k:Nat):Bool:=l[k]!.id == v
theorem index_p (l:List Int) (v:Int):Pure Try.prog 96 [.d (ints l),I v] (I (idxD l.length (pI l v))):=by
  refine pure_of follows Try.func96 c96_eq r96 (Nat.le_of_ble_eq_true rfl) fun B σ hcl hsz=>?_
  have hlen:l.length ≤ 2 ^ 47:=by simpa using (show Sized (ints l) from hsz (.d (ints l)) (by simp)).len
  clear hsz
  repeat' (first | (simp -implicitDefEqProofs only [*,Nat.reduceBEq,↓reduceIte,Nat.reduceEqDiff,Nat.reduceAdd,reduceCtorEq,AO.kill,AV.kill,Int.reduceLT,Int.reduceToNat,List.getElem?_nil,Nat.reduceMul,Nat.reducePow,Nat.reduceLeDiff,rowOf_mapD,rowOf_mapI,rowOf_mapA,List.getElem?_cons_zero,List.getElem?_cons_succ,take_map_len,take_map_app,List.getElem?_cons_zero,c96,r96,v96_1,u96_2,u96_3,u96_4,u96_5,u96_6,u96_7,u96_8,u96_9,u96_10,u96_11,ty26,ty3,ints,int_,mvcgen_simp]) | (with_reducible refine And.intro ?_ ?_) | (refine loop_nat (l.length) (fun k=>∀ i,i < k → pI l v i = false) (fun k=>[(0,.d (ints l)),(1,I v),(7,I l.length),(8,I k)]) (fun k=>[]) ?_ (Wk.keep hcl ?_ ?_ ?_) fun k hk hF=>?_;rotate_left 1;(focus (simp [Fr.get,newF,Fr.map,AV.kill,AV.mapN,ints,int_]<;>fail));(focus (simp [sto,newL,Loc.kill,Loc.set,AO.kill,AV.kill,AV.mapN,ints,int_]<;>fail));(focus (simp [newL,Loc.kill,Loc.set,ints,int_]<;>fail));(try have hw:IntKind.i64.wrap ((k:Int) + 1) = (k:Int) + 1:=IntWalk.i64_in _ (by omega))) | (refine EndX.plain ?_) | (refine nil_split (fun hn=>?_) (fun hn=>?_)) | (refine gcall_no not_false ?_) | (refine gdcall_no not_false ?_) | (refine GuardS_of _ _ _ _ _ _ (fun hg=>?_) (fun hg=>?_)) | (refine GuardD_of _ _ _ _ (fun hg=>?_) (fun hg=>?_)) | (refine CondB_of _ _ _ _ _ _ _ ?_ (fun hg=>?_) (fun hg=>?_)))
  all_goals (try (first | ((first | unfold noN | unfold Fr.below | unfold Loc.below);simp [Fr.allN,AV.allN,AV.allNL,AO.allN];done) | rfl | trivial | assumption | (intro row hrow;simp only [List.mem_map] at hrow;obtain ⟨x,_,rfl⟩:=hrow;rfl) | (refine Wk.keep hcl ?_ ?_ ?_;(focus (simp [Fr.get,ints,int_]<;>fail));(focus (simp [sto,ints,int_]<;>fail));(focus (simp<;>fail))) | (simp [allP,opd,Fr.get,Fr.below,Fr.allN,AV.allN,AV.allNL,Loc.below,AO.allN,noN,killO,killT,killD,mkNames,AO.kill,AV.kill,AV.mapN,AV.mapNL];done) | (with_reducible exact ltD (by assumption)) | omega | (simp only [decide_eq_true_eq,decide_eq_false_iff_not] at *;omega)))
  all_goals first
    | (rw [idxD_some (p:=pI l v) (k:=k) (by assumption) (by assumption) hF];done)
    | (rw [idxD_none (p:=pI l v) (k:=k) (by assumption) hF];done)
    | exact allN' hF (by assumption)
theorem contains_p (l:List Int) (v:Int):Pure Try.prog 93 [.d (ints l),I v] (Bo (decide (idxD l.length (pI l v) ≥ 0))):=by
  refine pure_of follows Try.func93 c93_eq r93 (Nat.le_of_ble_eq_true rfl) fun B σ hcl hsz=>?_
  clear hsz
  repeat' (first | (simp -implicitDefEqProofs only [*,Nat.reduceBEq,↓reduceIte,Nat.reduceEqDiff,Nat.reduceAdd,reduceCtorEq,AO.kill,AV.kill,Int.reduceLT,Int.reduceToNat,List.getElem?_nil,Nat.reduceMul,Nat.reducePow,Nat.reduceLeDiff,rowOf_mapD,rowOf_mapI,rowOf_mapA,List.getElem?_cons_zero,List.getElem?_cons_succ,take_map_len,take_map_app,List.getElem?_cons_zero,c93,r93,u93_1,ty3,mvcgen_simp]) | (with_reducible refine And.intro ?_ ?_) | (refine call_ro e96 ( index_p l v) rfl ?_ ?_ ?_ ?_) | (refine gcall_ro e96 ( index_p l v) rfl ?_ ?_ ?_ ?_) | (refine dcall_ro e96 ( index_p l v) rfl ?_ ?_ ?_ ?_) | (refine gdcall_ro rfl e96 ( index_p l v) rfl ?_ ?_ ?_ ?_) | (refine EndX.plain ?_) | (refine nil_split (fun hn=>?_) (fun hn=>?_)) | (refine gcall_no not_false ?_) | (refine gdcall_no not_false ?_) | (refine GuardS_of _ _ _ _ _ _ (fun hg=>?_) (fun hg=>?_)) | (refine GuardD_of _ _ _ _ (fun hg=>?_) (fun hg=>?_)) | (refine CondB_of _ _ _ _ _ _ _ ?_ (fun hg=>?_) (fun hg=>?_)))
  all_goals (try (first | ((first | unfold noN | unfold Fr.below | unfold Loc.below);simp [Fr.allN,AV.allN,AV.allNL,AO.allN];done) | rfl | trivial | assumption | (intro row hrow;simp only [List.mem_map] at hrow;obtain ⟨x,_,rfl⟩:=hrow;rfl) | (refine Wk.keep hcl ?_ ?_ ?_;(focus (simp [Fr.get]<;>fail));(focus (simp [sto]<;>fail));(focus (simp<;>fail))) | (simp [allP,opd,Fr.get,Fr.below,Fr.allN,AV.allN,AV.allNL,Loc.below,AO.allN,noN,killO,killT,killD,mkNames,AO.kill,AV.kill,AV.mapN,AV.mapNL];done) | (with_reducible exact ltD (by assumption)) | omega | (simp only [decide_eq_true_eq,decide_eq_false_iff_not] at *;omega)))
theorem gone_p (s:SttD) (v:Int):Pure Try.prog 82 [s.av,I v] (Bo (decide (idxD s.gone.length (pG s.gone v) ≥ 0))):=by
  refine pure_of follows Try.func82 c82_eq r82 (Nat.le_of_ble_eq_true rfl) fun B σ hcl hsz=>?_
  obtain ⟨z1,z2,z3,z4,z5⟩:=st_sz5 (hsz s.av (by simp))
  clear hsz
  repeat' (first | (simp -implicitDefEqProofs only [*,Nat.reduceBEq,↓reduceIte,Nat.reduceEqDiff,Nat.reduceAdd,reduceCtorEq,AO.kill,AV.kill,Int.reduceLT,Int.reduceToNat,List.getElem?_nil,Nat.reduceMul,Nat.reducePow,Nat.reduceLeDiff,rowOf_mapD,rowOf_mapI,rowOf_mapA,List.getElem?_cons_zero,List.getElem?_cons_succ,take_map_len,take_map_app,List.getElem?_cons_zero,c82,r82,u82_1,v82_2,u82_3,u82_4,u82_5,u82_6,u82_7,u82_8,u82_9,u82_10,ty28,ty26,ty3,SttD.av,SttD.cells,ints,int_,mvcgen_simp]) | (with_reducible refine And.intro ?_ ?_) | (refine loop_nat (s.gone.length) (fun k=>∀ i,i < k → pG s.gone v i = false) (fun k=>[(2,.lp (B + 2) 0),(1,I v),(5,I k)]) (fun k=>[(B + 2,.box s.cells)]) ?_ (Wk.keep hcl ?_ ?_ ?_) fun k hk hF=>?_;rotate_left 1;(focus (simp [Fr.get,newF,Fr.map,AV.kill,AV.mapN,SttD.av,SttD.cells,ints,int_]<;>fail));(focus (simp [sto,newL,Loc.kill,Loc.set,AO.kill,AV.kill,AV.mapN,SttD.av,SttD.cells,ints,int_]<;>fail));(focus (simp [newL,Loc.kill,Loc.set,SttD.av,SttD.cells,ints,int_]<;>fail));(try have hw:IntKind.i64.wrap ((k:Int) + 1) = (k:Int) + 1:=IntWalk.i64_in _ (by omega))) | (refine EndX.plain ?_) | (refine nil_split (fun hn=>?_) (fun hn=>?_)) | (refine gcall_no not_false ?_) | (refine gdcall_no not_false ?_) | (refine GuardS_of _ _ _ _ _ _ (fun hg=>?_) (fun hg=>?_)) | (refine GuardD_of _ _ _ _ (fun hg=>?_) (fun hg=>?_)) | (refine CondB_of _ _ _ _ _ _ _ ?_ (fun hg=>?_) (fun hg=>?_)))
  all_goals (try (first | ((first | unfold noN | unfold Fr.below | unfold Loc.below);simp [Fr.allN,AV.allN,AV.allNL,AO.allN];done) | rfl | trivial | assumption | (intro row hrow;simp only [List.mem_map] at hrow;obtain ⟨x,_,rfl⟩:=hrow;rfl) | (refine Wk.keep hcl ?_ ?_ ?_;(focus (simp [Fr.get,SttD.av,SttD.cells,ints,int_]<;>fail));(focus (simp [sto,SttD.av,SttD.cells,ints,int_]<;>fail));(focus (simp<;>fail))) | (simp [allP,opd,Fr.get,Fr.below,Fr.allN,AV.allN,AV.allNL,Loc.below,AO.allN,noN,killO,killT,killD,mkNames,AO.kill,AV.kill,AV.mapN,AV.mapNL];done) | (with_reducible exact ltD (by assumption)) | omega | (simp only [decide_eq_true_eq,decide_eq_false_iff_not] at *;omega)))
  all_goals first
    | (rw [idxD_some (p:=pG s.gone v) (k:=k) (by assumption) (by assumption) hF,decide_eq_true (by omega)];done)
    | (rw [idxD_none (p:=pG s.gone v) (k:=k) (by assumption) hF];rfl)
    | exact allN' hF (by assumption)
theorem bucketAt_p (s:SttD) (v:ByteArray):Pure Try.prog 62 [s.av,.d (.v (.string v))] (I (idxD s.bkts.length (pB s.bkts v))):=by
  refine pure_of follows Try.func62 c62_eq r62 (Nat.le_of_ble_eq_true rfl) fun B σ hcl hsz=>?_
  obtain ⟨z1,z2,z3,z4,z5⟩:=st_sz5 (hsz s.av (by simp))
  clear hsz
  repeat' (first | (simp -implicitDefEqProofs only [*,Nat.reduceBEq,↓reduceIte,Nat.reduceEqDiff,Nat.reduceAdd,reduceCtorEq,AO.kill,AV.kill,Int.reduceLT,Int.reduceToNat,List.getElem?_nil,Nat.reduceMul,Nat.reducePow,Nat.reduceLeDiff,rowOf_mapD,rowOf_mapI,rowOf_mapA,List.getElem?_cons_zero,List.getElem?_cons_succ,take_map_len,take_map_app,List.getElem?_cons_zero,c62,r62,u62_1,v62_2,u62_3,u62_4,u62_5,u62_6,u62_7,u62_8,u62_9,u62_10,ty28,ty22,ty3,ty47,ty9,SttD.av,SttD.cells,BktD.row,ints,int_,mvcgen_simp]) | (with_reducible refine And.intro ?_ ?_) | (refine loop_nat (s.bkts.length) (fun k=>∀ i,i < k → pB s.bkts v i = false) (fun k=>[(2,.lp (B + 2) 0),(1,.d (.v (.string v))),(5,I k)]) (fun k=>[(B + 2,.box s.cells)]) ?_ (Wk.keep hcl ?_ ?_ ?_) fun k hk hF=>?_;rotate_left 1;(focus (simp [Fr.get,newF,Fr.map,AV.kill,AV.mapN,SttD.av,SttD.cells,BktD.row,ints,int_]<;>fail));(focus (simp [sto,newL,Loc.kill,Loc.set,AO.kill,AV.kill,AV.mapN,SttD.av,SttD.cells,BktD.row,ints,int_]<;>fail));(focus (simp [newL,Loc.kill,Loc.set,SttD.av,SttD.cells,BktD.row,ints,int_]<;>fail));(try have hw:IntKind.i64.wrap ((k:Int) + 1) = (k:Int) + 1:=IntWalk.i64_in _ (by omega))) | (refine EndX.plain ?_) | (refine nil_split (fun hn=>?_) (fun hn=>?_)) | (refine gcall_no not_false ?_) | (refine gdcall_no not_false ?_) | (refine GuardS_of _ _ _ _ _ _ (fun hg=>?_) (fun hg=>?_)) | (refine GuardD_of _ _ _ _ (fun hg=>?_) (fun hg=>?_)) | (refine CondB_of _ _ _ _ _ _ _ ?_ (fun hg=>?_) (fun hg=>?_)))
  all_goals (try (first | ((first | unfold noN | unfold Fr.below | unfold Loc.below);simp [Fr.allN,AV.allN,AV.allNL,AO.allN];done) | rfl | trivial | assumption | (intro row hrow;simp only [List.mem_map] at hrow;obtain ⟨x,_,rfl⟩:=hrow;rfl) | (refine Wk.keep hcl ?_ ?_ ?_;(focus (simp [Fr.get,SttD.av,SttD.cells,BktD.row,ints,int_]<;>fail));(focus (simp [sto,SttD.av,SttD.cells,BktD.row,ints,int_]<;>fail));(focus (simp<;>fail))) | (simp [allP,opd,Fr.get,Fr.below,Fr.allN,AV.allN,AV.allNL,Loc.below,AO.allN,noN,killO,killT,killD,mkNames,AO.kill,AV.kill,AV.mapN,AV.mapNL];done) | (with_reducible exact ltD (by assumption)) | omega | (simp only [decide_eq_true_eq,decide_eq_false_iff_not] at *;omega)))
  all_goals first
    | (rw [idxD_some (p:=pB s.bkts v) (k:=k) (by assumption) (by assumption) hF];done)
    | (rw [idxD_none (p:=pB s.bkts v) (k:=k) (by assumption) hF];done)
    | exact allN' hF (by assumption)
theorem versionAt_p (s:SttD) (v:Int):Pure Try.prog 65 [s.av,I v] (I (idxD s.vers.length (pV s.vers v))):=by
  refine pure_of follows Try.func65 c65_eq r65 (Nat.le_of_ble_eq_true rfl) fun B σ hcl hsz=>?_
  obtain ⟨z1,z2,z3,z4,z5⟩:=st_sz5 (hsz s.av (by simp))
  clear hsz
  repeat' (first | (simp -implicitDefEqProofs only [*,Nat.reduceBEq,↓reduceIte,Nat.reduceEqDiff,Nat.reduceAdd,reduceCtorEq,AO.kill,AV.kill,Int.reduceLT,Int.reduceToNat,List.getElem?_nil,Nat.reduceMul,Nat.reducePow,Nat.reduceLeDiff,rowOf_mapD,rowOf_mapI,rowOf_mapA,List.getElem?_cons_zero,List.getElem?_cons_succ,take_map_len,take_map_app,List.getElem?_cons_zero,c65,r65,u65_1,v65_2,u65_3,u65_4,u65_5,u65_6,u65_7,u65_8,u65_9,u65_10,ty28,ty23,ty3,ty51,SttD.av,SttD.cells,VerD.row,ints,int_,mvcgen_simp]) | (with_reducible refine And.intro ?_ ?_) | (refine loop_nat (s.vers.length) (fun k=>∀ i,i < k → pV s.vers v i = false) (fun k=>[(2,.lp (B + 2) 0),(1,I v),(5,I k)]) (fun k=>[(B + 2,.box s.cells)]) ?_ (Wk.keep hcl ?_ ?_ ?_) fun k hk hF=>?_;rotate_left 1;(focus (simp [Fr.get,newF,Fr.map,AV.kill,AV.mapN,SttD.av,SttD.cells,VerD.row,ints,int_]<;>fail));(focus (simp [sto,newL,Loc.kill,Loc.set,AO.kill,AV.kill,AV.mapN,SttD.av,SttD.cells,VerD.row,ints,int_]<;>fail));(focus (simp [newL,Loc.kill,Loc.set,SttD.av,SttD.cells,VerD.row,ints,int_]<;>fail));(try have hw:IntKind.i64.wrap ((k:Int) + 1) = (k:Int) + 1:=IntWalk.i64_in _ (by omega))) | (refine EndX.plain ?_) | (refine nil_split (fun hn=>?_) (fun hn=>?_)) | (refine gcall_no not_false ?_) | (refine gdcall_no not_false ?_) | (refine GuardS_of _ _ _ _ _ _ (fun hg=>?_) (fun hg=>?_)) | (refine GuardD_of _ _ _ _ (fun hg=>?_) (fun hg=>?_)) | (refine CondB_of _ _ _ _ _ _ _ ?_ (fun hg=>?_) (fun hg=>?_)))
  all_goals (try (first | ((first | unfold noN | unfold Fr.below | unfold Loc.below);simp [Fr.allN,AV.allN,AV.allNL,AO.allN];done) | rfl | trivial | assumption | (intro row hrow;simp only [List.mem_map] at hrow;obtain ⟨x,_,rfl⟩:=hrow;rfl) | (refine Wk.keep hcl ?_ ?_ ?_;(focus (simp [Fr.get,SttD.av,SttD.cells,VerD.row,ints,int_]<;>fail));(focus (simp [sto,SttD.av,SttD.cells,VerD.row,ints,int_]<;>fail));(focus (simp<;>fail))) | (simp [allP,opd,Fr.get,Fr.below,Fr.allN,AV.allN,AV.allNL,Loc.below,AO.allN,noN,killO,killT,killD,mkNames,AO.kill,AV.kill,AV.mapN,AV.mapNL];done) | (with_reducible exact ltD (by assumption)) | omega | (simp only [decide_eq_true_eq,decide_eq_false_iff_not] at *;omega)))
  all_goals first
    | (rw [idxD_some (p:=pV s.vers v) (k:=k) (by assumption) (by assumption) hF];done)
    | (rw [idxD_none (p:=pV s.vers v) (k:=k) (by assumption) hF];done)
    | exact allN' hF (by assumption)
end Go.Proofs.Ytijpmidnclbhpaa
