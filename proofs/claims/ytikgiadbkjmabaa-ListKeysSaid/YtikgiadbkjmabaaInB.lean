/- A number in a range. -/
import Derived.Test.YtikgiadbkjmabaaBase
import Derived.Test.YtikgiadbkjmabaaTypes
namespace Go.Proofs.Ytikgiadbkjmabaa
open Go.RowKit
set_option maxRecDepth 100000
def o34_1:List SO:=((SO.mk (some 6) (.move (.tmp 14)) none) :: [])
theorem v34_1:type_of% (@swl _ _ o34_1.eq_1):=@swl _ _ o34_1.eq_1
def o34_2:List SO:=((SO.mk (some 11) (.move (.tmp 0)) (some (10 ,true))) :: (SO.mk (some 12) (.move (.tmp 2)) (some (10 ,true))) :: (SO.mk (some 13) (.bin .leq 3 (.tmp 11) (.tmp 12)) (some (10 ,true))) :: (SO.mk (some 14) (.pick (.tmp 10) (.tmp 13) (.const (Value.bool false))) none) :: o34_1)
theorem v34_2:type_of% (@swl _ _ o34_2.eq_1):=@swl _ _ o34_2.eq_1
def c34_3:SC:=(.seq (.reg ((SO.mk (some 7) (.move (.tmp 0)) none) :: (SO.mk (some 8) (.move (.tmp 1)) none) :: (SO.mk (some 9) (.bin .geq 3 (.tmp 7) (.tmp 8)) none) :: (SO.mk (some 10) (.move (.tmp 9)) none) :: o34_2)) (.keep [6] .ret))
theorem u34_3:type_of% (@swc _ _ c34_3.eq_1):=@swc _ _ c34_3.eq_1
def c34:SC:=(.seq (.reg [SO.mk (some 6) (.move (.const (Value.bool false))) none]) (.keep [1,0,2] c34_3))
theorem c34_eq:annC Try.f34 = some c34:=by kernel_rfl
theorem r34:Try.f34.results.toList = [.tmp 6]:=by kernel_rfl
theorem e34:enters Try.prog 34 = true:=by kernel_rfl
end Go.Proofs.Ytikgiadbkjmabaa
namespace Go.Proofs.Ytikgiadbkjmabaa
open Go.RowKit
set_option maxHeartbeats 4000000
set_option maxRecDepth 20000
attribute [local irreducible] SW OSW SWL SWLn SWD SEcall SEcallv SDv SE SO1 SOg ACalls ACallv Wk EndV
set_option linter.unusedSimpArgs false
set_option linter.unusedVariables false
def inR (x lo hi:Int):Bool:=decide (x ≥ lo) && decide (x ≤ hi)
theorem In_p (a b c:Int):Pure Try.prog 34 [I a,I b,I c] (Bo (inR a b c)):=by
  refine pure_of follows Try.func34 c34_eq r34 (Nat.le_of_ble_eq_true rfl) fun B σ hcl _=>?_
  repeat' (first | (simp -implicitDefEqProofs only [*,Nat.reduceBEq,↓reduceIte,Nat.reduceEqDiff,Nat.reduceAdd,reduceCtorEq,AO.kill,Int.reduceLT,Int.reduceToNat,List.getElem?_nil,Nat.reduceMul,Nat.reducePow,Nat.reduceLeDiff,rowOf_mapD,rowOf_mapI,rowOf_mapA,List.getElem?_cons_zero,List.getElem?_cons_succ,take_map_len,take_map_app,List.getElem?_cons_zero,c34,r34,v34_1,v34_2,u34_3,ty3,mvcgen_simp]) | (with_reducible refine And.intro ?_ ?_) | (refine EndX.plain ?_) | (refine nil_split (fun hn=>?_) (fun hn=>?_)) | (refine gcall_no not_false ?_) | (refine gdcall_no not_false ?_) | (refine GuardS_of _ _ _ _ _ _ (fun hg=>?_) (fun hg=>?_)) | (refine GuardD_of _ _ _ _ (fun hg=>?_) (fun hg=>?_)) | (refine CondB_of _ _ _ _ _ _ _ ?_ (fun hg=>?_) (fun hg=>?_)))
  all_goals (try (first | ((first | unfold noN | unfold Fr.below | unfold Loc.below);simp [Fr.allN,AV.allN,AV.allNL,AO.allN];done) | rfl | trivial | assumption | (intro row hrow;simp only [List.mem_map] at hrow;obtain ⟨x,_,rfl⟩:=hrow;rfl) | (refine Wk.keep hcl ?_ ?_ ?_;(focus (simp [Fr.get]<;>fail));(focus (simp [sto]<;>fail));(focus (simp<;>fail))) | (simp [allP,opd,Fr.get,Fr.below,Fr.allN,AV.allN,AV.allNL,Loc.below,AO.allN,noN,killO,killT,killD,mkNames,AO.kill,AV.kill,AV.mapN,AV.mapNL];done) | (with_reducible exact ltD (by assumption)) | omega | (simp only [decide_eq_true_eq,decide_eq_false_iff_not] at *;omega)))
  all_goals (simp only [inR,hg];rfl)
end Go.Proofs.Ytikgiadbkjmabaa
