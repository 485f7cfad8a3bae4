/- Bytes cloned and joined. -/
import Derived.Test.YtijpmidnclbhpaaBase
import Derived.Test.YtijpmidnclbhpaaTypes

/- Bytes joined. -/
namespace Go.Proofs.Ytijpmidnclbhpaa
open Go.RowKit
set_option maxRecDepth 100000
end Go.Proofs.Ytijpmidnclbhpaa
namespace Go.Proofs.Ytijpmidnclbhpaa
open Go.RowKit
set_option maxHeartbeats 4000000
set_option maxRecDepth 20000
attribute [local irreducible] SW OSW SWL SWLn SWD SEcall SEcallv SDv SE SO1 SOg ACalls ACallv Wk EndV
set_option linter.unusedSimpArgs false
set_option linter.unusedVariables false
end Go.Proofs.Ytijpmidnclbhpaa
namespace Go.Proofs.Ytijpmidnclbhpaa
open Go.RowKit
set_option maxRecDepth 100000
def c28_1:SC:=(.seq (.reg [SO.mk (some 2) (.move (.const (Value.slice none 0 0))) none]) (.keep [2] .ret))
theorem u28_1:type_of% (@swc _ _ c28_1.eq_1):=@swc _ _ c28_1.eq_1
def c28_2:SC:=(.cond (.tmp 4) c28_1 .skip)
theorem u28_2:type_of% (@swc _ _ c28_2.eq_1):=@swc _ _ c28_2.eq_1
def c28_3:SC:=(.seq (.reg [SO.mk (some 5) (.bslice 29 0 []) none,SO.mk (some 6) (.move (.tmp 0)) none,SO.mk (some 7) (.app 29 29 (.tmp 5) (.tmp 6)) none,SO.mk (some 2) (.move (.tmp 7)) none]) (.keep [2] .ret))
theorem u28_3:type_of% (@swc _ _ c28_3.eq_1):=@swc _ _ c28_3.eq_1
def c28_4:SC:=(.seq (.seq (.reg [SO.mk (some 3) (.move (.tmp 0)) none,SO.mk (some 4) (.bin .eql 29 (.tmp 3) (.const (Value.slice none 0 0))) none]) (.keep [4,0] c28_2)) (.keep [0] c28_3))
theorem u28_4:type_of% (@swc _ _ c28_4.eq_1):=@swc _ _ c28_4.eq_1
def c28:SC:=(.seq (.reg [SO.mk (some 2) (.move (.const (Value.slice none 0 0))) none]) (.keep [0] c28_4))
theorem c28_eq:annC Try.f28 = some c28:=by kernel_rfl
theorem r28:Try.f28.results.toList = [.tmp 2]:=by kernel_rfl
theorem e28:enters Try.prog 28 = true:=by kernel_rfl
end Go.Proofs.Ytijpmidnclbhpaa
namespace Go.Proofs.Ytijpmidnclbhpaa
open Go.RowKit
set_option maxHeartbeats 4000000
set_option maxRecDepth 20000
attribute [local irreducible] SW OSW SWL SWLn SWD SEcall SEcallv SDv SE SO1 SOg ACalls ACallv Wk EndV
set_option linter.unusedSimpArgs false
set_option linter.unusedVariables false
theorem clone_p (l:List UInt8):Pure Try.prog 28 [.d (bytes l)] (.d (bytes l)):=by
  refine pureZ_of follows Try.func28 c28_eq r28 (Nat.le_of_ble_eq_true rfl) fun B σ hcl hsz=>?_
  have hlen:l.length ≤ 2 ^ 47:=by simpa using (show Sized (bytes l) from hsz (.d (bytes l)) (by simp)).len
  clear hsz
  repeat' (first | (simp -implicitDefEqProofs only [*,Nat.reduceBEq,↓reduceIte,Nat.reduceEqDiff,Nat.reduceAdd,reduceCtorEq,AO.kill,AV.kill,Int.reduceLT,Int.reduceToNat,List.getElem?_nil,Nat.reduceMul,Nat.reducePow,Nat.reduceLeDiff,rowOf_mapD,rowOf_mapI,rowOf_mapA,List.getElem?_cons_zero,List.getElem?_cons_succ,take_map_len,take_map_app,List.getElem?_cons_zero,c28,r28,u28_1,u28_2,u28_3,u28_4,ty29,ty5,bytes,mvcgen_simp]) | (with_reducible refine And.intro ?_ ?_) | (refine EndX.plain ?_) | (refine nil_split (fun hn=>?_) (fun hn=>?_)) | (refine gcall_no not_false ?_) | (refine gdcall_no not_false ?_) | (refine GuardS_of _ _ _ _ _ _ (fun hg=>?_) (fun hg=>?_)) | (refine GuardD_of _ _ _ _ (fun hg=>?_) (fun hg=>?_)) | (refine CondB_of _ _ _ _ _ _ _ ?_ (fun hg=>?_) (fun hg=>?_)))
  all_goals (try (first | ((first | unfold noN | unfold Fr.below | unfold Loc.below);simp [Fr.allN,AV.allN,AV.allNL,AO.allN];done) | rfl | trivial | assumption | (intro row hrow;simp only [List.mem_map] at hrow;obtain ⟨x,_,rfl⟩:=hrow;rfl) | (refine Wk.keep hcl ?_ ?_ ?_;(focus (simp [Fr.get,bytes]<;>fail));(focus (simp [sto,bytes]<;>fail));(focus (simp<;>fail))) | (simp [allP,opd,Fr.get,Fr.below,Fr.allN,AV.allN,AV.allNL,Loc.below,AO.allN,noN,killO,killT,killD,mkNames,AO.kill,AV.kill,AV.mapN,AV.mapNL];done) | (with_reducible exact ltD (by assumption)) | omega | (simp only [decide_eq_true_eq,decide_eq_false_iff_not] at *;omega)))
end Go.Proofs.Ytijpmidnclbhpaa
