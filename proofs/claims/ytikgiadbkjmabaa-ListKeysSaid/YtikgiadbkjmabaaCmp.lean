/- Texts,compared. -/
import Derived.Test.YtikgiadbkjmabaaBase
import Derived.Lib.Strings
import Derived.Lib.Slices
import Derived.Lib.Walk
import Derived.Lib.Bytealg
import Derived.Test.YtikgiadbkjmabaaTypes
namespace Go.Proofs.Ytikgiadbkjmabaa
open Go.RowKit
set_option linter.unusedSimpArgs false
set_option linter.unusedVariables false
set_option maxRecDepth 100000
def c29_1:SC:=(.seq (.reg [SO.mk (some 5) (.move (.tmp 0)) none,SO.mk (some 6) (.move (.tmp 1)) none,SO.mk (some 7) (.call 47 [(.tmp 5),(.tmp 6)]) none,SO.mk (some 4) (.move (.tmp 7)) none]) (.keep [4] .ret))
theorem u29_1:type_of% (@swc _ _ c29_1.eq_1):=@swc _ _ c29_1.eq_1
def c29:SC:=(.seq (.reg [SO.mk (some 4) (.move (.const (Value.int .i64 0))) none]) (.keep [0,1] c29_1))
theorem c29_eq:annC Try.f29 = some c29:=by kernel_rfl
theorem r29:Try.f29.results.toList = [.tmp 4]:=by kernel_rfl
theorem e29:enters Try.prog 29 = true:=by kernel_rfl
end Go.Proofs.Ytikgiadbkjmabaa
namespace Go.Proofs.Ytikgiadbkjmabaa
open Go.RowKit
set_option linter.unusedSimpArgs false
set_option linter.unusedVariables false
set_option maxHeartbeats 1000000
set_option maxRecDepth 100000
theorem cmpS_calls (a b:ByteArray) (w:World):Calls Try.prog 47 #[.string a,.string b] w fun e w'=>e = .returned (.int .i64 (Lib.compareBytes a.data.toList b.data.toList)) ∧ w' = w:=by
  have mixed:=follows
  go_enter Try.func47,Try.ntmps47
  go_wp2
  rw [run_callFunc_extern Try.func78 (by kernel_rfl) (by kernel_rfl) (by kernel_rfl) (e:=Extern.BytealgCompare.compare) (by kernel_rfl),Lib.run_compareString]
  simp only [Result.andThen]
  rw [Oper.upon_value]
  go_wp2
  go_ret
  exact ⟨rfl,rfl⟩
def cmpB (a b:ByteArray):Int:=Lib.compareBytes a.data.toList b.data.toList
theorem cmpS_p (a b:ByteArray):Pure Try.prog 47 [.d (.v (.string a)),.d (.v (.string b))] (I (cmpB a b)):=by
  unfold Pure
  intro B σ
  unfold ACalls
  intro xs w ⟨K0,hK0⟩
  have hxs:xs = [.string a,.string b]:=by
    obtain ⟨_,_,h3,h4⟩:=hK0
    match xs,h3,h4 with
    | [x,y],h3,h4 =>
      have e1:=h4 0 _ x rfl rfl
      have e2:=h4 1 _ y rfl rfl
      cases e1 with | d e1=>cases e1 with | v _=>cases e2 with | d e2=>cases e2 with | v _=>rfl
  subst hxs
  refine (cmpS_calls a b w).mono ?_
  rintro e w' ⟨rfl,rfl⟩
  exact ⟨_,_,σ,rfl,⟨rfl,rfl⟩,fun K hK=>⟨K,Ext.refl _ _ _ _ _,hK.1,.d (.v rfl)⟩⟩
theorem e47:enters Try.prog 47 = true:=by kernel_rfl
theorem cmp_p (a b:ByteArray):Pure Try.prog 29 [.d (.v (.string a)),.d (.v (.string b))] (I (cmpB a b)):=by
  refine pure_of follows Try.func29 c29_eq r29 (Nat.le_of_ble_eq_true rfl) fun B σ hcl hsz=>?_
  clear hsz
  repeat' (first | (simp -implicitDefEqProofs only [*,Nat.reduceBEq,↓reduceIte,Nat.reduceEqDiff,Nat.reduceAdd,reduceCtorEq,AO.kill,Int.reduceLT,Int.reduceToNat,List.getElem?_nil,Nat.reduceMul,Nat.reducePow,Nat.reduceLeDiff,rowOf_mapD,rowOf_mapI,rowOf_mapA,List.getElem?_cons_zero,List.getElem?_cons_succ,take_map_len,take_map_app,List.getElem?_cons_zero,c29,r29,u29_1,mvcgen_simp]) | (with_reducible refine And.intro ?_ ?_) | (refine call_ro e47 ( cmpS_p a b) rfl ?_ ?_ ?_ ?_) | (refine gcall_ro e47 ( cmpS_p a b) rfl ?_ ?_ ?_ ?_) | (refine dcall_ro e47 ( cmpS_p a b) rfl ?_ ?_ ?_ ?_) | (refine gdcall_ro rfl e47 ( cmpS_p a b) rfl ?_ ?_ ?_ ?_) | (refine EndX.plain ?_) | (refine nil_split (fun hn=>?_) (fun hn=>?_)) | (refine gcall_no not_false ?_) | (refine gdcall_no not_false ?_) | (refine GuardS_of _ _ _ _ _ _ (fun hg=>?_) (fun hg=>?_)) | (refine GuardD_of _ _ _ _ (fun hg=>?_) (fun hg=>?_)) | (refine CondB_of _ _ _ _ _ _ _ ?_ (fun hg=>?_) (fun hg=>?_)))
  all_goals (try (first | ((first | unfold noN | unfold Fr.below | unfold Loc.below);simp [Fr.allN,AV.allN,AV.allNL,AO.allN];done) | rfl | trivial | assumption | (intro row hrow;simp only [List.mem_map] at hrow;obtain ⟨x,_,rfl⟩:=hrow;rfl) | (refine Wk.keep hcl ?_ ?_ ?_;(focus (simp [Fr.get]<;>fail));(focus (simp [sto]<;>fail));(focus (simp<;>fail))) | (simp [allP,opd,Fr.get,Fr.below,Fr.allN,AV.allN,AV.allNL,Loc.below,AO.allN,noN,killO,killT,killD,mkNames,AO.kill,AV.kill,AV.mapN,AV.mapNL];done) | (with_reducible exact ltD (by assumption)) | omega | (simp only [decide_eq_true_eq,decide_eq_false_iff_not] at *;omega)))
end Go.Proofs.Ytikgiadbkjmabaa
