/- What list.keys asks of the library: prefixes,the first of two that is not zero,the order of versions. -/
import Derived.Test.YtikgiadbkjmabaaBs
import Derived.Test.YtikgiadbkjmabaaFindB
import Derived.Test.YtikgiadbkjmabaaTypes
namespace Go.Proofs.Ytikgiadbkjmabaa
open Go.RowKit
set_option maxRecDepth 100000
def o44_1:List SO:=((SO.mk (some 17) (.pick (.tmp 10) (.tmp 16) (.const (Value.bool false))) none) :: (SO.mk (some 4) (.move (.tmp 17)) none) :: [])
theorem v44_1:type_of% (@swl _ _ o44_1.eq_1):=@swl _ _ o44_1.eq_1
def o44_2:List SO:=((SO.mk (some 13) (.len 9 (.tmp 12)) (some (10 ,true))) :: (SO.mk (some 14) (.slice 9 (.tmp 11) none (some (.tmp 13))) (some (10 ,true))) :: (SO.mk (some 15) (.move (.tmp 1)) (some (10 ,true))) :: (SO.mk (some 16) (.bin .eql 9 (.tmp 14) (.tmp 15)) (some (10 ,true))) :: o44_1)
theorem v44_2:type_of% (@swl _ _ o44_2.eq_1):=@swl _ _ o44_2.eq_1
def o44_3:List SO:=((SO.mk (some 9) (.bin .geq 3 (.tmp 6) (.tmp 8)) none) :: (SO.mk (some 10) (.move (.tmp 9)) none) :: (SO.mk (some 11) (.move (.tmp 0)) (some (10 ,true))) :: (SO.mk (some 12) (.move (.tmp 1)) (some (10 ,true))) :: o44_2)
theorem v44_3:type_of% (@swl _ _ o44_3.eq_1):=@swl _ _ o44_3.eq_1
def c44_4:SC:=(.seq (.reg ((SO.mk (some 5) (.move (.tmp 0)) none) :: (SO.mk (some 6) (.len 9 (.tmp 5)) none) :: (SO.mk (some 7) (.move (.tmp 1)) none) :: (SO.mk (some 8) (.len 9 (.tmp 7)) none) :: o44_3)) (.keep [4] .ret))
theorem u44_4:type_of% (@swc _ _ c44_4.eq_1):=@swc _ _ c44_4.eq_1
def c44:SC:=(.seq (.reg [SO.mk (some 4) (.move (.const (Value.bool false))) none]) (.keep [0,1] c44_4))
theorem c44_eq:annC Try.f44 = some c44:=by kernel_rfl
theorem r44:Try.f44.results.toList = [.tmp 4]:=by kernel_rfl
theorem e44:enters Try.prog 44 = true:=by kernel_rfl
def c25_1:SC:=(.seq (.reg [SO.mk (some 5) (.move (.tmp 0)) none,SO.mk (some 6) (.move (.tmp 1)) none,SO.mk (some 7) (.call 44 [(.tmp 5),(.tmp 6)]) none,SO.mk (some 4) (.move (.tmp 7)) none]) (.keep [4] .ret))
theorem u25_1:type_of% (@swc _ _ c25_1.eq_1):=@swc _ _ c25_1.eq_1
def c25:SC:=(.seq (.reg [SO.mk (some 4) (.move (.const (Value.bool false))) none]) (.keep [0,1] c25_1))
theorem c25_eq:annC Try.f25 = some c25:=by kernel_rfl
theorem r25:Try.f25.results.toList = [.tmp 4]:=by kernel_rfl
theorem e25:enters Try.prog 25 = true:=by kernel_rfl
def c28_1:SC:=(.seq (.reg [SO.mk (some 15) (.move (.tmp 5)) none,SO.mk (some 2) (.move (.tmp 15)) none]) (.keep [2] .ret))
theorem u28_1:type_of% (@swc _ _ c28_1.eq_1):=@swc _ _ c28_1.eq_1
def c28_2:SC:=(.cond (.tmp 14) c28_1 .skip)
theorem u28_2:type_of% (@swc _ _ c28_2.eq_1):=@swc _ _ c28_2.eq_1
def c28_3:SC:=(.seq (.reg [SO.mk (some 12) (.move (.tmp 5)) none,SO.mk (some 13) (.move (.tmp 3)) none,SO.mk (some 14) (.bin .neq 3 (.tmp 12) (.tmp 13)) none]) (.keep [14,5,8,7,6,3] c28_2))
theorem u28_3:type_of% (@swc _ _ c28_3.eq_1):=@swc _ _ c28_3.eq_1
def c28_4:SC:=(.reg [SO.mk (some 16) (.bin .add 3 (.tmp 8) (.const (Value.int .i64 1))) none,SO.mk (some 8) (.move (.tmp 16)) none])
theorem u28_4:type_of% (@swc _ _ c28_4.eq_1):=@swc _ _ c28_4.eq_1
def c28_5:SC:=(.seq (.block 1 (.seq (.reg [SO.mk (some 10) (.iaddr 26 (.tmp 6) (.tmp 8)) none,SO.mk (some 11) (.load 3 (.tmp 10)) none,SO.mk (some 5) (.move (.tmp 11)) none]) (.keep [5,8,7,6,3] c28_3))) (.keep [8,7,6,3] c28_4))
theorem u28_5:type_of% (@swc _ _ c28_5.eq_1):=@swc _ _ c28_5.eq_1
def c28_6:SC:=(.seq (.cond (.tmp 9) .skip (.exit 0)) (.keep [8,7,6,3] c28_5))
theorem u28_6:type_of% (@swc _ _ c28_6.eq_1):=@swc _ _ c28_6.eq_1
def c28_7:SC:=(.seq (.reg [SO.mk (some 9) (.bin .lss 3 (.tmp 8) (.tmp 7)) none]) (.keep [9,6,7,8,3] c28_6))
theorem u28_7:type_of% (@swc _ _ c28_7.eq_1):=@swc _ _ c28_7.eq_1
def c28_8:SC:=(.block 0 (.loop (.keep [6,7,8,3] c28_7)))
theorem u28_8:type_of% (@swc _ _ c28_8.eq_1):=@swc _ _ c28_8.eq_1
def c28_9:SC:=(.seq (.reg [SO.mk (some 17) (.move (.tmp 3)) none,SO.mk (some 2) (.move (.tmp 17)) none]) (.keep [2] .ret))
theorem u28_9:type_of% (@swc _ _ c28_9.eq_1):=@swc _ _ c28_9.eq_1
def c28_10:SC:=(.seq (.seq (.reg [SO.mk (some 6) (.move (.tmp 0)) none,SO.mk (some 7) (.len 26 (.tmp 6)) none,SO.mk (some 8) (.move (.const (Value.int .i64 0))) none]) (.keep [6,7,8,3] c28_8)) (.keep [3] c28_9))
theorem u28_10:type_of% (@swc _ _ c28_10.eq_1):=@swc _ _ c28_10.eq_1
def c28_11:SC:=(.seq (.reg [SO.mk (some 3) (.move (.const (Value.int .i64 0))) none]) (.keep [0,3] c28_10))
theorem u28_11:type_of% (@swc _ _ c28_11.eq_1):=@swc _ _ c28_11.eq_1
def c28:SC:=(.seq (.reg [SO.mk (some 2) (.move (.const (Value.int .i64 0))) none]) (.keep [0] c28_11))
theorem c28_eq:annC Try.f28 = some c28:=by kernel_rfl
theorem r28:Try.f28.results.toList = [.tmp 2]:=by kernel_rfl
theorem e28:enters Try.prog 28 = true:=by kernel_rfl
def o27_1:List SO:=((SO.mk (some 4) (.move (.tmp 16)) none) :: [])
theorem v27_1:type_of% (@swd _ _ o27_1.eq_1):=@swd _ _ o27_1.eq_1
def o27_2:List SO:=((SO.mk (some 13) (.load 3 (.tmp 12)) none) :: (SO.mk (some 14) (.call 30 [(.tmp 11),(.tmp 13)]) none) :: (SO.mk (some 15) (.bslice 26 2 [(0 ,(.tmp 9)),(1 ,(.tmp 14))]) none) :: (SO.mk (some 16) (.call 28 [(.tmp 15)]) none) :: o27_1)
theorem v27_2:type_of% (@swd _ _ o27_2.eq_1):=@swd _ _ o27_2.eq_1
def o27_3:List SO:=((SO.mk (some 9) (.call 29 [(.tmp 6),(.tmp 8)]) none) :: (SO.mk (some 10) (.faddr 41 (.tmp 3) 0) none) :: (SO.mk (some 11) (.load 3 (.tmp 10)) none) :: (SO.mk (some 12) (.faddr 41 (.tmp 2) 0) none) :: o27_2)
theorem v27_3:type_of% (@swd _ _ o27_3.eq_1):=@swd _ _ o27_3.eq_1
def o27_4:List SO:=((SO.mk (some 5) (.faddr 41 (.tmp 2) 2) none) :: (SO.mk (some 6) (.load 9 (.tmp 5)) none) :: (SO.mk (some 7) (.faddr 41 (.tmp 3) 2) none) :: (SO.mk (some 8) (.load 9 (.tmp 7)) none) :: o27_3)
theorem v27_4:type_of% (@swd _ _ o27_4.eq_1):=@swd _ _ o27_4.eq_1
theorem m27_4 (B:Nat):mkNames B o27_4 = []:=(rfl)
def c27_5:SC:=(.seq (.dreg false o27_4 []) (.keep [4] .ret))
theorem u27_5:type_of% (@swc _ _ c27_5.eq_1):=@swc _ _ c27_5.eq_1
def c27:SC:=(.seq (.reg [SO.mk (some 2) (.box 41 (.tmp 0)) none,SO.mk (some 3) (.box 41 (.tmp 1)) none,SO.mk (some 4) (.move (.const (Value.int .i64 0))) none]) (.keep [3,2] c27_5))
theorem c27_eq:annC Try.f27 = some c27:=by kernel_rfl
theorem r27:Try.f27.results.toList = [.tmp 4]:=by kernel_rfl
def o24_1:List SO:=((SO.mk (some 13) (.call 25 [(.tmp 11),(.tmp 12)]) (some (9 ,false))) :: (SO.mk (some 14) (.un .not (.tmp 13)) (some (9 ,false))) :: (SO.mk (some 15) (.pick (.tmp 9) (.const (Value.bool true)) (.tmp 14)) none) :: (SO.mk (some 4) (.move (.tmp 15)) none) :: [])
theorem v24_1:type_of% (@swl _ _ o24_1.eq_1):=@swl _ _ o24_1.eq_1
def o24_2:List SO:=((SO.mk (some 9) (.move (.tmp 8)) none) :: (SO.mk (some 10) (.faddr 41 (.tmp 3) 2) (some (9 ,false))) :: (SO.mk (some 11) (.load 9 (.tmp 10)) (some (9 ,false))) :: (SO.mk (some 12) (.load 9 (.tmp 2)) (some (9 ,false))) :: o24_1)
theorem v24_2:type_of% (@swl _ _ o24_2.eq_1):=@swl _ _ o24_2.eq_1
def c24_3:SC:=(.seq (.reg ((SO.mk (some 5) (.faddr 41 (.tmp 3) 1) none) :: (SO.mk (some 6) (.load 9 (.tmp 5)) none) :: (SO.mk (some 7) (.load 9 (.tmp 1)) none) :: (SO.mk (some 8) (.bin .neq 9 (.tmp 6) (.tmp 7)) none) :: o24_2)) (.keep [4] .ret))
theorem u24_3:type_of% (@swc _ _ c24_3.eq_1):=@swc _ _ c24_3.eq_1
def c24:SC:=(.seq (.reg [SO.mk (some 3) (.box 41 (.tmp 0)) none,SO.mk (some 4) (.move (.const (Value.bool false))) none]) (.keep [1,3,2] c24_3))
theorem c24_eq:annC Try.f24 = some c24:=by kernel_rfl
theorem r24:Try.f24.results.toList = [.tmp 4]:=by kernel_rfl
end Go.Proofs.Ytikgiadbkjmabaa
namespace Go.Proofs.Ytikgiadbkjmabaa
open Go.RowKit
set_option maxHeartbeats 4000000
set_option maxRecDepth 20000
attribute [local irreducible] SW OSW SWL SWLn SWD SEcall SEcallv SDv SE SO1 SOg ACalls ACallv Wk EndV
set_option linter.unusedSimpArgs false
set_option linter.unusedVariables false
def preB (s p:ByteArray):Bool:=decide ((s.size:Int) ≥ p.size) && ((s.extract 0 p.size).toList == p.toList)
theorem preS_p (s p:ByteArray):Pure Try.prog 44 [.d (.v (.string s)),.d (.v (.string p))] (Bo (preB s p)):=by
  refine pure_of follows Try.func44 c44_eq r44 (Nat.le_of_ble_eq_true rfl) fun B σ hcl hsz=>?_
  clear hsz
  repeat' (first | (simp -implicitDefEqProofs only [*,Nat.reduceBEq,↓reduceIte,Nat.reduceEqDiff,Nat.reduceAdd,reduceCtorEq,AO.kill,Int.reduceLT,Int.reduceToNat,List.getElem?_nil,Nat.reduceMul,Nat.reducePow,Nat.reduceLeDiff,rowOf_mapD,rowOf_mapI,rowOf_mapA,List.getElem?_cons_zero,List.getElem?_cons_succ,take_map_len,take_map_app,List.getElem?_cons_zero,c44,r44,v44_1,v44_2,v44_3,u44_4,ty9,ty3,bnd,sliceV,Option.getD_some,Option.getD_none,mvcgen_simp]) | (with_reducible refine And.intro ?_ ?_) | (refine EndX.plain ?_) | (refine nil_split (fun hn=>?_) (fun hn=>?_)) | (refine gcall_no not_false ?_) | (refine gdcall_no not_false ?_) | (refine GuardS_of _ _ _ _ _ _ (fun hg=>?_) (fun hg=>?_)) | (refine GuardD_of _ _ _ _ (fun hg=>?_) (fun hg=>?_)) | (refine CondB_of _ _ _ _ _ _ _ ?_ (fun hg=>?_) (fun hg=>?_)))
  all_goals (try (first | ((first | unfold noN | unfold Fr.below | unfold Loc.below);simp [Fr.allN,AV.allN,AV.allNL,AO.allN];done) | rfl | trivial | assumption | (intro row hrow;simp only [List.mem_map] at hrow;obtain ⟨x,_,rfl⟩:=hrow;rfl) | (refine Wk.keep hcl ?_ ?_ ?_;(focus (simp [Fr.get,bnd,sliceV,Option.getD_some,Option.getD_none]<;>fail));(focus (simp [sto,bnd,sliceV,Option.getD_some,Option.getD_none]<;>fail));(focus (simp<;>fail))) | (simp [allP,opd,Fr.get,Fr.below,Fr.allN,AV.allN,AV.allNL,Loc.below,AO.allN,noN,killO,killT,killD,mkNames,AO.kill,AV.kill,AV.mapN,AV.mapNL];done) | (with_reducible exact ltD (by assumption)) | omega | (simp only [decide_eq_true_eq,decide_eq_false_iff_not] at *;omega)))
  all_goals (try (simp only [decide_eq_true_eq] at hg;omega))
  all_goals (simp only [preB, *,Bool.false_or,Bool.true_or,Bool.or_true,Bool.or_false,Bool.and_true,Bool.true_and,Bool.false_and,Bool.and_false,Bool.not_true,Bool.not_false,cond_true,cond_false])
theorem pre_p (s p:ByteArray):Pure Try.prog 25 [.d (.v (.string s)),.d (.v (.string p))] (Bo (preB s p)):=by
  refine pure_of follows Try.func25 c25_eq r25 (Nat.le_of_ble_eq_true rfl) fun B σ hcl hsz=>?_
  clear hsz
  repeat' (first | (simp -implicitDefEqProofs only [*,Nat.reduceBEq,↓reduceIte,Nat.reduceEqDiff,Nat.reduceAdd,reduceCtorEq,AO.kill,Int.reduceLT,Int.reduceToNat,List.getElem?_nil,Nat.reduceMul,Nat.reducePow,Nat.reduceLeDiff,rowOf_mapD,rowOf_mapI,rowOf_mapA,List.getElem?_cons_zero,List.getElem?_cons_succ,take_map_len,take_map_app,List.getElem?_cons_zero,c25,r25,u25_1,mvcgen_simp]) | (with_reducible refine And.intro ?_ ?_) | (refine call_ro e44 ( preS_p s p) rfl ?_ ?_ ?_ ?_) | (refine gcall_ro e44 ( preS_p s p) rfl ?_ ?_ ?_ ?_) | (refine dcall_ro e44 ( preS_p s p) rfl ?_ ?_ ?_ ?_) | (refine gdcall_ro rfl e44 ( preS_p s p) rfl ?_ ?_ ?_ ?_) | (refine EndX.plain ?_) | (refine nil_split (fun hn=>?_) (fun hn=>?_)) | (refine gcall_no not_false ?_) | (refine gdcall_no not_false ?_) | (refine GuardS_of _ _ _ _ _ _ (fun hg=>?_) (fun hg=>?_)) | (refine GuardD_of _ _ _ _ (fun hg=>?_) (fun hg=>?_)) | (refine CondB_of _ _ _ _ _ _ _ ?_ (fun hg=>?_) (fun hg=>?_)))
  all_goals (try (first | ((first | unfold noN | unfold Fr.below | unfold Loc.below);simp [Fr.allN,AV.allN,AV.allNL,AO.allN];done) | rfl | trivial | assumption | (intro row hrow;simp only [List.mem_map] at hrow;obtain ⟨x,_,rfl⟩:=hrow;rfl) | (refine Wk.keep hcl ?_ ?_ ?_;(focus (simp [Fr.get]<;>fail));(focus (simp [sto]<;>fail));(focus (simp<;>fail))) | (simp [allP,opd,Fr.get,Fr.below,Fr.allN,AV.allN,AV.allNL,Loc.below,AO.allN,noN,killO,killT,killD,mkNames,AO.kill,AV.kill,AV.mapN,AV.mapNL];done) | (with_reducible exact ltD (by assumption)) | omega | (simp only [decide_eq_true_eq,decide_eq_false_iff_not] at *;omega)))
def orI (a b:Int):Int:=bif a != 0 then a else b
theorem or_p (a b:Int):Pure Try.prog 28 [.d (.ro [[.v (.int .i64 a)],[.v (.int .i64 b)]])] (I (orI a b)):=by
  refine pure_of follows Try.func28 c28_eq r28 (Nat.le_of_ble_eq_true rfl) fun B σ hcl hsz=>?_
  clear hsz
  have hr:∀ k:Nat,decide ((k:Int) < 2) = true → rowOf [[RV.v (.int .i64 a)],[RV.v (.int .i64 b)]] k = [.v (.int .i64 (bif k == 0 then a else b))]:=fun k hk=>by
    have:k = 0 ∨ k = 1:=by simp only [decide_eq_true_eq] at hk;omega
    rcases this with rfl | rfl<;>rfl
  repeat' (first | (simp -implicitDefEqProofs only [*,Nat.reduceBEq,↓reduceIte,Nat.reduceEqDiff,Nat.reduceAdd,reduceCtorEq,AO.kill,Int.reduceLT,Int.reduceToNat,List.getElem?_nil,Nat.reduceMul,Nat.reducePow,Nat.reduceLeDiff,rowOf_mapD,rowOf_mapI,rowOf_mapA,List.getElem?_cons_zero,List.getElem?_cons_succ,take_map_len,take_map_app,List.getElem?_cons_zero,c28,r28,u28_1,u28_2,u28_3,u28_4,u28_5,u28_6,u28_7,u28_8,u28_9,u28_10,u28_11,ty26,ty3,mvcgen_simp]) | (with_reducible refine And.intro ?_ ?_) | (refine loop_nat (2) (fun k=>(0 < k → a = 0) ∧ (1 < k → b = 0)) (fun k=>[(6,.d (.ro [[.v (.int .i64 a)],[.v (.int .i64 b)]])),(7,I 2),(8,I k),(3,I 0)]) (fun k=>[]) ?_ (Wk.keep hcl ?_ ?_ ?_) fun k hk hF=>?_;rotate_left 1;(focus (simp [Fr.get,newF,Fr.map,AV.kill,AV.mapN]<;>fail));(focus (simp [sto,newL,Loc.kill,Loc.set,AO.kill,AV.kill,AV.mapN]<;>fail));(focus (simp [newL,Loc.kill,Loc.set]<;>fail));(try have hw:IntKind.i64.wrap ((k:Int) + 1) = (k:Int) + 1:=IntWalk.i64_in _ (by omega))) | (refine EndX.plain ?_) | (refine nil_split (fun hn=>?_) (fun hn=>?_)) | (refine gcall_no not_false ?_) | (refine gdcall_no not_false ?_) | (refine GuardS_of _ _ _ _ _ _ (fun hg=>?_) (fun hg=>?_)) | (refine GuardD_of _ _ _ _ (fun hg=>?_) (fun hg=>?_)) | (refine CondB_of _ _ _ _ _ _ _ ?_ (fun hg=>?_) (fun hg=>?_)))
  all_goals (try (first | ((first | unfold noN | unfold Fr.below | unfold Loc.below);simp [Fr.allN,AV.allN,AV.allNL,AO.allN];done) | rfl | trivial | assumption | (intro row hrow;simp only [List.mem_map] at hrow;obtain ⟨x,_,rfl⟩:=hrow;rfl) | (refine Wk.keep hcl ?_ ?_ ?_;(focus (simp [Fr.get]<;>fail));(focus (simp [sto]<;>fail));(focus (simp<;>fail))) | (simp [allP,opd,Fr.get,Fr.below,Fr.allN,AV.allN,AV.allNL,Loc.below,AO.allN,noN,killO,killT,killD,mkNames,AO.kill,AV.kill,AV.mapN,AV.mapNL];done) | (with_reducible exact ltD (by assumption)) | omega | (simp only [decide_eq_true_eq,decide_eq_false_iff_not] at *;omega)))
  · rename_i h1
    have hk2:k = 0 ∨ k = 1:=by simp only [decide_eq_true_eq] at h1;omega
    rcases hk2 with rfl | rfl
    · have h9:(a != 0) = true:=hg
      simp only [orI,h9,cond_true];rfl
    · have h8:=hF.1 (by omega)
      subst h8;rfl
  · rename_i h1
    have hk2:k = 0 ∨ k = 1:=by simp only [decide_eq_true_eq] at h1;omega
    rcases hk2 with rfl | rfl
    · have h9:(a != 0) = false:=hg
      simpa using h9
    · exact hF.1 (by omega)
  · rename_i h1
    intro h2
    have hk2:k = 1:=by simp only [decide_eq_true_eq] at h1;omega
    subst hk2
    have h9:(b != 0) = false:=hg
    simpa using h9
  · have hk2:k = 2:=by simp only [decide_eq_false_iff_not] at hg;omega
    subst hk2
    rw [hF.1 (by omega),hF.2 (by omega)];rfl
def ordV (a b:VerD):Int:=orI (cmpB a.key b.key) (cmpI b.id a.id)
def skipV (name pre:ByteArray) (v:VerD):Bool:=(!(v.bkt.toList == name.toList)) || !preB v.key pre
theorem skip_p (name pre:ByteArray) (v:VerD) (m1 m2:Nat):PureC (fun σ=>σ m1 = .box [.d (.v (.string name))] ∧ σ m2 = .box [.d (.v (.string pre))]) Try.prog 24 [.agg (v.row.map .d),.lp m1 0,.lp m2 0] (Bo (skipV name pre v)):=by
  refine pure_ofC follows Try.func24 c24_eq r24 (Nat.le_of_ble_eq_true rfl) fun B σ hC hcl hsz=>?_
  clear hsz
  obtain ⟨hC1,hC2⟩:=hC
  have hn1:m1 < B:=by
    rcases Nat.lt_or_ge m1 B with h | h
    · exact h
    · rw [(hcl m1).2 h] at hC1;cases hC1
  have hn2:m2 < B:=by
    rcases Nat.lt_or_ge m2 B with h | h
    · exact h
    · rw [(hcl m2).2 h] at hC2;cases hC2
  have y1:∀ s,(m1 = B + s) = False:=fun s=>by simp;omega
  have y2:∀ s,(B + s = m1) = False:=fun s=>by simp;omega
  have y3:∀ s,(m2 = B + s) = False:=fun s=>by simp;omega
  have y4:∀ s,(B + s = m2) = False:=fun s=>by simp;omega
  repeat' (first | (simp -implicitDefEqProofs only [*,Nat.reduceBEq,↓reduceIte,Nat.reduceEqDiff,Nat.reduceAdd,reduceCtorEq,AO.kill,Int.reduceLT,Int.reduceToNat,List.getElem?_nil,Nat.reduceMul,Nat.reducePow,Nat.reduceLeDiff,rowOf_mapD,rowOf_mapI,rowOf_mapA,List.getElem?_cons_zero,List.getElem?_cons_succ,take_map_len,take_map_app,List.getElem?_cons_zero,c24,r24,v24_1,v24_2,u24_3,ty41,ty9,y1,y2,y3,y4,hC1,hC2,VerD.row,mvcgen_simp]) | (with_reducible refine And.intro ?_ ?_) | (refine call_ro e25 ( pre_p v.key pre) rfl ?_ ?_ ?_ ?_) | (refine gcall_ro e25 ( pre_p v.key pre) rfl ?_ ?_ ?_ ?_) | (refine dcall_ro e25 ( pre_p v.key pre) rfl ?_ ?_ ?_ ?_) | (refine gdcall_ro rfl e25 ( pre_p v.key pre) rfl ?_ ?_ ?_ ?_) | (refine EndX.plain ?_) | (refine nil_split (fun hn=>?_) (fun hn=>?_)) | (refine gcall_no not_false ?_) | (refine gdcall_no not_false ?_) | (refine GuardS_of _ _ _ _ _ _ (fun hg=>?_) (fun hg=>?_)) | (refine GuardD_of _ _ _ _ (fun hg=>?_) (fun hg=>?_)) | (refine CondB_of _ _ _ _ _ _ _ ?_ (fun hg=>?_) (fun hg=>?_)))
  all_goals (try (first | ((first | unfold noN | unfold Fr.below | unfold Loc.below);simp [Fr.allN,AV.allN,AV.allNL,AO.allN];done) | rfl | trivial | assumption | (intro row hrow;simp only [List.mem_map] at hrow;obtain ⟨x,_,rfl⟩:=hrow;rfl) | (refine Wk.keep hcl ?_ ?_ ?_;(focus (simp [Fr.get,y1,y2,y3,y4,hC1,hC2,VerD.row]<;>fail));(focus (simp [sto,y1,y2,y3,y4,hC1,hC2,VerD.row]<;>fail));(focus (simp<;>fail))) | (simp [allP,opd,Fr.get,Fr.below,Fr.allN,AV.allN,AV.allNL,Loc.below,AO.allN,noN,killO,killT,killD,mkNames,AO.kill,AV.kill,AV.mapN,AV.mapNL];done) | (with_reducible exact ltD (by assumption)) | omega | (simp only [decide_eq_true_eq,decide_eq_false_iff_not] at *;omega)))
  all_goals (try (simp [Fr.below,Fr.allN,AV.allN,AV.allNL,Loc.below];omega))
  all_goals (simp only [skipV])
  all_goals (
    have hh:=hg
    simp only [bne,Bool.not_eq_true',Bool.not_eq_false'] at hh
    simp only [hh,Bool.false_or,Bool.true_or,Bool.or_true,Bool.or_false,Bool.and_true,Bool.true_and,Bool.false_and,Bool.and_false,Bool.not_true,Bool.not_false,cond_true,cond_false])
end Go.Proofs.Ytikgiadbkjmabaa
