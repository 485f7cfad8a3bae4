/- Buckets that may be. -/
import Derived.Test.YtikgiadbkjmabaaSound
import Derived.Test.YtikgiadbkjmabaaTypes
namespace Go.Proofs.Ytikgiadbkjmabaa
open Go.RowKit
set_option maxRecDepth 100000
def o37_1:List SO:=((SO.mk (some 3) (.move (.tmp 9)) none) :: (SO.mk none (.store 54 (.tmp 4) (.tmp 11)) none) :: [])
theorem v37_1:type_of% (@swl _ _ o37_1.eq_1):=@swl _ _ o37_1.eq_1
def o37_2:List SO:=((SO.mk (some 12) (.faddr 54 (.tmp 4) 0) none) :: (SO.mk (some 13) (.load 9 (.tmp 12)) none) :: [])
theorem v37_2:type_of% (@swd _ _ o37_2.eq_1):=@swd _ _ o37_2.eq_1
theorem m37_2 (B:Nat):mkNames B o37_2 = []:=(rfl)
def o37_3:List SO:=((SO.mk (some 46) (.pick (.tmp 32) (.const (Value.bool true)) (.tmp 45)) none) :: [])
theorem v37_3:type_of% (@swl _ _ o37_3.eq_1):=@swl _ _ o37_3.eq_1
def o37_4:List SO:=((SO.mk (some 42) (.faddr 54 (.tmp 4) 0) (some (35 ,true))) :: (SO.mk (some 43) (.load 9 (.tmp 42)) (some (35 ,true))) :: (SO.mk (some 44) (.bin .geq 9 (.tmp 41) (.tmp 43)) (some (35 ,true))) :: (SO.mk (some 45) (.pick (.tmp 35) (.tmp 44) (.const (Value.bool false))) (some (32 ,false))) :: o37_3)
theorem v37_4:type_of% (@swl _ _ o37_4.eq_1):=@swl _ _ o37_4.eq_1
def o37_5:List SO:=((SO.mk (some 38) (.bin .sub 3 (.tmp 37) (.const (Value.int .i64 1))) (some (35 ,true))) :: (SO.mk (some 39) (.iaddr 22 (.tmp 36) (.tmp 38)) (some (35 ,true))) :: (SO.mk (some 40) (.faddr 54 (.tmp 39) 0) (some (35 ,true))) :: (SO.mk (some 41) (.load 9 (.tmp 40)) (some (35 ,true))) :: o37_4)
theorem v37_5:type_of% (@swl _ _ o37_5.eq_1):=@swl _ _ o37_5.eq_1
def o37_6:List SO:=((SO.mk (some 34) (.bin .gtr 3 (.tmp 33) (.const (Value.int .i64 0))) (some (32 ,false))) :: (SO.mk (some 35) (.move (.tmp 34)) (some (32 ,false))) :: (SO.mk (some 36) (.move (.tmp 0)) (some (35 ,true))) :: (SO.mk (some 37) (.move (.tmp 3)) (some (35 ,true))) :: o37_5)
theorem v37_6:type_of% (@swl _ _ o37_6.eq_1):=@swl _ _ o37_6.eq_1
def o37_7:List SO:=((SO.mk (some 30) (.bin .neq 30 (.tmp 29) (.const (Value.int .i64 0))) (some (26 ,false))) :: (SO.mk (some 31) (.pick (.tmp 26) (.const (Value.bool true)) (.tmp 30)) none) :: (SO.mk (some 32) (.move (.tmp 31)) none) :: (SO.mk (some 33) (.move (.tmp 3)) (some (32 ,false))) :: o37_6)
theorem v37_7:type_of% (@swl _ _ o37_7.eq_1):=@swl _ _ o37_7.eq_1
def o37_8:List SO:=((SO.mk (some 26) (.move (.tmp 25)) none) :: (SO.mk (some 27) (.faddr 54 (.tmp 4) 2) (some (26 ,false))) :: (SO.mk (some 28) (.load 52 (.tmp 27)) (some (26 ,false))) :: (SO.mk (some 29) (.call 21 [(.tmp 28)]) (some (26 ,false))) :: o37_7)
theorem v37_8:type_of% (@swl _ _ o37_8.eq_1):=@swl _ _ o37_8.eq_1
def o37_9:List SO:=((SO.mk (some 22) (.faddr 54 (.tmp 4) 1) (some (21 ,false))) :: (SO.mk (some 23) (.load 3 (.tmp 22)) (some (21 ,false))) :: (SO.mk (some 24) (.bin .gtr 3 (.tmp 23) (.const (Value.int .i64 2))) (some (21 ,false))) :: (SO.mk (some 25) (.pick (.tmp 21) (.const (Value.bool true)) (.tmp 24)) none) :: o37_8)
theorem v37_9:type_of% (@swl _ _ o37_9.eq_1):=@swl _ _ o37_9.eq_1
def o37_10:List SO:=((SO.mk (some 18) (.load 3 (.tmp 17)) (some (16 ,false))) :: (SO.mk (some 19) (.bin .lss 3 (.tmp 18) (.const (Value.int .i64 0))) (some (16 ,false))) :: (SO.mk (some 20) (.pick (.tmp 16) (.const (Value.bool true)) (.tmp 19)) none) :: (SO.mk (some 21) (.move (.tmp 20)) none) :: o37_9)
theorem v37_10:type_of% (@swl _ _ o37_10.eq_1):=@swl _ _ o37_10.eq_1
def c37_11:SC:=(.seq (.reg [SO.mk (some 2) (.move (.const (Value.bool false))) none]) (.keep [2] .ret))
theorem u37_11:type_of% (@swc _ _ c37_11.eq_1):=@swc _ _ c37_11.eq_1
def c37_12:SC:=(.cond (.tmp 46) c37_11 .skip)
theorem u37_12:type_of% (@swc _ _ c37_12.eq_1):=@swc _ _ c37_12.eq_1
def c37_13:SC:=(.seq (.dreg false o37_2 ((SO.mk (some 14) (.call 60 [(.tmp 13)]) none) :: (SO.mk (some 15) (.bin .neq 30 (.tmp 14) (.const (Value.int .i64 0))) none) :: (SO.mk (some 16) (.move (.tmp 15)) none) :: (SO.mk (some 17) (.faddr 54 (.tmp 4) 1) (some (16 ,false))) :: o37_10)) (.keep [46,7,6,5,0] c37_12))
theorem u37_13:type_of% (@swc _ _ c37_13.eq_1):=@swc _ _ c37_13.eq_1
def c37_14:SC:=(.reg [SO.mk (some 47) (.bin .add 3 (.tmp 7) (.const (Value.int .i64 1))) none,SO.mk (some 7) (.move (.tmp 47)) none])
theorem u37_14:type_of% (@swc _ _ c37_14.eq_1):=@swc _ _ c37_14.eq_1
def c37_15:SC:=(.seq (.block 1 (.seq (.reg ((SO.mk (some 9) (.move (.tmp 7)) none) :: (SO.mk (some 10) (.iaddr 22 (.tmp 5) (.tmp 7)) none) :: (SO.mk (some 11) (.load 54 (.tmp 10)) none) :: (SO.mk (some 4) (.alloc 54) none) :: o37_1)) (.keep [3,4,7,6,5,0] c37_13))) (.keep [7,6,5,0] c37_14))
theorem u37_15:type_of% (@swc _ _ c37_15.eq_1):=@swc _ _ c37_15.eq_1
def c37_16:SC:=(.seq (.cond (.tmp 8) .skip (.exit 0)) (.keep [7,6,5,0] c37_15))
theorem u37_16:type_of% (@swc _ _ c37_16.eq_1):=@swc _ _ c37_16.eq_1
def c37_17:SC:=(.seq (.reg [SO.mk (some 8) (.bin .lss 3 (.tmp 7) (.tmp 6)) none]) (.keep [8,5,6,7,0] c37_16))
theorem u37_17:type_of% (@swc _ _ c37_17.eq_1):=@swc _ _ c37_17.eq_1
def c37_18:SC:=(.block 0 (.loop (.keep [5,6,7,0] c37_17)))
theorem u37_18:type_of% (@swc _ _ c37_18.eq_1):=@swc _ _ c37_18.eq_1
def c37_19:SC:=(.seq (.reg [SO.mk (some 48) (.move (.tmp 0)) none,SO.mk (some 49) (.len 22 (.tmp 48)) none,SO.mk (some 50) (.bin .leq 3 (.tmp 49) (.const (Value.int .i64 4))) none,SO.mk (some 2) (.move (.tmp 50)) none]) (.keep [2] .ret))
theorem u37_19:type_of% (@swc _ _ c37_19.eq_1):=@swc _ _ c37_19.eq_1
def c37_20:SC:=(.seq (.seq (.reg [SO.mk (some 5) (.move (.tmp 0)) none,SO.mk (some 6) (.len 22 (.tmp 5)) none,SO.mk (some 7) (.move (.const (Value.int .i64 0))) none]) (.keep [5,6,7,0] c37_18)) (.keep [0] c37_19))
theorem u37_20:type_of% (@swc _ _ c37_20.eq_1):=@swc _ _ c37_20.eq_1
def c37:SC:=(.seq (.reg [SO.mk (some 2) (.move (.const (Value.bool false))) none]) (.keep [0] c37_20))
theorem c37_eq:annC Try.f37 = some c37:=by kernel_rfl
theorem r37:Try.f37.results.toList = [.tmp 2]:=by kernel_rfl
theorem e37:enters Try.prog 37 = true:=by kernel_rfl
end Go.Proofs.Ytikgiadbkjmabaa
namespace Go.Proofs.Ytikgiadbkjmabaa
open Go.RowKit
set_option maxHeartbeats 4000000
set_option maxRecDepth 20000
attribute [local irreducible] SW OSW SWL SWLn SWD SEcall SEcallv SDv SE SO1 SOg ACalls ACallv Wk EndV
set_option linter.unusedSimpArgs false
set_option linter.unusedVariables false
def bkBad (l:List BktD) (k:Nat):Bool:=wordF l[k]!.name 8 != 0 || (decide (l[k]!.mode < 0) || (decide (l[k]!.mode > 2) || (ruleF l[k]!.pre l[k]!.frz l[k]!.drop != 0 || (decide ((k:Int) > 0) && !Op.bytesLess l[k - 1]!.name.toList l[k]!.name.toList))))
def bktsF (l:List BktD):Bool:=(List.range l.length).all (fun k=>!bkBad l k) && decide ((l.length:Int) ≤ 4)
theorem rng_all {n:Nat} {p:Nat → Bool} (h:∀ i,i < n → p i = false):(List.range n).all (fun k=>!p k) = true:=by
  rw [List.all_eq_true];intro i hi;rw [h i (List.mem_range.1 hi)];rfl
theorem rng_no {n k:Nat} {p:Nat → Bool} (hk:k < n) (h:p k = true):(List.range n).all (fun k=>!p k) = false:=by
  rw [List.all_eq_false];exact ⟨k,List.mem_range.2 hk,by rw [h];decide⟩
theorem bkts_no {l:List BktD} {k:Nat} (hk:decide ((k:Int) < (l.length:Int)) = true) (h:bkBad l k = true):bktsF l = false:=by
  unfold bktsF;rw [rng_no (ltS hk) h];rfl
theorem bkts_all {l:List BktD} {k:Nat} (hk:decide ((k:Int) < (l.length:Int)) = false) (h:∀ i,i < k → bkBad l i = false):bktsF l = decide ((l.length:Int) ≤ 4):=by
  unfold bktsF;rw [rng_all fun i hi=>h i (by have:=geS hk;omega)];rfl
theorem prev_w {k:Nat} (hk:k ≤ 2 ^ 47):decide ((k:Int) > 0) = true → IntKind.i64.wrap ((k:Int) - 1) = ((k - 1:Nat):Int):=fun h=>by
  have h0:=of_decide_eq_true h
  rw [IntWalk.i64_in _ (by omega)];omega
theorem prev_row {α:Type} [Inhabited α] {f:α → List RV} {l:List α} {k:Nat} (hk:k ≤ l.length):decide ((k:Int) > 0) = true → rowOf (l.map f) (k - 1) = f l[k - 1]!:=fun h=>by
  have h0:=of_decide_eq_true h
  exact rowOf_mapD _ _ _ (decide_eq_true (by omega))
theorem buckets_p (l:List BktD):Pure Try.prog 37 [.d (.ro (l.map BktD.row))] (Bo (bktsF l)):=by
  refine pure_of follows Try.func37 c37_eq r37 (Nat.le_of_ble_eq_true rfl) fun B σ hcl hsz=>?_
  have hlen:l.length ≤ 2 ^ 47:=by simpa using (show Sized (.ro (l.map BktD.row)) from hsz (.d (.ro (l.map BktD.row))) (by simp)).len
  clear hsz
  simp -implicitDefEqProofs only [contN,contC,Nat.reduceBEq,Bool.or_false,Bool.or_true,Bool.false_or,Bool.true_or,Bool.not_true,Bool.not_false,SEconv,w_skip,w_ret,w_exit,w_reg,w_dreg,w_oreg,HO_app,w_odone,w_onil,w_ofst,w_obr,w_seq,SK_n,SK_r,SK_x,w_keep,w_block,w_cond,w_nil,w_cons,w_consg,w_nnil,w_ncons,w_dnil,w_dcons,w_dconsg,HK_app,HD_app,HQ_n,HQ_r,HQ_x,HQ_bn,HQ_br,HQ_bx,HQ_en,HQ_er,HQ_ex,CondB_true,CondB_false,SO1,w_sdv,SDe_alloc,SDe_box,SDe_bslice,SDe_app,true_imp_iff,false_imp_iff,and_false,false_and,not_false_eq_true,not_true_eq_false,addN,mkNames,killT,killD,killO,List.foldl_nil,List.foldl_cons,List.append_nil,List.nil_append,List.cons_append,GuardS_true,GuardS_false,GuardD_true,GuardD_false,DK_true,DK_false,lt_self_add,le_self_add,decide_true,decide_false,Bool.false_eq_true,Bool.true_eq_false,Nat.add_left_cancel_iff,SE,SEalloc,SEbox,SEstore,w_bs,SEbl,SEfz,SEbs0,fzName,osOf,AV.fz1,w_app,w_mk,aev,opd,Fr.get,putO,Fr.norm,List.map_cons,List.map_nil,with1,with2,onInt,AV.lit,entry,↓reduceIte,Nat.reduceEqDiff,Nat.reduceAdd,reduceCtorEq,true_and,and_true,Option.map_some,Option.map_none,Option.bind_some,Option.bind_none,cond_true,cond_false,binV,unV,fieldV,loadV,sto,cellsAV,newF,newL,Fr.map,Loc.kill,Loc.set,AO.kill,AV.kill,AV.mapN,AV.mapNL,List.filter_nil,List.filter_cons,allP,EndV,retV,resV,resL,frz,dropL,AV.pick,nilV,tupV,imp_self,ne_eq,Int.cast_ofNat_Int,Int.reduceLT,Int.reduceToNat,List.getD_cons_zero,List.getD_cons_succ,bsliceV,buildV,afill,repl,chunk,rvs,AV.rv,RV.nrm,List.getElem?_nil,List.append_assoc,Nat.reduceMul,Nat.reducePow,Nat.zero_lt_succ,Nat.zero_add,Nat.add_zero,List.length_cons,List.length_nil,Nat.reduceLeDiff,Nat.le_refl,List.take_succ_cons,List.take_zero,List.drop_succ_cons,List.drop_zero,indexV,lenV,rowOf_mapD,rowOf_mapI,rowOf_mapA,List.length_map,Int.toNat_natCast,List.getElem?_cons_zero,List.getElem?_cons_succ,and_self,implies_true,if_true,if_false,HQ_zn,HQ_zr,HQ_wn,HQ_wr,AV.nz,AV.nzL,RV.nrm,SEbin,SEnil,nilK,srcV,dstV,appName,List.length_append,Nat.mul_one,take_map_len,take_map_app,List.getElem?_cons_zero,List.map_append,SEmkmap,SEmset,mgetV,kvOf,getM,setM,w_bsH,SEapA,SEapB,bsliceA,SEclr,nilIn,nilIn.nilC,c37,r37,v37_1,v37_2,m37_2,v37_3,v37_4,v37_5,v37_6,v37_7,v37_8,v37_9,v37_10,u37_11,u37_12,u37_13,u37_14,u37_15,u37_16,u37_17,u37_18,u37_19,u37_20,ty22,ty3,ty54,ty9,ty30,ty52]
  refine loop_nat l.length (fun k=>∀ i,i < k → bkBad l i = false) (fun k=>[(0,.d (.ro (l.map BktD.row))),(5,.d (.ro (l.map BktD.row))),(6,I l.length),(7,I k)]) (fun k=>[]) (by simp) (Wk.keep hcl (by simp [Fr.get]) (by simp) (by simp)) fun k hk hF=>?_
  have hw:IntKind.i64.wrap ((k:Int) + 1) = (k:Int) + 1:=IntWalk.i64_in _ (by omega)
  have hpw:=prev_w (k:=k) (by omega)
  have hpr:=prev_row (f:=BktD.row) (l:=l) hk
  repeat' (first | (simp -implicitDefEqProofs only [*,Nat.reduceBEq,↓reduceIte,Nat.reduceEqDiff,Nat.reduceAdd,reduceCtorEq,AO.kill,Int.reduceLT,Int.reduceToNat,List.getElem?_nil,Nat.reduceMul,Nat.reducePow,Nat.reduceLeDiff,rowOf_mapD,rowOf_mapI,rowOf_mapA,List.getElem?_cons_zero,List.getElem?_cons_succ,take_map_len,take_map_app,List.getElem?_cons_zero,c37,r37,v37_1,v37_2,m37_2,v37_3,v37_4,v37_5,v37_6,v37_7,v37_8,v37_9,v37_10,u37_11,u37_12,u37_13,u37_14,u37_15,u37_16,u37_17,u37_18,u37_19,u37_20,ty22,ty3,ty54,ty9,ty30,ty52,BktD.row,mvcgen_simp]) | (with_reducible refine And.intro ?_ ?_) | (refine call_ro e60 ( name_p l[k]!.name) rfl ?_ ?_ ?_ ?_) | (refine gcall_ro e60 ( name_p l[k]!.name) rfl ?_ ?_ ?_ ?_) | (refine dcall_ro e60 ( name_p l[k]!.name) rfl ?_ ?_ ?_ ?_) | (refine gdcall_ro rfl e60 ( name_p l[k]!.name) rfl ?_ ?_ ?_ ?_) | (refine call_ro e21 ( rule_p l[k]!.pre l[k]!.frz l[k]!.drop) rfl ?_ ?_ ?_ ?_) | (refine gcall_ro e21 ( rule_p l[k]!.pre l[k]!.frz l[k]!.drop) rfl ?_ ?_ ?_ ?_) | (refine dcall_ro e21 ( rule_p l[k]!.pre l[k]!.frz l[k]!.drop) rfl ?_ ?_ ?_ ?_) | (refine gdcall_ro rfl e21 ( rule_p l[k]!.pre l[k]!.frz l[k]!.drop) rfl ?_ ?_ ?_ ?_) | (refine EndX.plain ?_) | (refine nil_split (fun hn=>?_) (fun hn=>?_)) | (refine gcall_no not_false ?_) | (refine gdcall_no not_false ?_) | (refine GuardS_of _ _ _ _ _ _ (fun hg=>?_) (fun hg=>?_)) | (refine GuardD_of _ _ _ _ (fun hg=>?_) (fun hg=>?_)) | (refine CondB_of _ _ _ _ _ _ _ ?_ (fun hg=>?_) (fun hg=>?_)))
  all_goals (try (first | ((first | unfold noN | unfold Fr.below | unfold Loc.below);simp [Fr.allN,AV.allN,AV.allNL,AO.allN];done) | rfl | trivial | assumption | (intro row hrow;simp only [List.mem_map] at hrow;obtain ⟨x,_,rfl⟩:=hrow;rfl) | (refine Wk.keep hcl ?_ ?_ ?_;(focus (simp [Fr.get,BktD.row]<;>fail));(focus (simp [sto,BktD.row]<;>fail));(focus (simp<;>fail))) | (simp [allP,opd,Fr.get,Fr.below,Fr.allN,AV.allN,AV.allNL,Loc.below,AO.allN,noN,killO,killT,killD,mkNames,AO.kill,AV.kill,AV.mapN,AV.mapNL];done) | (with_reducible exact ltD (by assumption)) | omega | (simp only [decide_eq_true_eq,decide_eq_false_iff_not] at *;omega)))
  all_goals (clear hpw hpr)
  all_goals first
    | (rw [bkts_no (by assumption) (by simp only [bkBad, *,Bool.false_or,Bool.true_or,Bool.or_true,Bool.or_false,Bool.and_true,Bool.true_and,Bool.false_and,Bool.and_false,Bool.not_true,Bool.not_false,cond_true,cond_false])];done)
    | (rw [bkts_all (by assumption) hF];done)
    | exact allN' hF (by simp only [bkBad, *,Bool.false_or,Bool.true_or,Bool.or_true,Bool.or_false,Bool.and_true,Bool.true_and,Bool.false_and,Bool.and_false,Bool.not_true,Bool.not_false,cond_true,cond_false])
end Go.Proofs.Ytikgiadbkjmabaa
