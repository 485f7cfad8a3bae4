/- Asks that may be. -/
import Derived.Test.YtikgiadbkjmabaaSound
import Derived.Test.YtikgiadbkjmabaaBkts
import Derived.Test.YtikgiadbkjmabaaFindB
import Derived.Test.YtikgiadbkjmabaaTypes
namespace Go.Proofs.Ytikgiadbkjmabaa
open Go.RowKit
set_option maxRecDepth 100000
def o89_1:List SO:=((SO.mk (some 15) (.load 87 (.tmp 14)) none) :: (SO.mk (some 16) (.callv (.tmp 11) [(.tmp 15)]) none) :: [])
theorem v89_1:type_of% (@swl _ _ o89_1.eq_1):=@swl _ _ o89_1.eq_1
def c89_2:SC:=(.seq (.reg [SO.mk (some 17) (.move (.tmp 5)) none,SO.mk (some 4) (.move (.tmp 17)) none]) (.keep [4] .ret))
theorem u89_2:type_of% (@swc _ _ c89_2.eq_1):=@swc _ _ c89_2.eq_1
def c89_3:SC:=(.cond (.tmp 16) c89_2 .skip)
theorem u89_3:type_of% (@swc _ _ c89_3.eq_1):=@swc _ _ c89_3.eq_1
def c89_4:SC:=(.seq (.reg ((SO.mk (some 11) (.move (.tmp 1)) none) :: (SO.mk (some 12) (.move (.tmp 0)) none) :: (SO.mk (some 13) (.move (.tmp 5)) none) :: (SO.mk (some 14) (.iaddr 25 (.tmp 12) (.tmp 13)) none) :: o89_1)) (.keep [16,5,8,7,0,1] c89_3))
theorem u89_4:type_of% (@swc _ _ c89_4.eq_1):=@swc _ _ c89_4.eq_1
def c89_5:SC:=(.reg [SO.mk (some 18) (.bin .add 3 (.tmp 8) (.const (Value.int .i64 1))) none,SO.mk (some 8) (.move (.tmp 18)) none])
theorem u89_5:type_of% (@swc _ _ c89_5.eq_1):=@swc _ _ c89_5.eq_1
def c89_6:SC:=(.seq (.block 1 (.seq (.reg [SO.mk (some 10) (.move (.tmp 8)) none,SO.mk (some 5) (.move (.tmp 10)) none]) (.keep [5,8,7,0,1] c89_4))) (.keep [8,7,0,1] c89_5))
theorem u89_6:type_of% (@swc _ _ c89_6.eq_1):=@swc _ _ c89_6.eq_1
def c89_7:SC:=(.seq (.cond (.tmp 9) .skip (.exit 0)) (.keep [8,7,0,1] c89_6))
theorem u89_7:type_of% (@swc _ _ c89_7.eq_1):=@swc _ _ c89_7.eq_1
def c89_8:SC:=(.seq (.reg [SO.mk (some 9) (.bin .lss 3 (.tmp 8) (.tmp 7)) none]) (.keep [9,1,0,7,8] c89_7))
theorem u89_8:type_of% (@swc _ _ c89_8.eq_1):=@swc _ _ c89_8.eq_1
def c89_9:SC:=(.block 0 (.loop (.keep [1,0,7,8] c89_8)))
theorem u89_9:type_of% (@swc _ _ c89_9.eq_1):=@swc _ _ c89_9.eq_1
def c89_10:SC:=(.seq (.reg [SO.mk (some 4) (.move (.const (Value.int .i64 (-1)))) none]) (.keep [4] .ret))
theorem u89_10:type_of% (@swc _ _ c89_10.eq_1):=@swc _ _ c89_10.eq_1
def c89_11:SC:=(.seq (.seq (.reg [SO.mk (some 6) (.move (.tmp 0)) none,SO.mk (some 7) (.len 25 (.tmp 6)) none,SO.mk (some 8) (.move (.const (Value.int .i64 0))) none]) (.keep [1,0,7,8] c89_9)) (.keep [] c89_10))
theorem u89_11:type_of% (@swc _ _ c89_11.eq_1):=@swc _ _ c89_11.eq_1
def c89:SC:=(.seq (.reg [SO.mk (some 4) (.move (.const (Value.int .i64 0))) none]) (.keep [1,0] c89_11))
theorem c89_eq:annC Try.f89 = some c89:=by kernel_rfl
theorem r89:Try.f89.results.toList = [.tmp 4]:=by kernel_rfl
theorem e89:enters Try.prog 89 = true:=by kernel_rfl
def c66_1:SC:=(.seq (.reg [SO.mk (some 5) (.move (.tmp 0)) none,SO.mk (some 6) (.move (.tmp 1)) none,SO.mk (some 7) (.call 89 [(.tmp 5),(.tmp 6)]) none,SO.mk (some 8) (.bin .geq 3 (.tmp 7) (.const (Value.int .i64 0))) none,SO.mk (some 4) (.move (.tmp 8)) none]) (.keep [4] .ret))
theorem u66_1:type_of% (@swc _ _ c66_1.eq_1):=@swc _ _ c66_1.eq_1
def c66:SC:=(.seq (.reg [SO.mk (some 4) (.move (.const (Value.bool false))) none]) (.keep [0,1] c66_1))
theorem c66_eq:annC Try.f66 = some c66:=by kernel_rfl
theorem r66:Try.f66.results.toList = [.tmp 4]:=by kernel_rfl
theorem e66:enters Try.prog 66 = true:=by kernel_rfl
def o67_1:List SO:=((SO.mk (some 8) (.bin .eql 3 (.tmp 5) (.tmp 7)) none) :: (SO.mk (some 3) (.move (.tmp 8)) none) :: [])
theorem v67_1:type_of% (@swl _ _ o67_1.eq_1):=@swl _ _ o67_1.eq_1
def c67_2:SC:=(.seq (.reg ((SO.mk (some 4) (.faddr 87 (.tmp 2) 0) none) :: (SO.mk (some 5) (.load 3 (.tmp 4)) none) :: (SO.mk (some 6) (.faddr 87 (.tmp 1) 0) none) :: (SO.mk (some 7) (.load 3 (.tmp 6)) none) :: o67_1)) (.keep [3] .ret))
theorem u67_2:type_of% (@swc _ _ c67_2.eq_1):=@swc _ _ c67_2.eq_1
def c67:SC:=(.seq (.reg [SO.mk (some 2) (.box 87 (.tmp 0)) none,SO.mk (some 3) (.move (.const (Value.bool false))) none]) (.keep [2,1] c67_2))
theorem c67_eq:annC Try.f67 = some c67:=by kernel_rfl
theorem r67:Try.f67.results.toList = [.tmp 3]:=by kernel_rfl
theorem e67:enters Try.prog 67 = true:=by kernel_rfl
def o40_1:List SO:=((SO.mk (some 3) (.move (.tmp 12)) none) :: (SO.mk none (.store 87 (.tmp 4) (.tmp 14)) none) :: [])
theorem v40_1:type_of% (@swl _ _ o40_1.eq_1):=@swl _ _ o40_1.eq_1
def o40_2:List SO:=((SO.mk (some 6) (.move (.tmp 21)) none) :: [])
theorem v40_2:type_of% (@swl _ _ o40_2.eq_1):=@swl _ _ o40_2.eq_1
def o40_3:List SO:=((SO.mk (some 15) (.move (.tmp 19)) none) :: (SO.mk (some 20) (.extract (.tmp 15) 0) none) :: (SO.mk (some 21) (.extract (.tmp 15) 1) none) :: (SO.mk (some 5) (.move (.tmp 20)) none) :: o40_2)
theorem v40_3:type_of% (@swl _ _ o40_3.eq_1):=@swl _ _ o40_3.eq_1
def o40_4:List SO:=((SO.mk (some 50) (.load 3 (.tmp 49)) (some (48 ,false))) :: (SO.mk (some 51) (.bin .gtr 3 (.tmp 50) (.const (Value.int .i64 2))) (some (48 ,false))) :: (SO.mk (some 52) (.pick (.tmp 48) (.const (Value.bool true)) (.tmp 51)) none) :: [])
theorem v40_4:type_of% (@swl _ _ o40_4.eq_1):=@swl _ _ o40_4.eq_1
def o40_5:List SO:=((SO.mk (some 46) (.bin .lss 3 (.tmp 45) (.const (Value.int .i64 0))) (some (43 ,false))) :: (SO.mk (some 47) (.pick (.tmp 43) (.const (Value.bool true)) (.tmp 46)) none) :: (SO.mk (some 48) (.move (.tmp 47)) none) :: (SO.mk (some 49) (.faddr 87 (.tmp 4) 2) (some (48 ,false))) :: o40_4)
theorem v40_5:type_of% (@swl _ _ o40_5.eq_1):=@swl _ _ o40_5.eq_1
def o40_6:List SO:=((SO.mk (some 42) (.pick (.tmp 38) (.const (Value.bool true)) (.tmp 41)) none) :: (SO.mk (some 43) (.move (.tmp 42)) none) :: (SO.mk (some 44) (.faddr 87 (.tmp 4) 2) (some (43 ,false))) :: (SO.mk (some 45) (.load 3 (.tmp 44)) (some (43 ,false))) :: o40_5)
theorem v40_6:type_of% (@swl _ _ o40_6.eq_1):=@swl _ _ o40_6.eq_1
def o40_7:List SO:=((SO.mk (some 38) (.move (.tmp 37)) none) :: (SO.mk (some 39) (.faddr 87 (.tmp 4) 1) (some (38 ,false))) :: (SO.mk (some 40) (.load 3 (.tmp 39)) (some (38 ,false))) :: (SO.mk (some 41) (.bin .gtr 3 (.tmp 40) (.const (Value.int .i64 1000))) (some (38 ,false))) :: o40_6)
theorem v40_7:type_of% (@swl _ _ o40_7.eq_1):=@swl _ _ o40_7.eq_1
def o40_8:List SO:=((SO.mk (some 34) (.faddr 87 (.tmp 4) 1) (some (33 ,false))) :: (SO.mk (some 35) (.load 3 (.tmp 34)) (some (33 ,false))) :: (SO.mk (some 36) (.bin .lss 3 (.tmp 35) (.const (Value.int .i64 1))) (some (33 ,false))) :: (SO.mk (some 37) (.pick (.tmp 33) (.const (Value.bool true)) (.tmp 36)) none) :: o40_7)
theorem v40_8:type_of% (@swl _ _ o40_8.eq_1):=@swl _ _ o40_8.eq_1
def o40_9:List SO:=((SO.mk (some 30) (.load 3 (.tmp 29)) (some (24 ,false))) :: (SO.mk (some 31) (.bin .neq 3 (.tmp 30) (.const (Value.int .i64 2))) (some (24 ,false))) :: (SO.mk (some 32) (.pick (.tmp 24) (.const (Value.bool true)) (.tmp 31)) none) :: (SO.mk (some 33) (.move (.tmp 32)) none) :: o40_8)
theorem v40_9:type_of% (@swl _ _ o40_9.eq_1):=@swl _ _ o40_9.eq_1
def o40_10:List SO:=((SO.mk (some 26) (.load 23 (.tmp 25)) (some (24 ,false))) :: (SO.mk (some 27) (.move (.tmp 5)) (some (24 ,false))) :: (SO.mk (some 28) (.iaddr 23 (.tmp 26) (.tmp 27)) (some (24 ,false))) :: (SO.mk (some 29) (.faddr 41 (.tmp 28) 7) (some (24 ,false))) :: o40_9)
theorem v40_10:type_of% (@swl _ _ o40_10.eq_1):=@swl _ _ o40_10.eq_1
def c40_11:SC:=(.seq (.reg [SO.mk (some 2) (.move (.const (Value.bool false))) none]) (.keep [2] .ret))
theorem u40_11:type_of% (@swc _ _ c40_11.eq_1):=@swc _ _ c40_11.eq_1
def c40_12:SC:=(.cond (.tmp 52) c40_11 .skip)
theorem u40_12:type_of% (@swc _ _ c40_12.eq_1):=@swc _ _ c40_12.eq_1
def o40_13:List SO:=((SO.mk (some 57) (.mkfn (.func 67) [] [(.tmp 4)]) none) :: (SO.mk (some 58) (.call 66 [(.tmp 56),(.tmp 57)]) none) :: [])
theorem v40_13:type_of% (@swl _ _ o40_13.eq_1):=@swl _ _ o40_13.eq_1
def c40_14:SC:=(.seq (.reg [SO.mk (some 2) (.move (.const (Value.bool false))) none]) (.keep [2] .ret))
theorem u40_14:type_of% (@swc _ _ c40_14.eq_1):=@swc _ _ c40_14.eq_1
def c40_15:SC:=(.cond (.tmp 58) c40_14 .skip)
theorem u40_15:type_of% (@swc _ _ c40_15.eq_1):=@swc _ _ c40_15.eq_1
def c40_16:SC:=(.seq (.reg ((SO.mk (some 53) (.faddr 28 (.tmp 1) 5) none) :: (SO.mk (some 54) (.load 25 (.tmp 53)) none) :: (SO.mk (some 55) (.move (.tmp 3)) none) :: (SO.mk (some 56) (.slice 25 (.tmp 54) none (some (.tmp 55))) none) :: o40_13)) (.keep [58,10,9,8,1] c40_15))
theorem u40_16:type_of% (@swc _ _ c40_16.eq_1):=@swc _ _ c40_16.eq_1
def c40_17:SC:=(.seq (.seq (.reg ((SO.mk (some 22) (.move (.tmp 6)) none) :: (SO.mk (some 23) (.un .not (.tmp 22)) none) :: (SO.mk (some 24) (.move (.tmp 23)) none) :: (SO.mk (some 25) (.faddr 28 (.tmp 1) 3) (some (24 ,false))) :: o40_10)) (.keep [52,3,4,10,9,8,1] c40_12)) (.keep [3,4,10,9,8,1] c40_16))
theorem u40_17:type_of% (@swc _ _ c40_17.eq_1):=@swc _ _ c40_17.eq_1
def c40_18:SC:=(.seq (.reg ((SO.mk (some 16) (.load 28 (.tmp 1)) none) :: (SO.mk (some 17) (.faddr 87 (.tmp 4) 0) none) :: (SO.mk (some 18) (.load 3 (.tmp 17)) none) :: (SO.mk (some 19) (.call 65 [(.tmp 16),(.tmp 18)]) none) :: o40_3)) (.keep [6,5,3,4,10,9,8,1] c40_17))
theorem u40_18:type_of% (@swc _ _ c40_18.eq_1):=@swc _ _ c40_18.eq_1
def c40_19:SC:=(.reg [SO.mk (some 59) (.bin .add 3 (.tmp 10) (.const (Value.int .i64 1))) none,SO.mk (some 10) (.move (.tmp 59)) none])
theorem u40_19:type_of% (@swc _ _ c40_19.eq_1):=@swc _ _ c40_19.eq_1
def c40_20:SC:=(.seq (.block 1 (.seq (.reg ((SO.mk (some 12) (.move (.tmp 10)) none) :: (SO.mk (some 13) (.iaddr 25 (.tmp 8) (.tmp 10)) none) :: (SO.mk (some 14) (.load 87 (.tmp 13)) none) :: (SO.mk (some 4) (.alloc 87) none) :: o40_1)) (.keep [3,4,10,9,8,1] c40_18))) (.keep [10,9,8,1] c40_19))
theorem u40_20:type_of% (@swc _ _ c40_20.eq_1):=@swc _ _ c40_20.eq_1
def c40_21:SC:=(.seq (.cond (.tmp 11) .skip (.exit 0)) (.keep [10,9,8,1] c40_20))
theorem u40_21:type_of% (@swc _ _ c40_21.eq_1):=@swc _ _ c40_21.eq_1
def c40_22:SC:=(.seq (.reg [SO.mk (some 11) (.bin .lss 3 (.tmp 10) (.tmp 9)) none]) (.keep [11,8,9,10,1] c40_21))
theorem u40_22:type_of% (@swc _ _ c40_22.eq_1):=@swc _ _ c40_22.eq_1
def c40_23:SC:=(.block 0 (.loop (.keep [8,9,10,1] c40_22)))
theorem u40_23:type_of% (@swc _ _ c40_23.eq_1):=@swc _ _ c40_23.eq_1
def c40_24:SC:=(.seq (.reg [SO.mk (some 60) (.faddr 28 (.tmp 1) 5) none,SO.mk (some 61) (.load 25 (.tmp 60)) none,SO.mk (some 62) (.len 25 (.tmp 61)) none,SO.mk (some 63) (.bin .leq 3 (.tmp 62) (.const (Value.int .i64 10))) none,SO.mk (some 2) (.move (.tmp 63)) none]) (.keep [2] .ret))
theorem u40_24:type_of% (@swc _ _ c40_24.eq_1):=@swc _ _ c40_24.eq_1
def c40_25:SC:=(.seq (.seq (.reg [SO.mk (some 7) (.faddr 28 (.tmp 1) 5) none,SO.mk (some 8) (.load 25 (.tmp 7)) none,SO.mk (some 9) (.len 25 (.tmp 8)) none,SO.mk (some 10) (.move (.const (Value.int .i64 0))) none]) (.keep [8,9,10,1] c40_23)) (.keep [1] c40_24))
theorem u40_25:type_of% (@swc _ _ c40_25.eq_1):=@swc _ _ c40_25.eq_1
def c40:SC:=(.seq (.reg [SO.mk (some 1) (.box 28 (.tmp 0)) none,SO.mk (some 2) (.move (.const (Value.bool false))) none]) (.keep [1] c40_25))
theorem c40_eq:annC Try.f40 = some c40:=by kernel_rfl
theorem r40:Try.f40.results.toList = [.tmp 2]:=by kernel_rfl
theorem e40:enters Try.prog 40 = true:=by kernel_rfl
end Go.Proofs.Ytikgiadbkjmabaa
namespace Go.Proofs.Ytikgiadbkjmabaa
open Go.RowKit
set_option maxHeartbeats 4000000
set_option maxRecDepth 20000
attribute [local irreducible] SW OSW SWL SWLn SWD SEcall SEcallv SDv SE SO1 SOg ACalls ACallv Wk EndV
set_option linter.unusedSimpArgs false
set_option linter.unusedVariables false

theorem indexA_p (xs:List AskD) (g:FuncId) (ca:List AV) (p:AskD → Bool) (C:Sto → Prop) (hb:∀ (B:Nat) (σ:Sto),C σ → ClosedS B σ → AV.allNL (fun m=>decide (m < B + 100000)) ca = true) (hf:∀ i,i < xs.length → PurevC C Try.prog (.clo (.func g) [] ca) [(fun w=>AV.agg (w.row.map .d)) xs[i]!] (Bo (p xs[i]!))) :
    PureC C Try.prog 89 [.d (.ro (xs.map AskD.row)),.clo (.func g) [] ca] (I (idxI xs p)):=by
  refine pure_ofC follows Try.func89 c89_eq r89 (Nat.le_of_ble_eq_true rfl) fun B σ hC hcl hsz=>?_
  have hlen:xs.length ≤ 2 ^ 47:=by simpa using (show Sized (.ro (xs.map AskD.row)) from hsz (.d (.ro (xs.map AskD.row))) (by simp)).len
  have hca:=hb B σ hC hcl
  clear hsz
  simp -implicitDefEqProofs only [contN,contC,Nat.reduceBEq,Bool.or_false,Bool.or_true,Bool.false_or,Bool.true_or,Bool.not_true,Bool.not_false,SEconv,w_skip,w_ret,w_exit,w_reg,w_dreg,w_oreg,HO_app,w_odone,w_onil,w_ofst,w_obr,w_seq,SK_n,SK_r,SK_x,w_keep,w_block,w_cond,w_nil,w_cons,w_consg,w_nnil,w_ncons,w_dnil,w_dcons,w_dconsg,HK_app,HD_app,HQ_n,HQ_r,HQ_x,HQ_bn,HQ_br,HQ_bx,HQ_en,HQ_er,HQ_ex,CondB_true,CondB_false,SO1,w_sdv,SDe_alloc,SDe_box,SDe_bslice,SDe_app,true_imp_iff,false_imp_iff,and_false,false_and,not_false_eq_true,not_true_eq_false,addN,mkNames,killT,killD,killO,List.foldl_nil,List.foldl_cons,List.append_nil,List.nil_append,List.cons_append,GuardS_true,GuardS_false,GuardD_true,GuardD_false,DK_true,DK_false,lt_self_add,le_self_add,decide_true,decide_false,Bool.false_eq_true,Bool.true_eq_false,Nat.add_left_cancel_iff,SE,SEalloc,SEbox,SEstore,w_bs,SEbl,SEfz,SEbs0,fzName,osOf,AV.fz1,w_app,w_mk,aev,opd,Fr.get,putO,Fr.norm,List.map_cons,List.map_nil,with1,with2,onInt,AV.lit,entry,↓reduceIte,Nat.reduceEqDiff,Nat.reduceAdd,reduceCtorEq,true_and,and_true,Option.map_some,Option.map_none,Option.bind_some,Option.bind_none,cond_true,cond_false,binV,unV,fieldV,loadV,sto,cellsAV,newF,newL,Fr.map,Loc.kill,Loc.set,AO.kill,AV.kill,AV.mapN,AV.mapNL,List.filter_nil,List.filter_cons,allP,EndV,retV,resV,resL,frz,dropL,AV.pick,nilV,tupV,imp_self,ne_eq,Int.cast_ofNat_Int,Int.reduceLT,Int.reduceToNat,List.getD_cons_zero,List.getD_cons_succ,bsliceV,buildV,afill,repl,chunk,rvs,AV.rv,RV.nrm,List.getElem?_nil,List.append_assoc,Nat.reduceMul,Nat.reducePow,Nat.zero_lt_succ,Nat.zero_add,Nat.add_zero,List.length_cons,List.length_nil,Nat.reduceLeDiff,Nat.le_refl,List.take_succ_cons,List.take_zero,List.drop_succ_cons,List.drop_zero,indexV,lenV,rowOf_mapD,rowOf_mapI,rowOf_mapA,List.length_map,Int.toNat_natCast,List.getElem?_cons_zero,List.getElem?_cons_succ,and_self,implies_true,if_true,if_false,HQ_zn,HQ_zr,HQ_wn,HQ_wr,AV.nz,AV.nzL,RV.nrm,SEbin,SEnil,nilK,srcV,dstV,appName,List.length_append,Nat.mul_one,take_map_len,take_map_app,List.getElem?_cons_zero,List.map_append,SEmkmap,SEmset,mgetV,kvOf,getM,setM,w_bsH,SEapA,SEapB,bsliceA,SEclr,nilIn,nilIn.nilC,c89,r89,v89_1,u89_2,u89_3,u89_4,u89_5,u89_6,u89_7,u89_8,u89_9,u89_10,u89_11,ty25,ty3,ty87,AskD.row]
  refine loop_nat xs.length (fun k=>∀ i,i < k → p xs[i]! = false) (fun k=>[(1,.clo (.func g) [] ca),(0,.d (.ro (xs.map AskD.row))),(7,I xs.length),(8,I k)]) (fun k=>[]) (by simp) (Wk.keep hcl (by simp [Fr.get]) (by simp) (by simp)) fun k hk hF=>?_
  have hw:IntKind.i64.wrap ((k:Int) + 1) = (k:Int) + 1:=IntWalk.i64_in _ (by omega)
  repeat' (first | (simp -implicitDefEqProofs only [*,Nat.reduceBEq,↓reduceIte,Nat.reduceEqDiff,Nat.reduceAdd,reduceCtorEq,AO.kill,Int.reduceLT,Int.reduceToNat,List.getElem?_nil,Nat.reduceMul,Nat.reducePow,Nat.reduceLeDiff,rowOf_mapD,rowOf_mapI,rowOf_mapA,List.getElem?_cons_zero,List.getElem?_cons_succ,take_map_len,take_map_app,List.getElem?_cons_zero,c89,r89,v89_1,u89_2,u89_3,u89_4,u89_5,u89_6,u89_7,u89_8,u89_9,u89_10,u89_11,ty25,ty3,ty87,AskD.row,mvcgen_simp]) | (with_reducible refine And.intro ?_ ?_) | (refine callv_roC ( hf k (ltD hg)) rfl rfl ?_ ?_ ?_ ?_ ?_ ?_) | (refine EndX.plain ?_) | (refine nil_split (fun hn=>?_) (fun hn=>?_)) | (refine gcall_no not_false ?_) | (refine gdcall_no not_false ?_) | (refine GuardS_of _ _ _ _ _ _ (fun hg=>?_) (fun hg=>?_)) | (refine GuardD_of _ _ _ _ (fun hg=>?_) (fun hg=>?_)) | (refine CondB_of _ _ _ _ _ _ _ ?_ (fun hg=>?_) (fun hg=>?_)))
  all_goals (try (first | ((first | unfold noN | unfold Fr.below | unfold Loc.below);simp [Fr.allN,AV.allN,AV.allNL,AO.allN];done) | rfl | trivial | assumption | (intro row hrow;simp only [List.mem_map] at hrow;obtain ⟨x,_,rfl⟩:=hrow;rfl) | (refine Wk.keep hcl ?_ ?_ ?_;(focus (simp [Fr.get,AskD.row]<;>fail));(focus (simp [sto,AskD.row]<;>fail));(focus (simp<;>fail))) | (simp [allP,opd,Fr.get,Fr.below,Fr.allN,AV.allN,AV.allNL,Loc.below,AO.allN,noN,killO,killT,killD,mkNames,AO.kill,AV.kill,AV.mapN,AV.mapNL];done) | (with_reducible exact ltD (by assumption)) | omega | (simp only [decide_eq_true_eq,decide_eq_false_iff_not] at *;omega)))
  all_goals (try (first | exact hC | exact ltD (by assumption) | omega | exact hca | (simp [Fr.below,Fr.allN,AV.allN,AV.allNL,Loc.below,hca];done)))
  all_goals (first | (rw [idxI_some (ltD (by assumption)) (by assumption) hF];done) | (rw [idxI_none (geD (by assumption)) hk hF];done) | (have:=ltD (by assumption);omega) | skip)
  all_goals (
    intro i hi
    rcases Nat.lt_or_ge i k with h | h
    · exact hF i h
    · have:i = k:=by omega
      subst this;assumption)
theorem containsA_p (xs:List AskD) (g:FuncId) (ca:List AV) (p:AskD → Bool) (C:Sto → Prop) (hb:∀ (B:Nat) (σ:Sto),C σ → ClosedS B σ → AV.allNL (fun m=>decide (m < B + 100000)) ca = true) (hf:∀ i,i < xs.length → PurevC C Try.prog (.clo (.func g) [] ca) [(fun w=>AV.agg (w.row.map .d)) xs[i]!] (Bo (p xs[i]!))) :
    PureC C Try.prog 66 [.d (.ro (xs.map AskD.row)),.clo (.func g) [] ca] (Bo (xs.any p)):=by
  refine pure_ofC follows Try.func66 c66_eq r66 (Nat.le_of_ble_eq_true rfl) fun B σ hC hcl hsz=>?_
  have hca:=hb B σ hC hcl
  clear hsz
  repeat' (first | (simp -implicitDefEqProofs only [*,Nat.reduceBEq,↓reduceIte,Nat.reduceEqDiff,Nat.reduceAdd,reduceCtorEq,AO.kill,Int.reduceLT,Int.reduceToNat,List.getElem?_nil,Nat.reduceMul,Nat.reducePow,Nat.reduceLeDiff,rowOf_mapD,rowOf_mapI,rowOf_mapA,List.getElem?_cons_zero,List.getElem?_cons_succ,take_map_len,take_map_app,List.getElem?_cons_zero,c66,r66,u66_1,ty3,mvcgen_simp]) | (with_reducible refine And.intro ?_ ?_) | (refine call_roC e89 ( indexA_p xs g ca p C hb hf) rfl ?_ ?_ ?_ ?_ ?_) | (refine EndX.plain ?_) | (refine nil_split (fun hn=>?_) (fun hn=>?_)) | (refine gcall_no not_false ?_) | (refine gdcall_no not_false ?_) | (refine GuardS_of _ _ _ _ _ _ (fun hg=>?_) (fun hg=>?_)) | (refine GuardD_of _ _ _ _ (fun hg=>?_) (fun hg=>?_)) | (refine CondB_of _ _ _ _ _ _ _ ?_ (fun hg=>?_) (fun hg=>?_)))
  all_goals (try (first | ((first | unfold noN | unfold Fr.below | unfold Loc.below);simp [Fr.allN,AV.allN,AV.allNL,AO.allN];done) | rfl | trivial | assumption | (intro row hrow;simp only [List.mem_map] at hrow;obtain ⟨x,_,rfl⟩:=hrow;rfl) | (refine Wk.keep hcl ?_ ?_ ?_;(focus (simp [Fr.get]<;>fail));(focus (simp [sto]<;>fail));(focus (simp<;>fail))) | (simp [allP,opd,Fr.get,Fr.below,Fr.allN,AV.allN,AV.allNL,Loc.below,AO.allN,noN,killO,killT,killD,mkNames,AO.kill,AV.kill,AV.mapN,AV.mapNL];done) | (with_reducible exact ltD (by assumption)) | omega | (simp only [decide_eq_true_eq,decide_eq_false_iff_not] at *;omega)))
  all_goals (try (first | exact hC | omega | (simp [allP,opd,Fr.get,Fr.below,Fr.allN,AV.allN,AV.allNL,Loc.below,hca];done)))
  rw [idxI_any]


theorem queue1_p (a b:AskD) (m:Nat):PureC (fun σ=>σ m = .box [I a.ver,I a.days,I a.cls]) Try.prog 67 [.agg (b.row.map .d),.lp m 0] (Bo (b.ver == a.ver)):=by
  refine pure_ofC follows Try.func67 c67_eq r67 (Nat.le_of_ble_eq_true rfl) fun B σ hC hcl hsz=>?_
  clear hsz
  have hn:m < B:=by
    rcases Nat.lt_or_ge m B with h | h
    · exact h
    · rw [(hcl m).2 h] at hC;cases hC
  have y1:∀ s,(m = B + s) = False:=fun s=>by simp;omega
  have y2:∀ s,(B + s = m) = False:=fun s=>by simp;omega
  repeat' (first | (simp -implicitDefEqProofs only [*,Nat.reduceBEq,↓reduceIte,Nat.reduceEqDiff,Nat.reduceAdd,reduceCtorEq,AO.kill,Int.reduceLT,Int.reduceToNat,List.getElem?_nil,Nat.reduceMul,Nat.reducePow,Nat.reduceLeDiff,rowOf_mapD,rowOf_mapI,rowOf_mapA,List.getElem?_cons_zero,List.getElem?_cons_succ,take_map_len,take_map_app,List.getElem?_cons_zero,c67,r67,v67_1,u67_2,ty87,ty3,y1,y2,hC,AskD.row,mvcgen_simp]) | (with_reducible refine And.intro ?_ ?_) | (refine EndX.plain ?_) | (refine nil_split (fun hn=>?_) (fun hn=>?_)) | (refine gcall_no not_false ?_) | (refine gdcall_no not_false ?_) | (refine GuardS_of _ _ _ _ _ _ (fun hg=>?_) (fun hg=>?_)) | (refine GuardD_of _ _ _ _ (fun hg=>?_) (fun hg=>?_)) | (refine CondB_of _ _ _ _ _ _ _ ?_ (fun hg=>?_) (fun hg=>?_)))
  all_goals (try (first | ((first | unfold noN | unfold Fr.below | unfold Loc.below);simp [Fr.allN,AV.allN,AV.allNL,AO.allN];done) | rfl | trivial | assumption | (intro row hrow;simp only [List.mem_map] at hrow;obtain ⟨x,_,rfl⟩:=hrow;rfl) | (refine Wk.keep hcl ?_ ?_ ?_;(focus (simp [Fr.get,y1,y2,hC,AskD.row]<;>fail));(focus (simp [sto,y1,y2,hC,AskD.row]<;>fail));(focus (simp<;>fail))) | (simp [allP,opd,Fr.get,Fr.below,Fr.allN,AV.allN,AV.allNL,Loc.below,AO.allN,noN,killO,killT,killD,mkNames,AO.kill,AV.kill,AV.mapN,AV.mapNL];done) | (with_reducible exact ltD (by assumption)) | omega | (simp only [decide_eq_true_eq,decide_eq_false_iff_not] at *;omega)))
theorem Rows_ask (l:List AskD):Rows (l.map AskD.row) 3 = True:=eq_true fun r hr=>by
  obtain ⟨x,_,rfl⟩:=List.mem_map.1 hr;rfl
def quBad (s:SttD) (k:Nat):Bool:=(!thereV s s.queue[k]!.ver || (s.vers[verI s s.queue[k]!.ver]!.tier != 2 || (decide (s.queue[k]!.days < 1) || (decide (s.queue[k]!.days > 1000) || (decide (s.queue[k]!.cls < 0) || decide (s.queue[k]!.cls > 2)))))) || (s.queue.take k).any (fun b=>b.ver == s.queue[k]!.ver)
def queueF (s:SttD):Bool:=(List.range s.queue.length).all (fun k=>!quBad s k) && decide ((s.queue.length:Int) ≤ 10)
theorem queue_no {s:SttD} {k:Nat} (hk:decide ((k:Int) < (s.queue.length:Int)) = true) (h:quBad s k = true):queueF s = false:=by
  unfold queueF;rw [rng_no (ltS hk) h];rfl
theorem queue_all {s:SttD} {k:Nat} (hk:decide ((k:Int) < (s.queue.length:Int)) = false) (h:∀ i,i < k → quBad s i = false):queueF s = decide ((s.queue.length:Int) ≤ 10):=by
  unfold queueF;rw [rng_all fun i hi=>h i (by have:=geS hk;omega)];rfl
theorem there_lt {s:SttD} {x:Int} (h:thereV s x = true):verI s x < s.vers.length:=of_decide_eq_true (Bool.and_eq_true_iff.1 h).1
theorem queue_p (s:SttD):Pure Try.prog 40 [s.av] (Bo (queueF s)):=by
  refine pure_of follows Try.func40 c40_eq r40 (Nat.le_of_ble_eq_true rfl) fun B σ hcl hsz=>?_
  obtain ⟨z1,z2,z3,z4,z5⟩:=st_sz5 (hsz s.av (by simp))
  clear hsz
  simp -implicitDefEqProofs only [contN,contC,Nat.reduceBEq,Bool.or_false,Bool.or_true,Bool.false_or,Bool.true_or,Bool.not_true,Bool.not_false,SEconv,w_skip,w_ret,w_exit,w_reg,w_dreg,w_oreg,HO_app,w_odone,w_onil,w_ofst,w_obr,w_seq,SK_n,SK_r,SK_x,w_keep,w_block,w_cond,w_nil,w_cons,w_consg,w_nnil,w_ncons,w_dnil,w_dcons,w_dconsg,HK_app,HD_app,HQ_n,HQ_r,HQ_x,HQ_bn,HQ_br,HQ_bx,HQ_en,HQ_er,HQ_ex,CondB_true,CondB_false,SO1,w_sdv,SDe_alloc,SDe_box,SDe_bslice,SDe_app,true_imp_iff,false_imp_iff,and_false,false_and,not_false_eq_true,not_true_eq_false,addN,mkNames,killT,killD,killO,List.foldl_nil,List.foldl_cons,List.append_nil,List.nil_append,List.cons_append,GuardS_true,GuardS_false,GuardD_true,GuardD_false,DK_true,DK_false,lt_self_add,le_self_add,decide_true,decide_false,Bool.false_eq_true,Bool.true_eq_false,Nat.add_left_cancel_iff,SE,SEalloc,SEbox,SEstore,w_bs,SEbl,SEfz,SEbs0,fzName,osOf,AV.fz1,w_app,w_mk,aev,opd,Fr.get,putO,Fr.norm,List.map_cons,List.map_nil,with1,with2,onInt,AV.lit,entry,↓reduceIte,Nat.reduceEqDiff,Nat.reduceAdd,reduceCtorEq,true_and,and_true,Option.map_some,Option.map_none,Option.bind_some,Option.bind_none,cond_true,cond_false,binV,unV,fieldV,loadV,sto,cellsAV,newF,newL,Fr.map,Loc.kill,Loc.set,AO.kill,AV.kill,AV.mapN,AV.mapNL,List.filter_nil,List.filter_cons,allP,EndV,retV,resV,resL,frz,dropL,AV.pick,nilV,tupV,imp_self,ne_eq,Int.cast_ofNat_Int,Int.reduceLT,Int.reduceToNat,List.getD_cons_zero,List.getD_cons_succ,bsliceV,buildV,afill,repl,chunk,rvs,AV.rv,RV.nrm,List.getElem?_nil,List.append_assoc,Nat.reduceMul,Nat.reducePow,Nat.zero_lt_succ,Nat.zero_add,Nat.add_zero,List.length_cons,List.length_nil,Nat.reduceLeDiff,Nat.le_refl,List.take_succ_cons,List.take_zero,List.drop_succ_cons,List.drop_zero,indexV,lenV,rowOf_mapD,rowOf_mapI,rowOf_mapA,List.length_map,Int.toNat_natCast,List.getElem?_cons_zero,List.getElem?_cons_succ,and_self,implies_true,if_true,if_false,HQ_zn,HQ_zr,HQ_wn,HQ_wr,AV.nz,AV.nzL,RV.nrm,SEbin,SEnil,nilK,srcV,dstV,appName,List.length_append,Nat.mul_one,take_map_len,take_map_app,List.getElem?_cons_zero,List.map_append,SEmkmap,SEmset,mgetV,kvOf,getM,setM,w_bsH,SEapA,SEapB,bsliceA,SEclr,nilIn,nilIn.nilC,c40,r40,v40_1,v40_2,v40_3,v40_4,v40_5,v40_6,v40_7,v40_8,v40_9,v40_10,u40_11,u40_12,v40_13,u40_14,u40_15,u40_16,u40_17,u40_18,u40_19,u40_20,u40_21,u40_22,u40_23,u40_24,u40_25,ty28,ty25,ty3,ty87,ty23,ty41,SttD.av,SttD.cells]
  refine loop_nat s.queue.length (fun k=>∀ i,i < k → quBad s i = false) (fun k=>[(1,.lp (B + 1) 0),(8,.d (.ro (s.queue.map AskD.row))),(9,I s.queue.length),(10,I k)]) (fun k=>[(B + 1,.box s.cells)]) (by simp) (Wk.keep hcl (by simp [Fr.get]) (by simp [sto,SttD.cells]) (by simp)) fun k hk hF=>?_
  have hw:IntKind.i64.wrap ((k:Int) + 1) = (k:Int) + 1:=IntWalk.i64_in _ (by omega)
  have hv1:(!thereV s s.queue[k]!.ver) = false → rowOf (s.vers.map VerD.row) (verI s s.queue[k]!.ver) = VerD.row s.vers[verI s s.queue[k]!.ver]!:=fun h=>rowOf_mapD _ _ _ (decide_eq_true (by have:=there_lt (by simpa using h:thereV s s.queue[k]!.ver = true);omega))
  have hv2:(!thereV s s.queue[k]!.ver) = false → ((verI s s.queue[k]!.ver:Int) < (s.vers.length:Int)) = True:=fun h=>eq_true (by have:=there_lt (by simpa using h:thereV s s.queue[k]!.ver = true);omega)
  have hk2:(k:Int) ≤ (s.queue.length:Int):=by omega
  have hq:=containsA_p (s.queue.take k) 67 [.lp (B + 4) 0] (fun b=>b.ver == s.queue[k]!.ver) (fun σ=>σ (B + 4) = .box [I s.queue[k]!.ver,I s.queue[k]!.days,I s.queue[k]!.cls]) (fun B σ h1 h2=>capt1 B σ h1 h2) (fun i _=>PureC.clo e67 (queue1_p _ _ _))
  repeat' (first | (simp -implicitDefEqProofs only [*,Nat.reduceBEq,↓reduceIte,Nat.reduceEqDiff,Nat.reduceAdd,reduceCtorEq,AO.kill,Int.reduceLT,Int.reduceToNat,List.getElem?_nil,Nat.reduceMul,Nat.reducePow,Nat.reduceLeDiff,rowOf_mapD,rowOf_mapI,rowOf_mapA,List.getElem?_cons_zero,List.getElem?_cons_succ,take_map_len,take_map_app,List.getElem?_cons_zero,c40,r40,v40_1,v40_2,v40_3,v40_4,v40_5,v40_6,v40_7,v40_8,v40_9,v40_10,u40_11,u40_12,v40_13,u40_14,u40_15,u40_16,u40_17,u40_18,u40_19,u40_20,u40_21,u40_22,u40_23,u40_24,u40_25,ty28,ty25,ty3,ty87,ty23,ty41,SttD.av,SttD.cells,AskD.row,ints,VerD.row,bnd,sliceV,Option.getD_some,Option.getD_none,Rows_ask,Nat.sub_zero,← List.map_take,mvcgen_simp]) | (with_reducible refine And.intro ?_ ?_) | (refine call_ro e65 ( ver_p s s.queue[k]!.ver) rfl ?_ ?_ ?_ ?_) | (refine gcall_ro e65 ( ver_p s s.queue[k]!.ver) rfl ?_ ?_ ?_ ?_) | (refine dcall_ro e65 ( ver_p s s.queue[k]!.ver) rfl ?_ ?_ ?_ ?_) | (refine gdcall_ro rfl e65 ( ver_p s s.queue[k]!.ver) rfl ?_ ?_ ?_ ?_) | (refine call_roC e66 ( hq) rfl ?_ ?_ ?_ ?_ ?_) | (refine EndX.plain ?_) | (refine nil_split (fun hn=>?_) (fun hn=>?_)) | (refine gcall_no not_false ?_) | (refine gdcall_no not_false ?_) | (refine GuardS_of _ _ _ _ _ _ (fun hg=>?_) (fun hg=>?_)) | (refine GuardD_of _ _ _ _ (fun hg=>?_) (fun hg=>?_)) | (refine CondB_of _ _ _ _ _ _ _ ?_ (fun hg=>?_) (fun hg=>?_)))
  all_goals (try (first | ((first | unfold noN | unfold Fr.below | unfold Loc.below);simp [Fr.allN,AV.allN,AV.allNL,AO.allN];done) | rfl | trivial | assumption | (intro row hrow;simp only [List.mem_map] at hrow;obtain ⟨x,_,rfl⟩:=hrow;rfl) | (refine Wk.keep hcl ?_ ?_ ?_;(focus (simp [Fr.get,SttD.av,SttD.cells,AskD.row,ints,VerD.row,bnd,sliceV,Option.getD_some,Option.getD_none,Rows_ask,Nat.sub_zero,← List.map_take]<;>fail));(focus (simp [sto,SttD.av,SttD.cells,AskD.row,ints,VerD.row,bnd,sliceV,Option.getD_some,Option.getD_none,Rows_ask,Nat.sub_zero,← List.map_take]<;>fail));(focus (simp<;>fail))) | (simp [allP,opd,Fr.get,Fr.below,Fr.allN,AV.allN,AV.allNL,Loc.below,AO.allN,noN,killO,killT,killD,mkNames,AO.kill,AV.kill,AV.mapN,AV.mapNL];done) | (with_reducible exact ltD (by assumption)) | omega | (simp only [decide_eq_true_eq,decide_eq_false_iff_not] at *;omega)))
  all_goals (clear hq hv1 hv2)
  all_goals (try (simp only [Bool.not_eq_true',Bool.not_eq_false'] at *))
  all_goals first
    | (rw [queue_no (by assumption) (by simp only [quBad, *,Bool.false_or,Bool.true_or,Bool.or_true,Bool.or_false,Bool.and_true,Bool.true_and,Bool.false_and,Bool.and_false,Bool.not_true,Bool.not_false,cond_true,cond_false])];done)
    | (rw [queue_all (by assumption) hF];done)
    | exact allN' hF (by simp only [quBad, *,Bool.false_or,Bool.true_or,Bool.or_true,Bool.or_false,Bool.and_true,Bool.true_and,Bool.false_and,Bool.and_false,Bool.not_true,Bool.not_false,cond_true,cond_false])
end Go.Proofs.Ytikgiadbkjmabaa
