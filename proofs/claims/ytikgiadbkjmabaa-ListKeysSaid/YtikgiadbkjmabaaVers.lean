/- All versions that may be. -/
import Derived.Test.YtikgiadbkjmabaaSound
import Derived.Test.YtikgiadbkjmabaaBkts
import Derived.Test.YtikgiadbkjmabaaTypes
namespace Go.Proofs.Ytikgiadbkjmabaa
open Go.RowKit
set_option maxRecDepth 100000
def o38_1:List SO:=((SO.mk (some 6) (.move (.tmp 15)) none) :: (SO.mk none (.store 41 (.tmp 7) (.tmp 17)) none) :: [])
theorem v38_1:type_of% (@swl _ _ o38_1.eq_1):=@swl _ _ o38_1.eq_1
def o38_2:List SO:=((SO.mk (some 18) (.load 28 (.tmp 2)) none) :: (SO.mk (some 19) (.load 41 (.tmp 7)) none) :: (SO.mk (some 20) (.move (.tmp 1)) none) :: [])
theorem v38_2:type_of% (@swd _ _ o38_2.eq_1):=@swd _ _ o38_2.eq_1
theorem m38_2 (B:Nat):mkNames B o38_2 = []:=(rfl)
def o38_3:List SO:=((SO.mk (some 37) (.pick (.tmp 26) (.tmp 36) (.const (Value.bool false))) (some (23 ,false))) :: (SO.mk (some 38) (.pick (.tmp 23) (.const (Value.bool true)) (.tmp 37)) none) :: [])
theorem v38_3:type_of% (@swl _ _ o38_3.eq_1):=@swl _ _ o38_3.eq_1
def o38_4:List SO:=((SO.mk (some 33) (.load 3 (.tmp 32)) (some (26 ,true))) :: (SO.mk (some 34) (.faddr 41 (.tmp 7) 0) (some (26 ,true))) :: (SO.mk (some 35) (.load 3 (.tmp 34)) (some (26 ,true))) :: (SO.mk (some 36) (.bin .geq 3 (.tmp 33) (.tmp 35)) (some (26 ,true))) :: o38_3)
theorem v38_4:type_of% (@swl _ _ o38_4.eq_1):=@swl _ _ o38_4.eq_1
def o38_5:List SO:=((SO.mk (some 28) (.load 23 (.tmp 27)) (some (26 ,true))) :: (SO.mk (some 30) (.bin .sub 3 (.tmp 29) (.const (Value.int .i64 1))) (some (26 ,true))) :: (SO.mk (some 31) (.iaddr 23 (.tmp 28) (.tmp 30)) (some (26 ,true))) :: (SO.mk (some 32) (.faddr 41 (.tmp 31) 0) (some (26 ,true))) :: o38_4)
theorem v38_5:type_of% (@swl _ _ o38_5.eq_1):=@swl _ _ o38_5.eq_1
def o38_6:List SO:=((SO.mk (some 25) (.bin .gtr 3 (.tmp 24) (.const (Value.int .i64 0))) (some (23 ,false))) :: (SO.mk (some 26) (.move (.tmp 25)) (some (23 ,false))) :: (SO.mk (some 29) (.move (.tmp 6)) (some (26 ,true))) :: (SO.mk (some 27) (.faddr 28 (.tmp 2) 3) (some (26 ,true))) :: o38_5)
theorem v38_6:type_of% (@swl _ _ o38_6.eq_1):=@swl _ _ o38_6.eq_1
def c38_7:SC:=(.seq (.reg [SO.mk (some 4) (.move (.const (Value.bool false))) none]) (.keep [4] .ret))
theorem u38_7:type_of% (@swc _ _ c38_7.eq_1):=@swc _ _ c38_7.eq_1
def c38_8:SC:=(.cond (.tmp 38) c38_7 .skip)
theorem u38_8:type_of% (@swc _ _ c38_8.eq_1):=@swc _ _ c38_8.eq_1
def o38_9:List SO:=((SO.mk (some 43) (.build 94 [(0 ,(.tmp 40)),(1 ,(.tmp 42))]) none) :: (SO.mk (some 8) (.alloc 94) none) :: (SO.mk none (.store 94 (.tmp 8) (.tmp 43)) none) :: [])
theorem v38_9:type_of% (@swl _ _ o38_9.eq_1):=@swl _ _ o38_9.eq_1
def o38_10:List SO:=((SO.mk (some 48) (.load 94 (.tmp 8)) (some (46 ,true))) :: (SO.mk (some 49) (.mget 92 (.tmp 47) (.tmp 48)) (some (46 ,true))) :: (SO.mk (some 50) (.pick (.tmp 46) (.tmp 49) (.const (Value.bool false))) none) :: [])
theorem v38_10:type_of% (@swl _ _ o38_10.eq_1):=@swl _ _ o38_10.eq_1
def c38_11:SC:=(.seq (.reg [SO.mk (some 4) (.move (.const (Value.bool false))) none]) (.keep [4] .ret))
theorem u38_11:type_of% (@swc _ _ c38_11.eq_1):=@swc _ _ c38_11.eq_1
def c38_12:SC:=(.cond (.tmp 50) c38_11 .skip)
theorem u38_12:type_of% (@swc _ _ c38_12.eq_1):=@swc _ _ c38_12.eq_1
def o38_13:List SO:=((SO.mk (some 59) (.pick (.tmp 56) (.const (Value.bool true)) (.tmp 58)) none) :: [])
theorem v38_13:type_of% (@swd _ _ o38_13.eq_1):=@swd _ _ o38_13.eq_1
def o38_14:List SO:=((SO.mk (some 55) (.mget 92 (.tmp 53) (.tmp 54)) none) :: (SO.mk (some 56) (.move (.tmp 55)) none) :: (SO.mk (some 57) (.faddr 41 (.tmp 7) 3) (some (56 ,false))) :: (SO.mk (some 58) (.load 4 (.tmp 57)) (some (56 ,false))) :: o38_13)
theorem v38_14:type_of% (@swd _ _ o38_14.eq_1):=@swd _ _ o38_14.eq_1
def o38_15:List SO:=((SO.mk (some 51) (.move (.tmp 5)) none) :: (SO.mk (some 52) (.load 94 (.tmp 8)) none) :: (SO.mk (some 53) (.move (.tmp 5)) none) :: (SO.mk (some 54) (.load 94 (.tmp 8)) none) :: o38_14)
theorem v38_15:type_of% (@swd _ _ o38_15.eq_1):=@swd _ _ o38_15.eq_1
theorem m38_15 (B:Nat):mkNames B o38_15 = []:=(rfl)
def c38_16:SC:=(.dreg false o38_15 [SO.mk none (.mset 92 (.tmp 51) (.tmp 52) (.tmp 59)) none])
theorem u38_16:type_of% (@swc _ _ c38_16.eq_1):=@swc _ _ c38_16.eq_1
def c38_17:SC:=(.seq (.seq (.reg ((SO.mk (some 44) (.faddr 41 (.tmp 7) 3) none) :: (SO.mk (some 45) (.load 4 (.tmp 44)) none) :: (SO.mk (some 46) (.move (.tmp 45)) none) :: (SO.mk (some 47) (.move (.tmp 5)) (some (46 ,true))) :: o38_10)) (.keep [50,8,7,13,12,5,1,11,2] c38_12)) (.keep [8,7,13,12,5,1,11,2] c38_16))
theorem u38_17:type_of% (@swc _ _ c38_17.eq_1):=@swc _ _ c38_17.eq_1
def c38_18:SC:=(.seq (.reg ((SO.mk (some 39) (.faddr 41 (.tmp 7) 1) none) :: (SO.mk (some 40) (.load 9 (.tmp 39)) none) :: (SO.mk (some 41) (.faddr 41 (.tmp 7) 2) none) :: (SO.mk (some 42) (.load 9 (.tmp 41)) none) :: o38_9)) (.keep [8,7,13,12,5,1,11,2] c38_17))
theorem u38_18:type_of% (@swc _ _ c38_18.eq_1):=@swc _ _ c38_18.eq_1
def c38_19:SC:=(.seq (.seq (.dreg false o38_2 ((SO.mk (some 21) (.call 61 [(.tmp 18),(.tmp 19),(.tmp 20)]) none) :: (SO.mk (some 22) (.un .not (.tmp 21)) none) :: (SO.mk (some 23) (.move (.tmp 22)) none) :: (SO.mk (some 24) (.move (.tmp 6)) (some (23 ,false))) :: o38_6)) (.keep [38,7,13,12,5,1,11,2] c38_8)) (.keep [7,13,12,5,1,11,2] c38_18))
theorem u38_19:type_of% (@swc _ _ c38_19.eq_1):=@swc _ _ c38_19.eq_1
def c38_20:SC:=(.reg [SO.mk (some 60) (.bin .add 3 (.tmp 13) (.const (Value.int .i64 1))) none,SO.mk (some 13) (.move (.tmp 60)) none])
theorem u38_20:type_of% (@swc _ _ c38_20.eq_1):=@swc _ _ c38_20.eq_1
def c38_21:SC:=(.seq (.block 1 (.seq (.reg ((SO.mk (some 15) (.move (.tmp 13)) none) :: (SO.mk (some 16) (.iaddr 23 (.tmp 11) (.tmp 13)) none) :: (SO.mk (some 17) (.load 41 (.tmp 16)) none) :: (SO.mk (some 7) (.alloc 41) none) :: o38_1)) (.keep [6,7,13,12,5,1,11,2] c38_19))) (.keep [13,12,5,1,11,2] c38_20))
theorem u38_21:type_of% (@swc _ _ c38_21.eq_1):=@swc _ _ c38_21.eq_1
def c38_22:SC:=(.seq (.cond (.tmp 14) .skip (.exit 0)) (.keep [13,12,5,1,11,2] c38_21))
theorem u38_22:type_of% (@swc _ _ c38_22.eq_1):=@swc _ _ c38_22.eq_1
def c38_23:SC:=(.seq (.reg [SO.mk (some 14) (.bin .lss 3 (.tmp 13) (.tmp 12)) none]) (.keep [14,11,1,5,12,13,2] c38_22))
theorem u38_23:type_of% (@swc _ _ c38_23.eq_1):=@swc _ _ c38_23.eq_1
def c38_24:SC:=(.block 0 (.loop (.keep [11,1,5,12,13,2] c38_23)))
theorem u38_24:type_of% (@swc _ _ c38_24.eq_1):=@swc _ _ c38_24.eq_1
def c38_25:SC:=(.seq (.reg [SO.mk (some 61) (.faddr 28 (.tmp 2) 3) none,SO.mk (some 62) (.load 23 (.tmp 61)) none,SO.mk (some 63) (.len 23 (.tmp 62)) none,SO.mk (some 64) (.bin .leq 3 (.tmp 63) (.const (Value.int .i64 40))) none,SO.mk (some 4) (.move (.tmp 64)) none]) (.keep [4] .ret))
theorem u38_25:type_of% (@swc _ _ c38_25.eq_1):=@swc _ _ c38_25.eq_1
def c38_26:SC:=(.seq (.seq (.reg [SO.mk (some 10) (.faddr 28 (.tmp 2) 3) none,SO.mk (some 11) (.load 23 (.tmp 10)) none,SO.mk (some 12) (.len 23 (.tmp 11)) none,SO.mk (some 13) (.move (.const (Value.int .i64 0))) none]) (.keep [11,1,5,12,13,2] c38_24)) (.keep [2] c38_25))
theorem u38_26:type_of% (@swc _ _ c38_26.eq_1):=@swc _ _ c38_26.eq_1
def c38_27:SC:=(.seq (.reg [SO.mk (some 9) (.mkmap 92) none,SO.mk (some 5) (.move (.tmp 9)) none]) (.keep [1,5,2] c38_26))
theorem u38_27:type_of% (@swc _ _ c38_27.eq_1):=@swc _ _ c38_27.eq_1
def c38:SC:=(.seq (.reg [SO.mk (some 2) (.box 28 (.tmp 0)) none,SO.mk (some 4) (.move (.const (Value.bool false))) none]) (.keep [1,2] c38_27))
theorem c38_eq:annC Try.f38 = some c38:=by kernel_rfl
theorem r38:Try.f38.results.toList = [.tmp 4]:=by kernel_rfl
theorem e38:enters Try.prog 38 = true:=by kernel_rfl
end Go.Proofs.Ytikgiadbkjmabaa
namespace Go.Proofs.Ytikgiadbkjmabaa
open Go.RowKit
set_option maxHeartbeats 4000000
set_option maxRecDepth 20000
attribute [local irreducible] SW OSW SWL SWLn SWD SEcall SEcallv SDv SE SO1 SOg ACalls ACallv Wk EndV
set_option linter.unusedSimpArgs false
set_option linter.unusedVariables false
def verKey (v:VerD):KV:=.s2 v.bkt v.key
def vsBad (s:SttD) (k:Nat) (e m:List (KV × Bool)):Bool:=(!(soundF s s.vers[k]! e).1 || (decide ((k:Int) > 0) && decide (s.vers[k - 1]!.id ≥ s.vers[k]!.id))) || (s.vers[k]!.null && getM m (verKey s.vers[k]!))
def vsN (s:SttD) (k:Nat) (m:List (KV × Bool)):List (KV × Bool):=setM m (verKey s.vers[k]!) (getM m (verKey s.vers[k]!) || s.vers[k]!.null)
def vsGo (s:SttD):Nat → Nat → List (KV × Bool) → List (KV × Bool) → Bool × List (KV × Bool)
  | 0,_,e,_=>(true,e)
  | j + 1,k,e,m=>bif vsBad s k e m then (false,(soundF s s.vers[k]! e).2) else vsGo s j (k + 1) (soundF s s.vers[k]! e).2 (vsN s k m)
def vsE (s:SttD) (e:List (KV × Bool)):Nat → List (KV × Bool)
  | 0=>e
  | k + 1=>(soundF s s.vers[k]! (vsE s e k)).2
def vsM (s:SttD):Nat → List (KV × Bool)
  | 0=>[]
  | k + 1=>vsN s k (vsM s k)
def versF (s:SttD) (e:List (KV × Bool)):Bool × List (KV × Bool):=((vsGo s s.vers.length 0 e []).1 && decide ((s.vers.length:Int) ≤ 40),(vsGo s s.vers.length 0 e []).2)
theorem vsGo_all {s:SttD} {e:List (KV × Bool)} {n:Nat}:∀ k,k ≤ n → (∀ i,i < k → vsBad s i (vsE s e i) (vsM s i) = false) → vsGo s n 0 e [] = vsGo s (n - k) k (vsE s e k) (vsM s k)
  | 0,_,_=>rfl
  | k + 1,hk,h=>by
    rw [vsGo_all k (by omega) fun i hi=>h i (by omega),show n - k = (n - (k + 1)) + 1 by omega]
    simp only [vsGo,h k (by omega),cond_false,vsE,vsM]
theorem vers_no {s:SttD} {e:List (KV × Bool)} {k:Nat} (hk:decide ((k:Int) < (s.vers.length:Int)) = true) (hF:∀ i,i < k → vsBad s i (vsE s e i) (vsM s i) = false) (h:vsBad s k (vsE s e k) (vsM s k) = true):versF s e = (false,(soundF s s.vers[k]! (vsE s e k)).2):=by
  have hk:=ltS hk
  unfold versF
  rw [vsGo_all k (by omega) hF,show s.vers.length - k = (s.vers.length - (k + 1)) + 1 by omega]
  simp only [vsGo,h,cond_true,Bool.false_and]
theorem vers_all {s:SttD} {e:List (KV × Bool)} {k:Nat} (hk:decide ((k:Int) < (s.vers.length:Int)) = false) (h0:k ≤ s.vers.length) (hF:∀ i,i < k → vsBad s i (vsE s e i) (vsM s i) = false):versF s e = (decide ((s.vers.length:Int) ≤ 40),vsE s e k):=by
  have hk:=geS hk
  have:k = s.vers.length:=by omega
  unfold versF
  rw [vsGo_all k h0 hF,show s.vers.length - k = 0 by omega]
  simp only [vsGo,Bool.true_and]
theorem versions_p (s:SttD) (es:List (KV × Bool)) (hkey:∀ k,k < s.vers.length → (KV.s2 s.vers[k]!.bkt s.vers[k]!.key).ok true) (B:Nat) (σ:Sto) (n:Nat) (hn:n < B) (hσ:σ n = .mp false es) :
    ACalls Try.prog 38 [s.av,.mp n] σ B [] (fun v' σ'=>v' = Bo (versF s es).1 ∧ σ' = sto [(n,.mp false (versF s es).2)] σ):=by
  refine own_of follows Try.func38 c38_eq r38 (Nat.le_of_ble_eq_true rfl) fun hcl hsz=>?_
  obtain ⟨z1,z2,z3,z4,z5⟩:=st_sz5 (hsz s.av (by simp))
  clear hsz
  have y1:∀ s,(n = B + s) = False:=fun s=>by simp;omega
  have y2:∀ s,(B + s = n) = False:=fun s=>by simp;omega
  have y3:(n < B) = True:=eq_true hn
  have y4:decide (n < B) = true:=by simpa using hn
  have y5:decide (n < B + 100000) = true:=by simp;omega
  simp -implicitDefEqProofs only [contN,contC,Nat.reduceBEq,Bool.or_false,Bool.or_true,Bool.false_or,Bool.true_or,Bool.not_true,Bool.not_false,SEconv,w_skip,w_ret,w_exit,w_reg,w_dreg,w_oreg,HO_app,w_odone,w_onil,w_ofst,w_obr,w_seq,SK_n,SK_r,SK_x,w_keep,w_block,w_cond,w_nil,w_cons,w_consg,w_nnil,w_ncons,w_dnil,w_dcons,w_dconsg,HK_app,HD_app,HQ_n,HQ_r,HQ_x,HQ_bn,HQ_br,HQ_bx,HQ_en,HQ_er,HQ_ex,CondB_true,CondB_false,SO1,w_sdv,SDe_alloc,SDe_box,SDe_bslice,SDe_app,true_imp_iff,false_imp_iff,and_false,false_and,not_false_eq_true,not_true_eq_false,addN,mkNames,killT,killD,killO,List.foldl_nil,List.foldl_cons,List.append_nil,List.nil_append,List.cons_append,GuardS_true,GuardS_false,GuardD_true,GuardD_false,DK_true,DK_false,lt_self_add,le_self_add,decide_true,decide_false,Bool.false_eq_true,Bool.true_eq_false,Nat.add_left_cancel_iff,SE,SEalloc,SEbox,SEstore,w_bs,SEbl,SEfz,SEbs0,fzName,osOf,AV.fz1,w_app,w_mk,aev,opd,Fr.get,putO,Fr.norm,List.map_cons,List.map_nil,with1,with2,onInt,AV.lit,entry,↓reduceIte,Nat.reduceEqDiff,Nat.reduceAdd,reduceCtorEq,true_and,and_true,Option.map_some,Option.map_none,Option.bind_some,Option.bind_none,cond_true,cond_false,binV,unV,fieldV,loadV,sto,cellsAV,newF,newL,Fr.map,Loc.kill,Loc.set,AO.kill,AV.kill,AV.mapN,AV.mapNL,List.filter_nil,List.filter_cons,allP,EndV,retV,resV,resL,frz,dropL,AV.pick,nilV,tupV,imp_self,ne_eq,Int.cast_ofNat_Int,Int.reduceLT,Int.reduceToNat,List.getD_cons_zero,List.getD_cons_succ,bsliceV,buildV,afill,repl,chunk,rvs,AV.rv,RV.nrm,List.getElem?_nil,List.append_assoc,Nat.reduceMul,Nat.reducePow,Nat.zero_lt_succ,Nat.zero_add,Nat.add_zero,List.length_cons,List.length_nil,Nat.reduceLeDiff,Nat.le_refl,List.take_succ_cons,List.take_zero,List.drop_succ_cons,List.drop_zero,indexV,lenV,rowOf_mapD,rowOf_mapI,rowOf_mapA,List.length_map,Int.toNat_natCast,List.getElem?_cons_zero,List.getElem?_cons_succ,and_self,implies_true,if_true,if_false,HQ_zn,HQ_zr,HQ_wn,HQ_wr,AV.nz,AV.nzL,RV.nrm,SEbin,SEnil,nilK,srcV,dstV,appName,List.length_append,Nat.mul_one,take_map_len,take_map_app,List.getElem?_cons_zero,List.map_append,SEmkmap,SEmset,mgetV,kvOf,getM,setM,w_bsH,SEapA,SEapB,bsliceA,SEclr,nilIn,nilIn.nilC,c38,r38,v38_1,v38_2,m38_2,v38_3,v38_4,v38_5,v38_6,u38_7,u38_8,v38_9,v38_10,u38_11,u38_12,v38_13,v38_14,v38_15,m38_15,u38_16,u38_17,u38_18,u38_19,u38_20,u38_21,u38_22,u38_23,u38_24,u38_25,u38_26,u38_27,ty28,ty92,ty23,ty3,ty41,ty9,ty94,ty4,mt92,SttD.av,SttD.cells]
  refine loop_nat s.vers.length (fun k=>∀ i,i < k → vsBad s i (vsE s es i) (vsM s i) = false) (fun k=>[(11,.d (.ro (s.vers.map VerD.row))),(1,.mp n),(5,.mp (B + 9)),(12,I s.vers.length),(13,I k),(2,.lp (B + 2) 0)]) (fun k=>[(n,.mp false (vsE s es k)),(B + 9,.mp true (vsM s k)),(B + 2,.box s.cells)]) (by simp) (Wk.keep hcl (by simp [Fr.get,newF,Fr.map,AV.kill,AV.mapN,y1,y2]) (by simp [sto,SttD.cells,y1,y2,hσ,vsE,vsM]) (by simp)) fun k hk hF=>?_
  have hw:IntKind.i64.wrap ((k:Int) + 1) = (k:Int) + 1:=IntWalk.i64_in _ (by omega)
  have hpw:=prev_w (k:=k) (by omega)
  have hpr:=prev_row (f:=VerD.row) (l:=s.vers) hk
  have hok:decide ((k:Int) < (s.vers.length:Int)) = true → (KV.s2 s.vers[k]!.bkt s.vers[k]!.key).ok true = True:=fun h=>eq_true (hkey k (ltS h))
  repeat' (first | (simp -implicitDefEqProofs only [*,Nat.reduceBEq,↓reduceIte,Nat.reduceEqDiff,Nat.reduceAdd,reduceCtorEq,AO.kill,Int.reduceLT,Int.reduceToNat,List.getElem?_nil,Nat.reduceMul,Nat.reducePow,Nat.reduceLeDiff,rowOf_mapD,rowOf_mapI,rowOf_mapA,List.getElem?_cons_zero,List.getElem?_cons_succ,take_map_len,take_map_app,List.getElem?_cons_zero,c38,r38,v38_1,v38_2,m38_2,v38_3,v38_4,v38_5,v38_6,u38_7,u38_8,v38_9,v38_10,u38_11,u38_12,v38_13,v38_14,v38_15,m38_15,u38_16,u38_17,u38_18,u38_19,u38_20,u38_21,u38_22,u38_23,u38_24,u38_25,u38_26,u38_27,ty28,ty92,ty23,ty3,ty41,ty9,ty94,ty4,mt92,y1,y2,y3,y4,y5,SttD.av,SttD.cells,VerD.row,ints,mvcgen_simp]) | (with_reducible refine And.intro ?_ ?_) | (refine gcall_do trivial ?_) | (refine call_own [] [(n,.mp false (soundF s s.vers[k]! (vsE s es k)).2)] e61 (sound_p s s.vers[k]! (vsE s es k) _ _ n (by omega) (by simp [sto,y1,y2])) rfl ?_ ?_ ?_ ?_ ?_) | (refine EndX.plain ?_) | (refine nil_split (fun hn=>?_) (fun hn=>?_)) | (refine gcall_no not_false ?_) | (refine gdcall_no not_false ?_) | (refine GuardS_of _ _ _ _ _ _ (fun hg=>?_) (fun hg=>?_)) | (refine GuardD_of _ _ _ _ (fun hg=>?_) (fun hg=>?_)) | (refine CondB_of _ _ _ _ _ _ _ ?_ (fun hg=>?_) (fun hg=>?_)))
  all_goals (try (first | ((first | unfold noN | unfold Fr.below | unfold Loc.below);simp [Fr.allN,AV.allN,AV.allNL,AO.allN];done) | rfl | trivial | assumption | (intro row hrow;simp only [List.mem_map] at hrow;obtain ⟨x,_,rfl⟩:=hrow;rfl) | (refine Wk.keep hcl ?_ ?_ ?_;(focus (simp [Fr.get,y1,y2,y3,y4,y5,SttD.av,SttD.cells,VerD.row,ints]<;>fail));(focus (simp [sto,y1,y2,y3,y4,y5,SttD.av,SttD.cells,VerD.row,ints]<;>fail));(focus (simp<;>fail))) | (simp [allP,opd,Fr.get,Fr.below,Fr.allN,AV.allN,AV.allNL,Loc.below,AO.allN,noN,killO,killT,killD,mkNames,AO.kill,AV.kill,AV.mapN,AV.mapNL];done) | (with_reducible exact ltD (by assumption)) | omega | (simp only [decide_eq_true_eq,decide_eq_false_iff_not] at *;omega)))
  all_goals (try (simp [Fr.below,Loc.below,Fr.allN,AO.allN,AV.allN,AV.allNL,y5];done))
  all_goals (try (
    have eM:vsM s (k + 1) = setM (vsM s k) (KV.s2 s.vers[k]!.bkt s.vers[k]!.key) true:=by simp only [vsM,vsN,verKey, *,Bool.false_or,Bool.true_or,Bool.or_true,Bool.or_false,Bool.and_true,Bool.true_and,Bool.false_and,Bool.and_false,Bool.not_true,Bool.not_false,cond_true,cond_false]
    rw [eM]
    refine Wk.keep hcl ?_ ?_ ?_
    · simp [Fr.get]
    · simp [sto,vsE,y1,y2,SttD.cells,ints]
    · simp))
  all_goals (try (
    have eM:vsM s (k + 1) = setM (vsM s k) (KV.s2 s.vers[k]!.bkt s.vers[k]!.key) false:=by simp only [vsM,vsN,verKey, *,Bool.false_or,Bool.true_or,Bool.or_true,Bool.or_false,Bool.and_true,Bool.true_and,Bool.false_and,Bool.and_false,Bool.not_true,Bool.not_false,cond_true,cond_false]
    rw [eM]
    refine Wk.keep hcl ?_ ?_ ?_
    · simp [Fr.get]
    · simp [sto,vsE,y1,y2,SttD.cells,ints]
    · simp))
  all_goals (clear hpw hpr hok y1 y2 y3 y4 y5)
  all_goals first
    | (have e:=vers_no (e:=es) (by assumption) hF (by simp only [vsBad,verKey, *,Bool.false_or,Bool.true_or,Bool.or_true,Bool.or_false,Bool.and_true,Bool.true_and,Bool.false_and,Bool.and_false,Bool.not_true,Bool.not_false,cond_true,cond_false]:vsBad s k (vsE s es k) (vsM s k) = true)
       rw [e]<;>first | rfl | (funext m;by_cases hm:m = n<;>simp [hm]))
    | (have e:=vers_all (e:=es) (by assumption) hk hF
       rw [e]<;>first | rfl | (funext m;by_cases hm:m = n<;>simp [hm]))
    | exact allN' (p:=fun i=>vsBad s i (vsE s es i) (vsM s i)) hF (by simp only [vsBad,verKey, *,Bool.false_or,Bool.true_or,Bool.or_true,Bool.or_false,Bool.and_true,Bool.true_and,Bool.false_and,Bool.and_false,Bool.not_true,Bool.not_false,cond_true,cond_false])
end Go.Proofs.Ytikgiadbkjmabaa
