/- The reader's many,over each closure of code.DecodeState. -/
import Derived.Test.YtijpmidnclbhpaaKM2
import Derived.Test.YtijpmidnclbhpaaTypes
namespace Go.Proofs.Ytijpmidnclbhpaa
open Go.RowKit
set_option maxRecDepth 100000
def o30_1:List SO:=((SO.mk (some 15) (.pick (.tmp 9) (.tmp 14) (.const (Value.bool false))) none) :: [])
theorem v30_1:type_of% (@swl _ _ o30_1.eq_1):=@swl _ _ o30_1.eq_1
def o30_2:List SO:=((SO.mk (some 11) (.nilCheck (.tmp 10)) (some (9 ,true))) :: (SO.mk (some 12) (.faddr 73 (.tmp 11) 1) (some (9 ,true))) :: (SO.mk (some 13) (.load 30 (.tmp 12)) (some (9 ,true))) :: (SO.mk (some 14) (.bin .eql 30 (.tmp 13) (.const (Value.int .i64 0))) (some (9 ,true))) :: o30_1)
theorem v30_2:type_of% (@swl _ _ o30_2.eq_1):=@swl _ _ o30_2.eq_1
def c30_3:SC:=(.cond (.tmp 15) .skip (.exit 0))
theorem u30_3:type_of% (@swc _ _ c30_3.eq_1):=@swc _ _ c30_3.eq_1
def c30_4:SC:=(.reg [SO.mk (some 16) (.move (.tmp 4)) none,SO.mk (some 17) (.bin .sub 3 (.tmp 16) (.const (Value.int .i64 1))) none,SO.mk (some 4) (.move (.tmp 17)) none])
theorem u30_4:type_of% (@swc _ _ c30_4.eq_1):=@swc _ _ c30_4.eq_1
def c30_5:SC:=(.seq (.block 1 (.reg [SO.mk (some 18) (.move (.tmp 1)) none,SO.mk (some 19) (.callv (.tmp 18) []) none])) (.keep [4,0,1] c30_4))
theorem u30_5:type_of% (@swc _ _ c30_5.eq_1):=@swc _ _ c30_5.eq_1
def c30_6:SC:=(.seq (.seq (.reg ((SO.mk (some 7) (.move (.tmp 4)) none) :: (SO.mk (some 8) (.bin .gtr 3 (.tmp 7) (.const (Value.int .i64 0))) none) :: (SO.mk (some 9) (.move (.tmp 8)) none) :: (SO.mk (some 10) (.move (.tmp 0)) (some (9 ,true))) :: o30_2)) (.keep [15,1,0,4] c30_3)) (.keep [4,0,1] c30_5))
theorem u30_6:type_of% (@swc _ _ c30_6.eq_1):=@swc _ _ c30_6.eq_1
def c30_7:SC:=(.block 0 (.loop (.keep [1,0,4] c30_6)))
theorem u30_7:type_of% (@swc _ _ c30_7.eq_1):=@swc _ _ c30_7.eq_1
def c30:SC:=(.seq (.reg [SO.mk (some 5) (.move (.tmp 0)) none,SO.mk (some 6) (.call 29 [(.tmp 5),(.const (Value.int .i64 1))]) none,SO.mk (some 4) (.move (.tmp 6)) none]) (.keep [1,0,4] c30_7))
theorem c30_eq:annC Try.f30 = some c30:=by kernel_rfl
theorem r30:Try.f30.results.toList = []:=by kernel_rfl
theorem e30:enters Try.prog 30 = true:=by kernel_rfl
end Go.Proofs.Ytijpmidnclbhpaa
namespace Go.Proofs.Ytijpmidnclbhpaa
open Go.RowKit
set_option maxHeartbeats 4000000
set_option maxRecDepth 20000
attribute [local irreducible] SW OSW SWL SWLn SWD SEcall SEcallv SDv SE SO1 SOg ACalls ACallv Wk EndV
set_option linter.unusedSimpArgs false
set_option linter.unusedVariables false
attribute [local irreducible] takS textS bitS intsS takN textN bitN intsN ruleS ruleN askS askN partS partN verS verN bkN bkS
theorem manyBk (B:Nat) (σ:Sto) (n m q p:Nat) (c0 c1 c3 c4 c5 c6:AV) (b:List UInt8) (e:Int) (hA:At4 B σ n m q p (rdO b e) (.arr 5 47 []) (.box [c0,c1,.os m 0,c3,c4,c5,c6]) (.box [.lp n 0])) (o0:old B m c0) (o1:old B m c1) (o3:old B m c3) (o4:old B m c4) (o5:old B m c5) (o6:old B m c6) :
    ACalls Try.prog 30 [.lp n 0,.clo (.func 31) [] [.lp p 0,.lp q 0]] σ B [m] (fun v σ'=>v = .tup [] ∧ σ' = sto [(n,rdO (mnSe bkS (b,e)).1 (mnSe bkS (b,e)).2),(m,.arr 5 47 ((mnLe bkN bkS (b,e)).map BktD.row)),(q,.box [c0,c1,.os m (mnLe bkN bkS (b,e)).length,c3,c4,c5,c6])] σ):=by
  refine own_ofL [(n,rdO b e),(m,.arr 5 47 []),(q,.box [c0,c1,.os m 0,c3,c4,c5,c6]),(p,.box [.lp n 0])] (hid4_sto hA.a1 hA.a2 hA.a3 hA.a4) hid4_closed follows Try.func30 c30_eq r30 (Nat.le_of_ble_eq_true rfl) fun hcl hsz=>?_
  clear hsz
  obtain ⟨hn,hm,hq,hp,nm,nq,np,mq,mp,qp,a1,a2,a3,a4,free⟩:=hA
  have y1:∀ s,(n = B + s) = False:=fun s=>by simp;omega
  have y2:∀ s,(B + s = n) = False:=fun s=>by simp;omega
  have y3:∀ s,(m = B + s) = False:=fun s=>by simp;omega
  have y4:∀ s,(B + s = m) = False:=fun s=>by simp;omega
  have y5:∀ s,(q = B + s) = False:=fun s=>by simp;omega
  have y6:∀ s,(B + s = q) = False:=fun s=>by simp;omega
  have y7:∀ s,(p = B + s) = False:=fun s=>by simp;omega
  have y8:∀ s,(B + s = p) = False:=fun s=>by simp;omega
  have x1:(n = m) = False:=eq_false nm
  have x2:(m = n) = False:=eq_false nm.symm
  have x3:(n = q) = False:=eq_false nq
  have x4:(q = n) = False:=eq_false nq.symm
  have x5:(n = p) = False:=eq_false np
  have x6:(p = n) = False:=eq_false np.symm
  have x7:(m = q) = False:=eq_false mq
  have x8:(q = m) = False:=eq_false mq.symm
  have x9:(m = p) = False:=eq_false mp
  have x10:(p = m) = False:=eq_false mp.symm
  have x11:(q = p) = False:=eq_false qp
  have x12:(p = q) = False:=eq_false qp.symm
  have w1:(n < B) = True:=eq_true hn
  have w2:(m < B) = True:=eq_true hm
  have w3:(q < B) = True:=eq_true hq
  have w4:(p < B) = True:=eq_true hp
  have v1:decide (n < B + 100000) = true:=by simp;omega
  have v2:decide (m < B + 100000) = true:=by simp;omega
  have v3:decide (q < B + 100000) = true:=by simp;omega
  have v4:decide (p < B + 100000) = true:=by simp;omega
  have w5:(B ≤ m) = False:=eq_false (by omega)
  have hr3:=hid4_kill (n:=n) (m:=m) (q:=q) (p:=p) free
  have hr1:hid4 n m q p σ m = .dead:=by simp [hid4,x2]
  have k0:=old_kill o0
  have kB0:=old_killB o0
  have kA0:=old_all o0 (C:=B + 100000) (by omega)
  have k1:=old_kill o1
  have kB1:=old_killB o1
  have kA1:=old_all o1 (C:=B + 100000) (by omega)
  have k3:=old_kill o3
  have kB3:=old_killB o3
  have kA3:=old_all o3 (C:=B + 100000) (by omega)
  have k4:=old_kill o4
  have kB4:=old_killB o4
  have kA4:=old_all o4 (C:=B + 100000) (by omega)
  have k5:=old_kill o5
  have kB5:=old_killB o5
  have kA5:=old_all o5 (C:=B + 100000) (by omega)
  have k6:=old_kill o6
  have kB6:=old_killB o6
  have kA6:=old_all o6 (C:=B + 100000) (by omega)
  clear a1 a2 a3
  have hx0:=(takN_1 (b,e)).1
  have hx1:=(takN_1 (b,e)).2
  obtain ⟨M,hM⟩:∃ M,mnC bkS (b,e) ((takN (b,e) 1).toNat - 0) 0 = M:=⟨_,rfl⟩
  have hM2:mnM bkS (b,e) = M:=hM
  repeat' (first | (simp -implicitDefEqProofs only [*,Nat.reduceBEq,↓reduceIte,Nat.reduceEqDiff,Nat.reduceAdd,reduceCtorEq,Int.reduceLT,Int.reduceToNat,List.getElem?_nil,Nat.reduceMul,Nat.reducePow,Nat.reduceLeDiff,rowOf_mapD,rowOf_mapI,rowOf_mapA,List.getElem?_cons_zero,List.getElem?_cons_succ,take_map_len,take_map_app,List.getElem?_cons_zero,c30,r30,v30_1,v30_2,u30_3,u30_4,u30_5,u30_6,u30_7,ty3,ty73,ty30,kvD,kvO,kvL,kvP,kvG,kvT,kvC,kvE,kvY,aokB,aokD,aokA,↓rdO_allN,↓rdO_kill,y1,y2,y3,y4,y5,y6,y7,y8,x1,x2,x3,x4,x5,x6,x7,x8,x9,x10,x11,x12,w1,w2,w3,w4,w5,kB0,kB1,kB3,kB4,kB5,kB6,prEta,mvcgen_simp]) | (with_reducible refine And.intro ?_ ?_) | (refine call_r0 (d:=some 6) (by omega) e29 ( take_R 1) rfl ?_ ?_ ?_ ?_ ?_ ?_) | (refine call_r1 (d:=some 6) (by omega) e29 ( take_R 1) rfl ?_ ?_ ?_ ?_ ?_ ?_) | (refine call_r2 (d:=some 6) (by omega) e29 ( take_R 1) rfl ?_ ?_ ?_ ?_ ?_ ?_) | (refine EndX.plain ?_) | (refine nil_split (fun hn=>?_) (fun hn=>?_)) | (refine gcall_no not_false ?_) | (refine gdcall_no not_false ?_) | (refine GuardS_of _ _ _ _ _ _ (fun hg=>?_) (fun hg=>?_)) | (refine GuardD_of _ _ _ _ (fun hg=>?_) (fun hg=>?_)) | (refine CondB_of _ _ _ _ _ _ _ ?_ (fun hg=>?_) (fun hg=>?_)))
  repeat' (first | (simp -implicitDefEqProofs only [*,Nat.reduceBEq,↓reduceIte,Nat.reduceEqDiff,Nat.reduceAdd,reduceCtorEq,Int.reduceLT,Int.reduceToNat,List.getElem?_nil,Nat.reduceMul,Nat.reducePow,Nat.reduceLeDiff,rowOf_mapD,rowOf_mapI,rowOf_mapA,List.getElem?_cons_zero,List.getElem?_cons_succ,take_map_len,take_map_app,List.getElem?_cons_zero,c30,r30,v30_1,v30_2,u30_3,u30_4,u30_5,u30_6,u30_7,ty3,ty73,ty30,kvD,kvO,kvL,kvP,kvG,kvT,kvC,kvE,kvY,aokB,aokD,aokA,↓rdO_allN,↓rdO_kill,y1,y2,y3,y4,y5,y6,y7,y8,x1,x2,x3,x4,x5,x6,x7,x8,x9,x10,x11,x12,w1,w2,w3,w4,w5,kB0,kB1,kB3,kB4,kB5,kB6,rdO,prEta,mnS_0,mnL_0,mvcgen_simp]) | (with_reducible refine And.intro ?_ ?_) | (refine callv_st (d:=some 19) (n:=n) (m:=m) (q:=q) (p:=p) (fun _=>List.mem_singleton.mpr rfl) rfl (acv_of e31 (stepBk _ _ n m q p c0 c1 c3 c4 c5 c6 (mnL bkN bkS (b,e) k) (mnS bkS (b,e) k).1 (mnS bkS (b,e) k).2 (at4_sto hn hm hq hp nm nq np mq mp qp hr3) (old_up o0) (old_up o1) (old_up o3) (old_up o4) (old_up o5) (old_up o6) (by rw [mnL_len];omega))) rfl ?_ ?_ ?_ ?_ ?_) | (refine loop_nat ((takN (b,e) 1).toNat) (fun k=>mnC bkS (b,e) ((takN (b,e) 1).toNat - k) k = M) (fun k=>[(4,I (takN (b,e) 1 - k)),(0,.lp n 0),(1,.clo (.func 31) [] [.lp p 0,.lp q 0])]) (fun k=>[(n,rdO (mnS bkS (b,e) k).1 (mnS bkS (b,e) k).2),(m,.arr 5 47 ((mnL bkN bkS (b,e) k).map BktD.row)),(q,.box [c0,c1,.os m (mnL bkN bkS (b,e) k).length,c3,c4,c5,c6]),(p,.box [.lp n 0])]) ?_ (Wk.keep hcl ?_ ?_ ?_) fun k hk hF=>?_;rotate_left 1;(focus (simp [Fr.get,newF,Fr.map,AV.kill,AV.mapN,kvD,kvO,kvL,kvP,kvG,kvT,kvC,kvE,kvY,aokB,aokD,aokA,↓rdO_allN,↓rdO_kill,y1,y2,y3,y4,y5,y6,y7,y8,x1,x2,x3,x4,x5,x6,x7,x8,x9,x10,x11,x12,w1,w2,w3,w4,w5,kB0,kB1,kB3,kB4,kB5,kB6,rdO,prEta,mnS_0,mnL_0]<;>fail));(focus (simp [sto,newL,Loc.kill,Loc.set,AO.kill,AV.kill,AV.mapN,kvD,kvO,kvL,kvP,kvG,kvT,kvC,kvE,kvY,aokB,aokD,aokA,↓rdO_allN,↓rdO_kill,y1,y2,y3,y4,y5,y6,y7,y8,x1,x2,x3,x4,x5,x6,x7,x8,x9,x10,x11,x12,w1,w2,w3,w4,w5,kB0,kB1,kB3,kB4,kB5,kB6,rdO,prEta,mnS_0,mnL_0]<;>fail));(focus (simp [newL,Loc.kill,Loc.set,kvD,kvO,kvL,kvP,kvG,kvT,kvC,kvE,kvY,aokB,aokD,aokA,↓rdO_allN,↓rdO_kill,y1,y2,y3,y4,y5,y6,y7,y8,x1,x2,x3,x4,x5,x6,x7,x8,x9,x10,x11,x12,w1,w2,w3,w4,w5,kB0,kB1,kB3,kB4,kB5,kB6,rdO,prEta,mnS_0,mnL_0]<;>fail));(try have hw:IntKind.i64.wrap ((k:Int) + 1) = (k:Int) + 1:=IntWalk.i64_in _ (by omega))) | (refine EndX.plain ?_) | (refine nil_split (fun hn=>?_) (fun hn=>?_)) | (refine gcall_no not_false ?_) | (refine gdcall_no not_false ?_) | (refine GuardS_of _ _ _ _ _ _ (fun hg=>?_) (fun hg=>?_)) | (refine GuardD_of _ _ _ _ (fun hg=>?_) (fun hg=>?_)) | (refine CondB_of _ _ _ _ _ _ _ ?_ (fun hg=>?_) (fun hg=>?_)))
  all_goals first
    | (unfold Fr.below;simp [Fr.allN,AV.allN,AV.allNL,v1,v2,v3,v4];done)
    | (unfold Loc.below;simp only [List.all_cons,List.all_nil,rdO_allN,v1,v2,v3,v4];simp [AO.allN,AV.allN,AV.allNL,v1,v2,v3,v4,kA0,kA1,kA3,kA4,kA5,kA6];done)
    | (intro z hz;simp only [List.mem_cons,List.not_mem_nil,or_false] at hz;rcases hz with rfl | rfl | rfl<;>simp [y1,y2,y3,y4,y5,y6,y7,y8,x1,x2,x3,x4,x5,x6,x7,x8,x9,x10,x11,x12,w1,w2,w3,w4,w5];done)
    | exact .inl (by decide)
    | trivial
    | (simp [allP,opd,Fr.get];done)
    | (have hgt:=of_decide_eq_true (by assumption:decide (takN (b,e) 1 - (k:Int) > 0) = true)
       have h0:=(by assumption:((mnS bkS (b,e) k).2 == 0) = true)
       have hlt:k < (takN (b,e) 1).toNat:=by omega
       first
       | exact hlt
       | exact mnC_go hF hlt h0
       | (rw [IntWalk.i64_in (takN (b,e) 1 - (k:Int) - 1) (by omega),show takN (b,e) 1 - (k:Int) - 1 = takN (b,e) 1 - ((k + 1:Nat):Int) by omega,← mnS_next,← mnL_next]
          refine Wk.keep hcl ?_ ?_ ?_<;>simp [Fr.get,sto,rdO,y1,y2,y3,y4,y5,y6,y7,y8,x1,x2,x3,x4,x5,x6,x7,x8,x9,x10,x11,x12,w1,w2,w3,w4,w5]))
    | (have hk3:k = M:=by
         first
         | (have hle:=of_decide_eq_false (by assumption:decide (takN (b,e) 1 - (k:Int) > 0) = false)
            exact mnC_end hF (by omega))
         | exact mnC_no hF (by assumption)
       subst hk3
       unfold mnSe mnLe
       rw [hM2]
       refine st_end ?_ ?_ ?_ ?_
       · simp [y1,y2,y3,y4,y5,y6,y7,y8,x1,x2,x3,x4,x5,x6,x7,x8,x9,x10,x11,x12,w1,w2,w3,w4,w5,rdO]
       · simp [y1,y2,y3,y4,y5,y6,y7,y8,x1,x2,x3,x4,x5,x6,x7,x8,x9,x10,x11,x12,w1,w2,w3,w4,w5]
       · simp [y1,y2,y3,y4,y5,y6,y7,y8,x1,x2,x3,x4,x5,x6,x7,x8,x9,x10,x11,x12,w1,w2,w3,w4,w5]
       · intro x z1 z2 z3;by_cases z4:x = p<;>simp [z1,z2,z3,z4,hid4,a4,x5,x6,x9,x10,x11,x12];done)
theorem manyVer (B:Nat) (σ:Sto) (n m q p:Nat) (c0 c1 c2 c4 c5 c6:AV) (b:List UInt8) (e:Int) (hA:At4 B σ n m q p (rdO b e) (.arr 12 51 []) (.box [c0,c1,c2,.os m 0,c4,c5,c6]) (.box [.lp n 0])) (o0:old B m c0) (o1:old B m c1) (o2:old B m c2) (o4:old B m c4) (o5:old B m c5) (o6:old B m c6) :
    ACalls Try.prog 30 [.lp n 0,.clo (.func 34) [] [.lp q 0,.lp p 0]] σ B [m] (fun v σ'=>v = .tup [] ∧ σ' = sto [(n,rdO (mnSe verS (b,e)).1 (mnSe verS (b,e)).2),(m,.arr 12 51 ((mnLe verN verS (b,e)).map VerD.row)),(q,.box [c0,c1,c2,.os m (mnLe verN verS (b,e)).length,c4,c5,c6])] σ):=by
  refine own_ofL [(n,rdO b e),(m,.arr 12 51 []),(q,.box [c0,c1,c2,.os m 0,c4,c5,c6]),(p,.box [.lp n 0])] (hid4_sto hA.a1 hA.a2 hA.a3 hA.a4) hid4_closed follows Try.func30 c30_eq r30 (Nat.le_of_ble_eq_true rfl) fun hcl hsz=>?_
  clear hsz
  obtain ⟨hn,hm,hq,hp,nm,nq,np,mq,mp,qp,a1,a2,a3,a4,free⟩:=hA
  have y1:∀ s,(n = B + s) = False:=fun s=>by simp;omega
  have y2:∀ s,(B + s = n) = False:=fun s=>by simp;omega
  have y3:∀ s,(m = B + s) = False:=fun s=>by simp;omega
  have y4:∀ s,(B + s = m) = False:=fun s=>by simp;omega
  have y5:∀ s,(q = B + s) = False:=fun s=>by simp;omega
  have y6:∀ s,(B + s = q) = False:=fun s=>by simp;omega
  have y7:∀ s,(p = B + s) = False:=fun s=>by simp;omega
  have y8:∀ s,(B + s = p) = False:=fun s=>by simp;omega
  have x1:(n = m) = False:=eq_false nm
  have x2:(m = n) = False:=eq_false nm.symm
  have x3:(n = q) = False:=eq_false nq
  have x4:(q = n) = False:=eq_false nq.symm
  have x5:(n = p) = False:=eq_false np
  have x6:(p = n) = False:=eq_false np.symm
  have x7:(m = q) = False:=eq_false mq
  have x8:(q = m) = False:=eq_false mq.symm
  have x9:(m = p) = False:=eq_false mp
  have x10:(p = m) = False:=eq_false mp.symm
  have x11:(q = p) = False:=eq_false qp
  have x12:(p = q) = False:=eq_false qp.symm
  have w1:(n < B) = True:=eq_true hn
  have w2:(m < B) = True:=eq_true hm
  have w3:(q < B) = True:=eq_true hq
  have w4:(p < B) = True:=eq_true hp
  have v1:decide (n < B + 100000) = true:=by simp;omega
  have v2:decide (m < B + 100000) = true:=by simp;omega
  have v3:decide (q < B + 100000) = true:=by simp;omega
  have v4:decide (p < B + 100000) = true:=by simp;omega
  have w5:(B ≤ m) = False:=eq_false (by omega)
  have hr3:=hid4_kill (n:=n) (m:=m) (q:=q) (p:=p) free
  have hr1:hid4 n m q p σ m = .dead:=by simp [hid4,x2]
  have k0:=old_kill o0
  have kB0:=old_killB o0
  have kA0:=old_all o0 (C:=B + 100000) (by omega)
  have k1:=old_kill o1
  have kB1:=old_killB o1
  have kA1:=old_all o1 (C:=B + 100000) (by omega)
  have k2:=old_kill o2
  have kB2:=old_killB o2
  have kA2:=old_all o2 (C:=B + 100000) (by omega)
  have k4:=old_kill o4
  have kB4:=old_killB o4
  have kA4:=old_all o4 (C:=B + 100000) (by omega)
  have k5:=old_kill o5
  have kB5:=old_killB o5
  have kA5:=old_all o5 (C:=B + 100000) (by omega)
  have k6:=old_kill o6
  have kB6:=old_killB o6
  have kA6:=old_all o6 (C:=B + 100000) (by omega)
  clear a1 a2 a3
  have hx0:=(takN_1 (b,e)).1
  have hx1:=(takN_1 (b,e)).2
  obtain ⟨M,hM⟩:∃ M,mnC verS (b,e) ((takN (b,e) 1).toNat - 0) 0 = M:=⟨_,rfl⟩
  have hM2:mnM verS (b,e) = M:=hM
  repeat' (first | (simp -implicitDefEqProofs only [*,Nat.reduceBEq,↓reduceIte,Nat.reduceEqDiff,Nat.reduceAdd,reduceCtorEq,Int.reduceLT,Int.reduceToNat,List.getElem?_nil,Nat.reduceMul,Nat.reducePow,Nat.reduceLeDiff,rowOf_mapD,rowOf_mapI,rowOf_mapA,List.getElem?_cons_zero,List.getElem?_cons_succ,take_map_len,take_map_app,List.getElem?_cons_zero,c30,r30,v30_1,v30_2,u30_3,u30_4,u30_5,u30_6,u30_7,ty3,ty73,ty30,kvD,kvO,kvL,kvP,kvG,kvT,kvC,kvE,kvY,aokB,aokD,aokA,↓rdO_allN,↓rdO_kill,y1,y2,y3,y4,y5,y6,y7,y8,x1,x2,x3,x4,x5,x6,x7,x8,x9,x10,x11,x12,w1,w2,w3,w4,w5,kB0,kB1,kB2,kB4,kB5,kB6,prEta,mvcgen_simp]) | (with_reducible refine And.intro ?_ ?_) | (refine call_r0 (d:=some 6) (by omega) e29 ( take_R 1) rfl ?_ ?_ ?_ ?_ ?_ ?_) | (refine call_r1 (d:=some 6) (by omega) e29 ( take_R 1) rfl ?_ ?_ ?_ ?_ ?_ ?_) | (refine call_r2 (d:=some 6) (by omega) e29 ( take_R 1) rfl ?_ ?_ ?_ ?_ ?_ ?_) | (refine EndX.plain ?_) | (refine nil_split (fun hn=>?_) (fun hn=>?_)) | (refine gcall_no not_false ?_) | (refine gdcall_no not_false ?_) | (refine GuardS_of _ _ _ _ _ _ (fun hg=>?_) (fun hg=>?_)) | (refine GuardD_of _ _ _ _ (fun hg=>?_) (fun hg=>?_)) | (refine CondB_of _ _ _ _ _ _ _ ?_ (fun hg=>?_) (fun hg=>?_)))
  repeat' (first | (simp -implicitDefEqProofs only [*,Nat.reduceBEq,↓reduceIte,Nat.reduceEqDiff,Nat.reduceAdd,reduceCtorEq,Int.reduceLT,Int.reduceToNat,List.getElem?_nil,Nat.reduceMul,Nat.reducePow,Nat.reduceLeDiff,rowOf_mapD,rowOf_mapI,rowOf_mapA,List.getElem?_cons_zero,List.getElem?_cons_succ,take_map_len,take_map_app,List.getElem?_cons_zero,c30,r30,v30_1,v30_2,u30_3,u30_4,u30_5,u30_6,u30_7,ty3,ty73,ty30,kvD,kvO,kvL,kvP,kvG,kvT,kvC,kvE,kvY,aokB,aokD,aokA,↓rdO_allN,↓rdO_kill,y1,y2,y3,y4,y5,y6,y7,y8,x1,x2,x3,x4,x5,x6,x7,x8,x9,x10,x11,x12,w1,w2,w3,w4,w5,kB0,kB1,kB2,kB4,kB5,kB6,rdO,prEta,mnS_0,mnL_0,mvcgen_simp]) | (with_reducible refine And.intro ?_ ?_) | (refine callv_st (d:=some 19) (n:=n) (m:=m) (q:=q) (p:=p) (fun _=>List.mem_singleton.mpr rfl) rfl (acv_of e34 (stepVer _ _ n m q p c0 c1 c2 c4 c5 c6 (mnL verN verS (b,e) k) (mnS verS (b,e) k).1 (mnS verS (b,e) k).2 (at4_sto hn hm hq hp nm nq np mq mp qp hr3) (old_up o0) (old_up o1) (old_up o2) (old_up o4) (old_up o5) (old_up o6) (by rw [mnL_len];omega))) rfl ?_ ?_ ?_ ?_ ?_) | (refine loop_nat ((takN (b,e) 1).toNat) (fun k=>mnC verS (b,e) ((takN (b,e) 1).toNat - k) k = M) (fun k=>[(4,I (takN (b,e) 1 - k)),(0,.lp n 0),(1,.clo (.func 34) [] [.lp q 0,.lp p 0])]) (fun k=>[(n,rdO (mnS verS (b,e) k).1 (mnS verS (b,e) k).2),(m,.arr 12 51 ((mnL verN verS (b,e) k).map VerD.row)),(q,.box [c0,c1,c2,.os m (mnL verN verS (b,e) k).length,c4,c5,c6]),(p,.box [.lp n 0])]) ?_ (Wk.keep hcl ?_ ?_ ?_) fun k hk hF=>?_;rotate_left 1;(focus (simp [Fr.get,newF,Fr.map,AV.kill,AV.mapN,kvD,kvO,kvL,kvP,kvG,kvT,kvC,kvE,kvY,aokB,aokD,aokA,↓rdO_allN,↓rdO_kill,y1,y2,y3,y4,y5,y6,y7,y8,x1,x2,x3,x4,x5,x6,x7,x8,x9,x10,x11,x12,w1,w2,w3,w4,w5,kB0,kB1,kB2,kB4,kB5,kB6,rdO,prEta,mnS_0,mnL_0]<;>fail));(focus (simp [sto,newL,Loc.kill,Loc.set,AO.kill,AV.kill,AV.mapN,kvD,kvO,kvL,kvP,kvG,kvT,kvC,kvE,kvY,aokB,aokD,aokA,↓rdO_allN,↓rdO_kill,y1,y2,y3,y4,y5,y6,y7,y8,x1,x2,x3,x4,x5,x6,x7,x8,x9,x10,x11,x12,w1,w2,w3,w4,w5,kB0,kB1,kB2,kB4,kB5,kB6,rdO,prEta,mnS_0,mnL_0]<;>fail));(focus (simp [newL,Loc.kill,Loc.set,kvD,kvO,kvL,kvP,kvG,kvT,kvC,kvE,kvY,aokB,aokD,aokA,↓rdO_allN,↓rdO_kill,y1,y2,y3,y4,y5,y6,y7,y8,x1,x2,x3,x4,x5,x6,x7,x8,x9,x10,x11,x12,w1,w2,w3,w4,w5,kB0,kB1,kB2,kB4,kB5,kB6,rdO,prEta,mnS_0,mnL_0]<;>fail));(try have hw:IntKind.i64.wrap ((k:Int) + 1) = (k:Int) + 1:=IntWalk.i64_in _ (by omega))) | (refine EndX.plain ?_) | (refine nil_split (fun hn=>?_) (fun hn=>?_)) | (refine gcall_no not_false ?_) | (refine gdcall_no not_false ?_) | (refine GuardS_of _ _ _ _ _ _ (fun hg=>?_) (fun hg=>?_)) | (refine GuardD_of _ _ _ _ (fun hg=>?_) (fun hg=>?_)) | (refine CondB_of _ _ _ _ _ _ _ ?_ (fun hg=>?_) (fun hg=>?_)))
  all_goals first
    | (unfold Fr.below;simp [Fr.allN,AV.allN,AV.allNL,v1,v2,v3,v4];done)
    | (unfold Loc.below;simp only [List.all_cons,List.all_nil,rdO_allN,v1,v2,v3,v4];simp [AO.allN,AV.allN,AV.allNL,v1,v2,v3,v4,kA0,kA1,kA2,kA4,kA5,kA6];done)
    | (intro z hz;simp only [List.mem_cons,List.not_mem_nil,or_false] at hz;rcases hz with rfl | rfl | rfl<;>simp [y1,y2,y3,y4,y5,y6,y7,y8,x1,x2,x3,x4,x5,x6,x7,x8,x9,x10,x11,x12,w1,w2,w3,w4,w5];done)
    | exact .inl (by decide)
    | trivial
    | (simp [allP,opd,Fr.get];done)
    | (have hgt:=of_decide_eq_true (by assumption:decide (takN (b,e) 1 - (k:Int) > 0) = true)
       have h0:=(by assumption:((mnS verS (b,e) k).2 == 0) = true)
       have hlt:k < (takN (b,e) 1).toNat:=by omega
       first
       | exact hlt
       | exact mnC_go hF hlt h0
       | (rw [IntWalk.i64_in (takN (b,e) 1 - (k:Int) - 1) (by omega),show takN (b,e) 1 - (k:Int) - 1 = takN (b,e) 1 - ((k + 1:Nat):Int) by omega,← mnS_next,← mnL_next]
          refine Wk.keep hcl ?_ ?_ ?_<;>simp [Fr.get,sto,rdO,y1,y2,y3,y4,y5,y6,y7,y8,x1,x2,x3,x4,x5,x6,x7,x8,x9,x10,x11,x12,w1,w2,w3,w4,w5]))
    | (have hk3:k = M:=by
         first
         | (have hle:=of_decide_eq_false (by assumption:decide (takN (b,e) 1 - (k:Int) > 0) = false)
            exact mnC_end hF (by omega))
         | exact mnC_no hF (by assumption)
       subst hk3
       unfold mnSe mnLe
       rw [hM2]
       refine st_end ?_ ?_ ?_ ?_
       · simp [y1,y2,y3,y4,y5,y6,y7,y8,x1,x2,x3,x4,x5,x6,x7,x8,x9,x10,x11,x12,w1,w2,w3,w4,w5,rdO]
       · simp [y1,y2,y3,y4,y5,y6,y7,y8,x1,x2,x3,x4,x5,x6,x7,x8,x9,x10,x11,x12,w1,w2,w3,w4,w5]
       · simp [y1,y2,y3,y4,y5,y6,y7,y8,x1,x2,x3,x4,x5,x6,x7,x8,x9,x10,x11,x12,w1,w2,w3,w4,w5]
       · intro x z1 z2 z3;by_cases z4:x = p<;>simp [z1,z2,z3,z4,hid4,a4,x5,x6,x9,x10,x11,x12];done)
theorem manyPt (B:Nat) (σ:Sto) (n m q p:Nat) (c0 c1 c2:AV) (b:List UInt8) (e:Int) (hA:At4 B σ n m q p (rdO b e) (.arr 3 57 []) (.box [c0,c1,c2,.os m 0]) (.box [.lp n 0])) (o0:old B m c0) (o1:old B m c1) (o2:old B m c2) :
    ACalls Try.prog 30 [.lp n 0,.clo (.func 37) [] [.lp q 0,.lp p 0]] σ B [m] (fun v σ'=>v = .tup [] ∧ σ' = sto [(n,rdO (mnSe partS (b,e)).1 (mnSe partS (b,e)).2),(m,.arr 3 57 ((mnLe partN partS (b,e)).map PartD.row)),(q,.box [c0,c1,c2,.os m (mnLe partN partS (b,e)).length])] σ):=by
  refine own_ofL [(n,rdO b e),(m,.arr 3 57 []),(q,.box [c0,c1,c2,.os m 0]),(p,.box [.lp n 0])] (hid4_sto hA.a1 hA.a2 hA.a3 hA.a4) hid4_closed follows Try.func30 c30_eq r30 (Nat.le_of_ble_eq_true rfl) fun hcl hsz=>?_
  clear hsz
  obtain ⟨hn,hm,hq,hp,nm,nq,np,mq,mp,qp,a1,a2,a3,a4,free⟩:=hA
  have y1:∀ s,(n = B + s) = False:=fun s=>by simp;omega
  have y2:∀ s,(B + s = n) = False:=fun s=>by simp;omega
  have y3:∀ s,(m = B + s) = False:=fun s=>by simp;omega
  have y4:∀ s,(B + s = m) = False:=fun s=>by simp;omega
  have y5:∀ s,(q = B + s) = False:=fun s=>by simp;omega
  have y6:∀ s,(B + s = q) = False:=fun s=>by simp;omega
  have y7:∀ s,(p = B + s) = False:=fun s=>by simp;omega
  have y8:∀ s,(B + s = p) = False:=fun s=>by simp;omega
  have x1:(n = m) = False:=eq_false nm
  have x2:(m = n) = False:=eq_false nm.symm
  have x3:(n = q) = False:=eq_false nq
  have x4:(q = n) = False:=eq_false nq.symm
  have x5:(n = p) = False:=eq_false np
  have x6:(p = n) = False:=eq_false np.symm
  have x7:(m = q) = False:=eq_false mq
  have x8:(q = m) = False:=eq_false mq.symm
  have x9:(m = p) = False:=eq_false mp
  have x10:(p = m) = False:=eq_false mp.symm
  have x11:(q = p) = False:=eq_false qp
  have x12:(p = q) = False:=eq_false qp.symm
  have w1:(n < B) = True:=eq_true hn
  have w2:(m < B) = True:=eq_true hm
  have w3:(q < B) = True:=eq_true hq
  have w4:(p < B) = True:=eq_true hp
  have v1:decide (n < B + 100000) = true:=by simp;omega
  have v2:decide (m < B + 100000) = true:=by simp;omega
  have v3:decide (q < B + 100000) = true:=by simp;omega
  have v4:decide (p < B + 100000) = true:=by simp;omega
  have w5:(B ≤ m) = False:=eq_false (by omega)
  have hr3:=hid4_kill (n:=n) (m:=m) (q:=q) (p:=p) free
  have hr1:hid4 n m q p σ m = .dead:=by simp [hid4,x2]
  have k0:=old_kill o0
  have kB0:=old_killB o0
  have kA0:=old_all o0 (C:=B + 100000) (by omega)
  have k1:=old_kill o1
  have kB1:=old_killB o1
  have kA1:=old_all o1 (C:=B + 100000) (by omega)
  have k2:=old_kill o2
  have kB2:=old_killB o2
  have kA2:=old_all o2 (C:=B + 100000) (by omega)
  clear a1 a2 a3
  have hx0:=(takN_1 (b,e)).1
  have hx1:=(takN_1 (b,e)).2
  obtain ⟨M,hM⟩:∃ M,mnC partS (b,e) ((takN (b,e) 1).toNat - 0) 0 = M:=⟨_,rfl⟩
  have hM2:mnM partS (b,e) = M:=hM
  repeat' (first | (simp -implicitDefEqProofs only [*,Nat.reduceBEq,↓reduceIte,Nat.reduceEqDiff,Nat.reduceAdd,reduceCtorEq,Int.reduceLT,Int.reduceToNat,List.getElem?_nil,Nat.reduceMul,Nat.reducePow,Nat.reduceLeDiff,rowOf_mapD,rowOf_mapI,rowOf_mapA,List.getElem?_cons_zero,List.getElem?_cons_succ,take_map_len,take_map_app,List.getElem?_cons_zero,c30,r30,v30_1,v30_2,u30_3,u30_4,u30_5,u30_6,u30_7,ty3,ty73,ty30,kvD,kvO,kvL,kvP,kvG,kvT,kvC,kvE,kvY,aokB,aokD,aokA,↓rdO_allN,↓rdO_kill,y1,y2,y3,y4,y5,y6,y7,y8,x1,x2,x3,x4,x5,x6,x7,x8,x9,x10,x11,x12,w1,w2,w3,w4,w5,kB0,kB1,kB2,prEta,mvcgen_simp]) | (with_reducible refine And.intro ?_ ?_) | (refine call_r0 (d:=some 6) (by omega) e29 ( take_R 1) rfl ?_ ?_ ?_ ?_ ?_ ?_) | (refine call_r1 (d:=some 6) (by omega) e29 ( take_R 1) rfl ?_ ?_ ?_ ?_ ?_ ?_) | (refine call_r2 (d:=some 6) (by omega) e29 ( take_R 1) rfl ?_ ?_ ?_ ?_ ?_ ?_) | (refine EndX.plain ?_) | (refine nil_split (fun hn=>?_) (fun hn=>?_)) | (refine gcall_no not_false ?_) | (refine gdcall_no not_false ?_) | (refine GuardS_of _ _ _ _ _ _ (fun hg=>?_) (fun hg=>?_)) | (refine GuardD_of _ _ _ _ (fun hg=>?_) (fun hg=>?_)) | (refine CondB_of _ _ _ _ _ _ _ ?_ (fun hg=>?_) (fun hg=>?_)))
  repeat' (first | (simp -implicitDefEqProofs only [*,Nat.reduceBEq,↓reduceIte,Nat.reduceEqDiff,Nat.reduceAdd,reduceCtorEq,Int.reduceLT,Int.reduceToNat,List.getElem?_nil,Nat.reduceMul,Nat.reducePow,Nat.reduceLeDiff,rowOf_mapD,rowOf_mapI,rowOf_mapA,List.getElem?_cons_zero,List.getElem?_cons_succ,take_map_len,take_map_app,List.getElem?_cons_zero,c30,r30,v30_1,v30_2,u30_3,u30_4,u30_5,u30_6,u30_7,ty3,ty73,ty30,kvD,kvO,kvL,kvP,kvG,kvT,kvC,kvE,kvY,aokB,aokD,aokA,↓rdO_allN,↓rdO_kill,y1,y2,y3,y4,y5,y6,y7,y8,x1,x2,x3,x4,x5,x6,x7,x8,x9,x10,x11,x12,w1,w2,w3,w4,w5,kB0,kB1,kB2,rdO,prEta,mnS_0,mnL_0,mvcgen_simp]) | (with_reducible refine And.intro ?_ ?_) | (refine callv_st (d:=some 19) (n:=n) (m:=m) (q:=q) (p:=p) (fun _=>List.mem_singleton.mpr rfl) rfl (acv_of e37 (stepPt _ _ n m q p c0 c1 c2 (mnL partN partS (b,e) k) (mnS partS (b,e) k).1 (mnS partS (b,e) k).2 (at4_sto hn hm hq hp nm nq np mq mp qp hr3) (old_up o0) (old_up o1) (old_up o2) (by rw [mnL_len];omega))) rfl ?_ ?_ ?_ ?_ ?_) | (refine loop_nat ((takN (b,e) 1).toNat) (fun k=>mnC partS (b,e) ((takN (b,e) 1).toNat - k) k = M) (fun k=>[(4,I (takN (b,e) 1 - k)),(0,.lp n 0),(1,.clo (.func 37) [] [.lp q 0,.lp p 0])]) (fun k=>[(n,rdO (mnS partS (b,e) k).1 (mnS partS (b,e) k).2),(m,.arr 3 57 ((mnL partN partS (b,e) k).map PartD.row)),(q,.box [c0,c1,c2,.os m (mnL partN partS (b,e) k).length]),(p,.box [.lp n 0])]) ?_ (Wk.keep hcl ?_ ?_ ?_) fun k hk hF=>?_;rotate_left 1;(focus (simp [Fr.get,newF,Fr.map,AV.kill,AV.mapN,kvD,kvO,kvL,kvP,kvG,kvT,kvC,kvE,kvY,aokB,aokD,aokA,↓rdO_allN,↓rdO_kill,y1,y2,y3,y4,y5,y6,y7,y8,x1,x2,x3,x4,x5,x6,x7,x8,x9,x10,x11,x12,w1,w2,w3,w4,w5,kB0,kB1,kB2,rdO,prEta,mnS_0,mnL_0]<;>fail));(focus (simp [sto,newL,Loc.kill,Loc.set,AO.kill,AV.kill,AV.mapN,kvD,kvO,kvL,kvP,kvG,kvT,kvC,kvE,kvY,aokB,aokD,aokA,↓rdO_allN,↓rdO_kill,y1,y2,y3,y4,y5,y6,y7,y8,x1,x2,x3,x4,x5,x6,x7,x8,x9,x10,x11,x12,w1,w2,w3,w4,w5,kB0,kB1,kB2,rdO,prEta,mnS_0,mnL_0]<;>fail));(focus (simp [newL,Loc.kill,Loc.set,kvD,kvO,kvL,kvP,kvG,kvT,kvC,kvE,kvY,aokB,aokD,aokA,↓rdO_allN,↓rdO_kill,y1,y2,y3,y4,y5,y6,y7,y8,x1,x2,x3,x4,x5,x6,x7,x8,x9,x10,x11,x12,w1,w2,w3,w4,w5,kB0,kB1,kB2,rdO,prEta,mnS_0,mnL_0]<;>fail));(try have hw:IntKind.i64.wrap ((k:Int) + 1) = (k:Int) + 1:=IntWalk.i64_in _ (by omega))) | (refine EndX.plain ?_) | (refine nil_split (fun hn=>?_) (fun hn=>?_)) | (refine gcall_no not_false ?_) | (refine gdcall_no not_false ?_) | (refine GuardS_of _ _ _ _ _ _ (fun hg=>?_) (fun hg=>?_)) | (refine GuardD_of _ _ _ _ (fun hg=>?_) (fun hg=>?_)) | (refine CondB_of _ _ _ _ _ _ _ ?_ (fun hg=>?_) (fun hg=>?_)))
  all_goals first
    | (unfold Fr.below;simp [Fr.allN,AV.allN,AV.allNL,v1,v2,v3,v4];done)
    | (unfold Loc.below;simp only [List.all_cons,List.all_nil,rdO_allN,v1,v2,v3,v4];simp [AO.allN,AV.allN,AV.allNL,v1,v2,v3,v4,kA0,kA1,kA2];done)
    | (intro z hz;simp only [List.mem_cons,List.not_mem_nil,or_false] at hz;rcases hz with rfl | rfl | rfl<;>simp [y1,y2,y3,y4,y5,y6,y7,y8,x1,x2,x3,x4,x5,x6,x7,x8,x9,x10,x11,x12,w1,w2,w3,w4,w5];done)
    | exact .inl (by decide)
    | trivial
    | (simp [allP,opd,Fr.get];done)
    | (have hgt:=of_decide_eq_true (by assumption:decide (takN (b,e) 1 - (k:Int) > 0) = true)
       have h0:=(by assumption:((mnS partS (b,e) k).2 == 0) = true)
       have hlt:k < (takN (b,e) 1).toNat:=by omega
       first
       | exact hlt
       | exact mnC_go hF hlt h0
       | (rw [IntWalk.i64_in (takN (b,e) 1 - (k:Int) - 1) (by omega),show takN (b,e) 1 - (k:Int) - 1 = takN (b,e) 1 - ((k + 1:Nat):Int) by omega,← mnS_next,← mnL_next]
          refine Wk.keep hcl ?_ ?_ ?_<;>simp [Fr.get,sto,rdO,y1,y2,y3,y4,y5,y6,y7,y8,x1,x2,x3,x4,x5,x6,x7,x8,x9,x10,x11,x12,w1,w2,w3,w4,w5]))
    | (have hk3:k = M:=by
         first
         | (have hle:=of_decide_eq_false (by assumption:decide (takN (b,e) 1 - (k:Int) > 0) = false)
            exact mnC_end hF (by omega))
         | exact mnC_no hF (by assumption)
       subst hk3
       unfold mnSe mnLe
       rw [hM2]
       refine st_end ?_ ?_ ?_ ?_
       · simp [y1,y2,y3,y4,y5,y6,y7,y8,x1,x2,x3,x4,x5,x6,x7,x8,x9,x10,x11,x12,w1,w2,w3,w4,w5,rdO]
       · simp [y1,y2,y3,y4,y5,y6,y7,y8,x1,x2,x3,x4,x5,x6,x7,x8,x9,x10,x11,x12,w1,w2,w3,w4,w5]
       · simp [y1,y2,y3,y4,y5,y6,y7,y8,x1,x2,x3,x4,x5,x6,x7,x8,x9,x10,x11,x12,w1,w2,w3,w4,w5]
       · intro x z1 z2 z3;by_cases z4:x = p<;>simp [z1,z2,z3,z4,hid4,a4,x5,x6,x9,x10,x11,x12];done)
theorem manyAsk (B:Nat) (σ:Sto) (n m q p:Nat) (c0 c1 c2 c3 c4 c6:AV) (b:List UInt8) (e:Int) (hA:At4 B σ n m q p (rdO b e) (.arr 3 60 []) (.box [c0,c1,c2,c3,c4,.os m 0,c6]) (.box [.lp n 0])) (o0:old B m c0) (o1:old B m c1) (o2:old B m c2) (o3:old B m c3) (o4:old B m c4) (o6:old B m c6) :
    ACalls Try.prog 30 [.lp n 0,.clo (.func 39) [] [.lp q 0,.lp p 0]] σ B [m] (fun v σ'=>v = .tup [] ∧ σ' = sto [(n,rdO (mnSe askS (b,e)).1 (mnSe askS (b,e)).2),(m,.arr 3 60 ((mnLe askN askS (b,e)).map AskD.row)),(q,.box [c0,c1,c2,c3,c4,.os m (mnLe askN askS (b,e)).length,c6])] σ):=by
  refine own_ofL [(n,rdO b e),(m,.arr 3 60 []),(q,.box [c0,c1,c2,c3,c4,.os m 0,c6]),(p,.box [.lp n 0])] (hid4_sto hA.a1 hA.a2 hA.a3 hA.a4) hid4_closed follows Try.func30 c30_eq r30 (Nat.le_of_ble_eq_true rfl) fun hcl hsz=>?_
  clear hsz
  obtain ⟨hn,hm,hq,hp,nm,nq,np,mq,mp,qp,a1,a2,a3,a4,free⟩:=hA
  have y1:∀ s,(n = B + s) = False:=fun s=>by simp;omega
  have y2:∀ s,(B + s = n) = False:=fun s=>by simp;omega
  have y3:∀ s,(m = B + s) = False:=fun s=>by simp;omega
  have y4:∀ s,(B + s = m) = False:=fun s=>by simp;omega
  have y5:∀ s,(q = B + s) = False:=fun s=>by simp;omega
  have y6:∀ s,(B + s = q) = False:=fun s=>by simp;omega
  have y7:∀ s,(p = B + s) = False:=fun s=>by simp;omega
  have y8:∀ s,(B + s = p) = False:=fun s=>by simp;omega
  have x1:(n = m) = False:=eq_false nm
  have x2:(m = n) = False:=eq_false nm.symm
  have x3:(n = q) = False:=eq_false nq
  have x4:(q = n) = False:=eq_false nq.symm
  have x5:(n = p) = False:=eq_false np
  have x6:(p = n) = False:=eq_false np.symm
  have x7:(m = q) = False:=eq_false mq
  have x8:(q = m) = False:=eq_false mq.symm
  have x9:(m = p) = False:=eq_false mp
  have x10:(p = m) = False:=eq_false mp.symm
  have x11:(q = p) = False:=eq_false qp
  have x12:(p = q) = False:=eq_false qp.symm
  have w1:(n < B) = True:=eq_true hn
  have w2:(m < B) = True:=eq_true hm
  have w3:(q < B) = True:=eq_true hq
  have w4:(p < B) = True:=eq_true hp
  have v1:decide (n < B + 100000) = true:=by simp;omega
  have v2:decide (m < B + 100000) = true:=by simp;omega
  have v3:decide (q < B + 100000) = true:=by simp;omega
  have v4:decide (p < B + 100000) = true:=by simp;omega
  have w5:(B ≤ m) = False:=eq_false (by omega)
  have hr3:=hid4_kill (n:=n) (m:=m) (q:=q) (p:=p) free
  have hr1:hid4 n m q p σ m = .dead:=by simp [hid4,x2]
  have k0:=old_kill o0
  have kB0:=old_killB o0
  have kA0:=old_all o0 (C:=B + 100000) (by omega)
  have k1:=old_kill o1
  have kB1:=old_killB o1
  have kA1:=old_all o1 (C:=B + 100000) (by omega)
  have k2:=old_kill o2
  have kB2:=old_killB o2
  have kA2:=old_all o2 (C:=B + 100000) (by omega)
  have k3:=old_kill o3
  have kB3:=old_killB o3
  have kA3:=old_all o3 (C:=B + 100000) (by omega)
  have k4:=old_kill o4
  have kB4:=old_killB o4
  have kA4:=old_all o4 (C:=B + 100000) (by omega)
  have k6:=old_kill o6
  have kB6:=old_killB o6
  have kA6:=old_all o6 (C:=B + 100000) (by omega)
  clear a1 a2 a3
  have hx0:=(takN_1 (b,e)).1
  have hx1:=(takN_1 (b,e)).2
  obtain ⟨M,hM⟩:∃ M,mnC askS (b,e) ((takN (b,e) 1).toNat - 0) 0 = M:=⟨_,rfl⟩
  have hM2:mnM askS (b,e) = M:=hM
  repeat' (first | (simp -implicitDefEqProofs only [*,Nat.reduceBEq,↓reduceIte,Nat.reduceEqDiff,Nat.reduceAdd,reduceCtorEq,Int.reduceLT,Int.reduceToNat,List.getElem?_nil,Nat.reduceMul,Nat.reducePow,Nat.reduceLeDiff,rowOf_mapD,rowOf_mapI,rowOf_mapA,List.getElem?_cons_zero,List.getElem?_cons_succ,take_map_len,take_map_app,List.getElem?_cons_zero,c30,r30,v30_1,v30_2,u30_3,u30_4,u30_5,u30_6,u30_7,ty3,ty73,ty30,kvD,kvO,kvL,kvP,kvG,kvT,kvC,kvE,kvY,aokB,aokD,aokA,↓rdO_allN,↓rdO_kill,y1,y2,y3,y4,y5,y6,y7,y8,x1,x2,x3,x4,x5,x6,x7,x8,x9,x10,x11,x12,w1,w2,w3,w4,w5,kB0,kB1,kB2,kB3,kB4,kB6,prEta,mvcgen_simp]) | (with_reducible refine And.intro ?_ ?_) | (refine call_r0 (d:=some 6) (by omega) e29 ( take_R 1) rfl ?_ ?_ ?_ ?_ ?_ ?_) | (refine call_r1 (d:=some 6) (by omega) e29 ( take_R 1) rfl ?_ ?_ ?_ ?_ ?_ ?_) | (refine call_r2 (d:=some 6) (by omega) e29 ( take_R 1) rfl ?_ ?_ ?_ ?_ ?_ ?_) | (refine EndX.plain ?_) | (refine nil_split (fun hn=>?_) (fun hn=>?_)) | (refine gcall_no not_false ?_) | (refine gdcall_no not_false ?_) | (refine GuardS_of _ _ _ _ _ _ (fun hg=>?_) (fun hg=>?_)) | (refine GuardD_of _ _ _ _ (fun hg=>?_) (fun hg=>?_)) | (refine CondB_of _ _ _ _ _ _ _ ?_ (fun hg=>?_) (fun hg=>?_)))
  repeat' (first | (simp -implicitDefEqProofs only [*,Nat.reduceBEq,↓reduceIte,Nat.reduceEqDiff,Nat.reduceAdd,reduceCtorEq,Int.reduceLT,Int.reduceToNat,List.getElem?_nil,Nat.reduceMul,Nat.reducePow,Nat.reduceLeDiff,rowOf_mapD,rowOf_mapI,rowOf_mapA,List.getElem?_cons_zero,List.getElem?_cons_succ,take_map_len,take_map_app,List.getElem?_cons_zero,c30,r30,v30_1,v30_2,u30_3,u30_4,u30_5,u30_6,u30_7,ty3,ty73,ty30,kvD,kvO,kvL,kvP,kvG,kvT,kvC,kvE,kvY,aokB,aokD,aokA,↓rdO_allN,↓rdO_kill,y1,y2,y3,y4,y5,y6,y7,y8,x1,x2,x3,x4,x5,x6,x7,x8,x9,x10,x11,x12,w1,w2,w3,w4,w5,kB0,kB1,kB2,kB3,kB4,kB6,rdO,prEta,mnS_0,mnL_0,mvcgen_simp]) | (with_reducible refine And.intro ?_ ?_) | (refine callv_st (d:=some 19) (n:=n) (m:=m) (q:=q) (p:=p) (fun _=>List.mem_singleton.mpr rfl) rfl (acv_of e39 (stepAsk _ _ n m q p c0 c1 c2 c3 c4 c6 (mnL askN askS (b,e) k) (mnS askS (b,e) k).1 (mnS askS (b,e) k).2 (at4_sto hn hm hq hp nm nq np mq mp qp hr3) (old_up o0) (old_up o1) (old_up o2) (old_up o3) (old_up o4) (old_up o6) (by rw [mnL_len];omega))) rfl ?_ ?_ ?_ ?_ ?_) | (refine loop_nat ((takN (b,e) 1).toNat) (fun k=>mnC askS (b,e) ((takN (b,e) 1).toNat - k) k = M) (fun k=>[(4,I (takN (b,e) 1 - k)),(0,.lp n 0),(1,.clo (.func 39) [] [.lp q 0,.lp p 0])]) (fun k=>[(n,rdO (mnS askS (b,e) k).1 (mnS askS (b,e) k).2),(m,.arr 3 60 ((mnL askN askS (b,e) k).map AskD.row)),(q,.box [c0,c1,c2,c3,c4,.os m (mnL askN askS (b,e) k).length,c6]),(p,.box [.lp n 0])]) ?_ (Wk.keep hcl ?_ ?_ ?_) fun k hk hF=>?_;rotate_left 1;(focus (simp [Fr.get,newF,Fr.map,AV.kill,AV.mapN,kvD,kvO,kvL,kvP,kvG,kvT,kvC,kvE,kvY,aokB,aokD,aokA,↓rdO_allN,↓rdO_kill,y1,y2,y3,y4,y5,y6,y7,y8,x1,x2,x3,x4,x5,x6,x7,x8,x9,x10,x11,x12,w1,w2,w3,w4,w5,kB0,kB1,kB2,kB3,kB4,kB6,rdO,prEta,mnS_0,mnL_0]<;>fail));(focus (simp [sto,newL,Loc.kill,Loc.set,AO.kill,AV.kill,AV.mapN,kvD,kvO,kvL,kvP,kvG,kvT,kvC,kvE,kvY,aokB,aokD,aokA,↓rdO_allN,↓rdO_kill,y1,y2,y3,y4,y5,y6,y7,y8,x1,x2,x3,x4,x5,x6,x7,x8,x9,x10,x11,x12,w1,w2,w3,w4,w5,kB0,kB1,kB2,kB3,kB4,kB6,rdO,prEta,mnS_0,mnL_0]<;>fail));(focus (simp [newL,Loc.kill,Loc.set,kvD,kvO,kvL,kvP,kvG,kvT,kvC,kvE,kvY,aokB,aokD,aokA,↓rdO_allN,↓rdO_kill,y1,y2,y3,y4,y5,y6,y7,y8,x1,x2,x3,x4,x5,x6,x7,x8,x9,x10,x11,x12,w1,w2,w3,w4,w5,kB0,kB1,kB2,kB3,kB4,kB6,rdO,prEta,mnS_0,mnL_0]<;>fail));(try have hw:IntKind.i64.wrap ((k:Int) + 1) = (k:Int) + 1:=IntWalk.i64_in _ (by omega))) | (refine EndX.plain ?_) | (refine nil_split (fun hn=>?_) (fun hn=>?_)) | (refine gcall_no not_false ?_) | (refine gdcall_no not_false ?_) | (refine GuardS_of _ _ _ _ _ _ (fun hg=>?_) (fun hg=>?_)) | (refine GuardD_of _ _ _ _ (fun hg=>?_) (fun hg=>?_)) | (refine CondB_of _ _ _ _ _ _ _ ?_ (fun hg=>?_) (fun hg=>?_)))
  all_goals first
    | (unfold Fr.below;simp [Fr.allN,AV.allN,AV.allNL,v1,v2,v3,v4];done)
    | (unfold Loc.below;simp only [List.all_cons,List.all_nil,rdO_allN,v1,v2,v3,v4];simp [AO.allN,AV.allN,AV.allNL,v1,v2,v3,v4,kA0,kA1,kA2,kA3,kA4,kA6];done)
    | (intro z hz;simp only [List.mem_cons,List.not_mem_nil,or_false] at hz;rcases hz with rfl | rfl | rfl<;>simp [y1,y2,y3,y4,y5,y6,y7,y8,x1,x2,x3,x4,x5,x6,x7,x8,x9,x10,x11,x12,w1,w2,w3,w4,w5];done)
    | exact .inl (by decide)
    | trivial
    | (simp [allP,opd,Fr.get];done)
    | (have hgt:=of_decide_eq_true (by assumption:decide (takN (b,e) 1 - (k:Int) > 0) = true)
       have h0:=(by assumption:((mnS askS (b,e) k).2 == 0) = true)
       have hlt:k < (takN (b,e) 1).toNat:=by omega
       first
       | exact hlt
       | exact mnC_go hF hlt h0
       | (rw [IntWalk.i64_in (takN (b,e) 1 - (k:Int) - 1) (by omega),show takN (b,e) 1 - (k:Int) - 1 = takN (b,e) 1 - ((k + 1:Nat):Int) by omega,← mnS_next,← mnL_next]
          refine Wk.keep hcl ?_ ?_ ?_<;>simp [Fr.get,sto,rdO,y1,y2,y3,y4,y5,y6,y7,y8,x1,x2,x3,x4,x5,x6,x7,x8,x9,x10,x11,x12,w1,w2,w3,w4,w5]))
    | (have hk3:k = M:=by
         first
         | (have hle:=of_decide_eq_false (by assumption:decide (takN (b,e) 1 - (k:Int) > 0) = false)
            exact mnC_end hF (by omega))
         | exact mnC_no hF (by assumption)
       subst hk3
       unfold mnSe mnLe
       rw [hM2]
       refine st_end ?_ ?_ ?_ ?_
       · simp [y1,y2,y3,y4,y5,y6,y7,y8,x1,x2,x3,x4,x5,x6,x7,x8,x9,x10,x11,x12,w1,w2,w3,w4,w5,rdO]
       · simp [y1,y2,y3,y4,y5,y6,y7,y8,x1,x2,x3,x4,x5,x6,x7,x8,x9,x10,x11,x12,w1,w2,w3,w4,w5]
       · simp [y1,y2,y3,y4,y5,y6,y7,y8,x1,x2,x3,x4,x5,x6,x7,x8,x9,x10,x11,x12,w1,w2,w3,w4,w5]
       · intro x z1 z2 z3;by_cases z4:x = p<;>simp [z1,z2,z3,z4,hid4,a4,x5,x6,x9,x10,x11,x12];done)
end Go.Proofs.Ytijpmidnclbhpaa
