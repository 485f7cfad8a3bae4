/- The closure of code.DecodeState that reads an upload. CODED ELSEWHERE: (*icehouse/code.reader).many -/
import Derived.Test.YtijpmidnclbhpaaKM3
import Derived.Test.YtijpmidnclbhpaaTypes
namespace Go.Proofs.Ytijpmidnclbhpaa
open Go.RowKit
set_option maxRecDepth 100000
def o36_1:List SO:=((SO.mk (some 19) (.app 24 24 (.tmp 16) (.tmp 18)) none) :: (SO.mk (some 20) (.faddr 28 (.tmp 1) 4) none) :: (SO.mk none (.store 24 (.tmp 20) (.tmp 19)) none) :: [])
theorem v36_1:type_of% (@swl _ _ o36_1.eq_1):=@swl _ _ o36_1.eq_1
def c36_2:SC:=(.reg ((SO.mk (some 15) (.faddr 28 (.tmp 1) 4) none) :: (SO.mk (some 16) (.load 24 (.tmp 15)) none) :: (SO.mk (some 17) (.load 55 (.tmp 2)) none) :: (SO.mk (some 18) (.bslice 24 1 [(0 ,(.tmp 17))]) none) :: o36_1))
theorem u36_2:type_of% (@swc _ _ c36_2.eq_1):=@swc _ _ c36_2.eq_1
def c36_3:SC:=(.seq (.reg [SO.mk (some 12) (.load 71 (.tmp 0)) none,SO.mk (some 13) (.mkfn (.func 37) [] [(.tmp 2),(.tmp 0)]) none,SO.mk (some 14) (.call 30 [(.tmp 12),(.tmp 13)]) none]) (.keep [2,1] c36_2))
theorem u36_3:type_of% (@swc _ _ c36_3.eq_1):=@swc _ _ c36_3.eq_1
def c36_4:SC:=(.seq (.reg [SO.mk (some 9) (.load 71 (.tmp 0)) none,SO.mk (some 10) (.call 32 [(.tmp 9)]) none,SO.mk (some 11) (.faddr 55 (.tmp 2) 2) none,SO.mk none (.store 9 (.tmp 11) (.tmp 10)) none]) (.keep [0,2,1] c36_3))
theorem u36_4:type_of% (@swc _ _ c36_4.eq_1):=@swc _ _ c36_4.eq_1
def c36_5:SC:=(.seq (.reg [SO.mk (some 6) (.load 71 (.tmp 0)) none,SO.mk (some 7) (.call 32 [(.tmp 6)]) none,SO.mk (some 8) (.faddr 55 (.tmp 2) 1) none,SO.mk none (.store 9 (.tmp 8) (.tmp 7)) none]) (.keep [0,2,1] c36_4))
theorem u36_5:type_of% (@swc _ _ c36_5.eq_1):=@swc _ _ c36_5.eq_1
def c36:SC:=(.seq (.reg [SO.mk (some 3) (.load 71 (.tmp 0)) none,SO.mk (some 4) (.call 29 [(.tmp 3),(.const (Value.int .i64 3))]) none,SO.mk (some 5) (.build 55 [(0 ,(.tmp 4))]) none,SO.mk (some 2) (.alloc 55) none,SO.mk none (.store 55 (.tmp 2) (.tmp 5)) none]) (.keep [0,2,1] c36_5))
theorem c36_eq:annC Try.f36 = some c36:=by kernel_rfl
theorem r36:Try.f36.results.toList = []:=by kernel_rfl
theorem e36:enters Try.prog 36 = true:=by kernel_rfl
end Go.Proofs.Ytijpmidnclbhpaa
namespace Go.Proofs.Ytijpmidnclbhpaa
open Go.RowKit
set_option maxHeartbeats 4000000
set_option maxRecDepth 20000
attribute [local irreducible] SW OSW SWL SWLn SWD SEcall SEcallv SDv SE SO1 SOg ACalls ACallv Wk EndV
set_option linter.unusedSimpArgs false
set_option linter.unusedVariables false
set_option maxHeartbeats 8000000
attribute [local irreducible] takS textS bitS intsS takN textN bitN intsN ruleS ruleN askS askN partS partN verS verN bkN bkS mnSe mnLe
theorem stepUp (B:Nat) (σ:Sto) (n m q p:Nat) (c0 c1 c2 c3 c5 c6:AV) (l:List UpD) (b:List UInt8) (e:Int) (hA:At4 B σ n m q p (rdO b e) (.arr 4 55 (l.map UpD.row)) (.box [c0,c1,c2,c3,.os m l.length,c5,c6]) (.box [.lp n 0])) (o0:old B m c0) (o1:old B m c1) (o2:old B m c2) (o3:old B m c3) (o5:old B m c5) (o6:old B m c6) (hl:l.length ≤ 255) :
    ACalls Try.prog 36 [.lp p 0,.lp q 0] σ B [m] (fun v σ'=>v = .tup [] ∧ σ' = sto [(n,rdO (upT (b,e)).1 (upT (b,e)).2),(m,.arr 4 55 ((l ++ [upN (b,e)]).map UpD.row)),(q,.box [c0,c1,c2,c3,.os m (l.length + 1),c5,c6])] σ):=by
  refine own_ofL [(n,rdO b e),(m,.arr 4 55 (l.map UpD.row)),(q,.box [c0,c1,c2,c3,.os m l.length,c5,c6]),(p,.box [.lp n 0])] (hid4_sto hA.a1 hA.a2 hA.a3 hA.a4) hid4_closed follows Try.func36 c36_eq r36 (Nat.le_of_ble_eq_true rfl) fun hcl hsz=>?_
  clear hsz
  obtain ⟨hn,hm,hq,hp,nm,nq,np,mq,mp,qp,a1,a2,a3,a4,free⟩:=hA
  have y1:∀ s,(n = B + s) = False:=fun s=>by simp;omega
  have y2:∀ s,(B + s = n) = False:=fun s=>by simp;omega
  have y3:∀ s,(m = B + s) = False:=fun s=>by simp;omega
  have y4:∀ s,(B + s = m) = False:=fun s=>by simp;omega
  have y5:∀ s,(q = B + s) = False:=fun s=>by simp;omega
  have y6:∀ s,(B + s = q) = False:=fun s=>by simp;omega
  have y7:∀ s,(p = B + s) = False:=fun s=>by simp;omega
  have y8:∀ s,(B + s = p) = False:=fun s=>by simp;omega
  have x1:(n = m) = False:=eq_false nm
  have x2:(m = n) = False:=eq_false nm.symm
  have x3:(n = q) = False:=eq_false nq
  have x4:(q = n) = False:=eq_false nq.symm
  have x5:(n = p) = False:=eq_false np
  have x6:(p = n) = False:=eq_false np.symm
  have x7:(m = q) = False:=eq_false mq
  have x8:(q = m) = False:=eq_false mq.symm
  have x9:(m = p) = False:=eq_false mp
  have x10:(p = m) = False:=eq_false mp.symm
  have x11:(q = p) = False:=eq_false qp
  have x12:(p = q) = False:=eq_false qp.symm
  have w1:(n < B) = True:=eq_true hn
  have w2:(m < B) = True:=eq_true hm
  have w3:(q < B) = True:=eq_true hq
  have w4:(p < B) = True:=eq_true hp
  have v1:decide (n < B + 100000) = true:=by simp;omega
  have v2:decide (m < B + 100000) = true:=by simp;omega
  have v3:decide (q < B + 100000) = true:=by simp;omega
  have v4:decide (p < B + 100000) = true:=by simp;omega
  have w5:(B ≤ m) = False:=eq_false (by omega)
  have hr3:=hid4_kill (n:=n) (m:=m) (q:=q) (p:=p) free
  have hr1:hid4 n m q p σ m = .dead:=by simp [hid4,x2]
  have k0:=old_kill o0
  have kB0:=old_killB o0
  have kA0:=old_all o0 (C:=B + 100000) (by omega)
  have k1:=old_kill o1
  have kB1:=old_killB o1
  have kA1:=old_all o1 (C:=B + 100000) (by omega)
  have k2:=old_kill o2
  have kB2:=old_killB o2
  have kA2:=old_all o2 (C:=B + 100000) (by omega)
  have k3:=old_kill o3
  have kB3:=old_killB o3
  have kA3:=old_all o3 (C:=B + 100000) (by omega)
  have k5:=old_kill o5
  have kB5:=old_killB o5
  have kA5:=old_all o5 (C:=B + 100000) (by omega)
  have k6:=old_kill o6
  have kB6:=old_killB o6
  have kA6:=old_all o6 (C:=B + 100000) (by omega)
  clear a1 a2 a3
  have hr5:∀ x,(hid4 n m q p σ x).kill (B + 90005) = hid4 n m q p σ x:=fun x=>AO.kill_below (q:=fun m=>decide (m < B)) (by simp) _ (hcl x).1
  repeat' (first | (simp -implicitDefEqProofs only [*,Nat.reduceBEq,↓reduceIte,Nat.reduceEqDiff,Nat.reduceAdd,reduceCtorEq,Int.reduceLT,Int.reduceToNat,List.getElem?_nil,Nat.reduceMul,Nat.reducePow,Nat.reduceLeDiff,rowOf_mapD,rowOf_mapI,rowOf_mapA,List.getElem?_cons_zero,List.getElem?_cons_succ,take_map_len,take_map_app,List.getElem?_cons_zero,c36,r36,v36_1,u36_2,u36_3,u36_4,u36_5,ty71,ty55,ty9,ty28,ty24,kvD,kvO,kvL,kvP,kvG,kvT,kvC,kvE,kvY,aokB,aokD,aokA,↓rdO_allN,↓rdO_kill,y1,y2,y3,y4,y5,y6,y7,y8,x1,x2,x3,x4,x5,x6,x7,x8,x9,x10,x11,x12,w1,w2,w3,w4,w5,kB0,kB1,kB2,kB3,kB5,kB6,prEta,mvcgen_simp]) | (with_reducible refine And.intro ?_ ?_) | (refine call_r0 (d:=some 4) (by omega) e29 ( take_R 3) rfl ?_ ?_ ?_ ?_ ?_ ?_) | (refine call_r1 (d:=some 4) (by omega) e29 ( take_R 3) rfl ?_ ?_ ?_ ?_ ?_ ?_) | (refine call_r2 (d:=some 4) (by omega) e29 ( take_R 3) rfl ?_ ?_ ?_ ?_ ?_ ?_) | (refine call_r0 (d:=some 7) (by omega) e32 ( text_R) rfl ?_ ?_ ?_ ?_ ?_ ?_) | (refine call_r1 (d:=some 7) (by omega) e32 ( text_R) rfl ?_ ?_ ?_ ?_ ?_ ?_) | (refine call_r2 (d:=some 7) (by omega) e32 ( text_R) rfl ?_ ?_ ?_ ?_ ?_ ?_) | (refine call_r0 (d:=some 10) (by omega) e32 ( text_R) rfl ?_ ?_ ?_ ?_ ?_ ?_) | (refine call_r1 (d:=some 10) (by omega) e32 ( text_R) rfl ?_ ?_ ?_ ?_ ?_ ?_) | (refine call_r2 (d:=some 10) (by omega) e32 ( text_R) rfl ?_ ?_ ?_ ?_ ?_ ?_) | (refine EndX.plain ?_) | (refine nil_split (fun hn=>?_) (fun hn=>?_)) | (refine gcall_no not_false ?_) | (refine gdcall_no not_false ?_) | (refine GuardS_of _ _ _ _ _ _ (fun hg=>?_) (fun hg=>?_)) | (refine GuardD_of _ _ _ _ (fun hg=>?_) (fun hg=>?_)) | (refine CondB_of _ _ _ _ _ _ _ ?_ (fun hg=>?_) (fun hg=>?_)))
  any_goals (show SEcall _ _ _ _ _ _ _ _ _ _;refine SEcall_wkQ (d:=some 14) (Wk.nameB (b:=B + 2) (j:=3) (n:=B + 90005) (k:=3) (E:=57) (cs:=[I (takN (b,e) 3),.d (.v (.string (textN (takS (b,e) 3)))),.d (.v (.string (textN (textS (takS (b,e) 3))))),.d (.v (.slice none 0 0))]) (by simp [sto,y1,y2,y3,y4,y5,y6,y7,y8,x1,x2,x3,x4,x5,x6,x7,x8,x9,x10,x11,x12,w1,w2,w3,w4,w5]) rfl (by omega) (by omega) (.inl (by omega)) hr5) ?_;simp only [newF,Fr.map,List.map_cons,List.map_nil,newL,Loc.kill,Loc.set,kvD,kvO,kvL,kvC,aokB,aokA,rdO_kill,List.filter_cons,List.filter_nil,y1,y2,y3,y4,y5,y6,y7,y8,kB0,kB1,kB2,kB3,kB5,kB6,Nat.add_left_cancel_iff,Nat.reduceEqDiff,if_true,if_false,ne_eq,not_false_eq_true,decide_true,ite_true,ite_false,List.set_cons_succ,List.set_cons_zero,reduceIte];refine call_ownN (d:=some 14) [B + 90005] [(n,rdO (mnSe partS (textS (textS (takS (b,e) 3)))).1 (mnSe partS (textS (textS (takS (b,e) 3)))).2),(B + 90005,.arr 3 57 ((mnLe partN partS (textS (textS (takS (b,e) 3)))).map PartD.row)),(B + 2,.box [I (takN (b,e) 3),.d (.v (.string (textN (takS (b,e) 3)))),.d (.v (.string (textN (textS (takS (b,e) 3))))),.os (B + 90005) (mnLe partN partS (textS (textS (takS (b,e) 3)))).length])] [(n,rdO (mnSe partS (textS (textS (takS (b,e) 3)))).1 (mnSe partS (textS (textS (takS (b,e) 3)))).2),(B + 90005,.arr 3 57 ((mnLe partN partS (textS (textS (takS (b,e) 3)))).map PartD.row)),(B + 2,.box [I (takN (b,e) 3),.d (.v (.string (textN (takS (b,e) 3)))),.d (.v (.string (textN (textS (takS (b,e) 3))))),.os (B + 90005) (mnLe partN partS (textS (textS (takS (b,e) 3)))).length]),(m,.arr 4 55 (l.map UpD.row)),(q,.box [c0,c1,c2,c3,.os m l.length,c5,c6]),(p,.box [.lp n 0])] e30 (manyPt _ _ n (B + 90005) (B + 2) p (I (takN (b,e) 3)) (.d (.v (.string (textN (takS (b,e) 3))))) (.d (.v (.string (textN (textS (takS (b,e) 3)))))) (textS (textS (takS (b,e) 3))).1 (textS (textS (takS (b,e) 3))).2 (at4_of (by omega) (by omega) (by omega) (by omega) (by omega) (by omega) np (by omega) (by omega) (by omega) (by simp [sto,y1,y2,y3,y4,y5,y6,y7,y8,x1,x2,x3,x4,x5,x6,x7,x8,x9,x10,x11,x12,w1,w2,w3,w4,w5,prEta]) (by simp [sto,y1,y2,y3,y4,y5,y6,y7,y8,x1,x2,x3,x4,x5,x6,x7,x8,x9,x10,x11,x12,w1,w2,w3,w4,w5]) (by simp [sto,y1,y2,y3,y4,y5,y6,y7,y8,x1,x2,x3,x4,x5,x6,x7,x8,x9,x10,x11,x12,w1,w2,w3,w4,w5]) (by simp [sto,y1,y2,y3,y4,y5,y6,y7,y8,x1,x2,x3,x4,x5,x6,x7,x8,x9,x10,x11,x12,w1,w2,w3,w4,w5]) hr5 (by simp [y1,y2,y3,y4,y5,y6,y7,y8,x1,x2,x3,x4,x5,x6,x7,x8,x9,x10,x11,x12,w1,w2,w3,w4,w5,AO.kill,kB0,kB1,kB2,kB3,kB5,kB6,kvD,kvO,kvL])) (by simp [old,AV.allN]) (by simp [old,AV.allN]) (by simp [old,AV.allN])) (sto_up3 _ _) rfl (fun z hz hlt=>absurd hlt (by simp at hz;omega)) ?_ ?_ ?_ ?_)
  repeat' (first | (simp -implicitDefEqProofs only [*,Nat.reduceBEq,↓reduceIte,Nat.reduceEqDiff,Nat.reduceAdd,reduceCtorEq,Int.reduceLT,Int.reduceToNat,List.getElem?_nil,Nat.reduceMul,Nat.reducePow,Nat.reduceLeDiff,rowOf_mapD,rowOf_mapI,rowOf_mapA,List.getElem?_cons_zero,List.getElem?_cons_succ,take_map_len,take_map_app,List.getElem?_cons_zero,c36,r36,v36_1,u36_2,u36_3,u36_4,u36_5,ty71,ty55,ty9,ty28,ty24,kvD,kvO,kvL,kvP,kvG,kvT,kvC,kvE,kvY,aokB,aokD,aokA,↓rdO_allN,↓rdO_kill,y1,y2,y3,y4,y5,y6,y7,y8,x1,x2,x3,x4,x5,x6,x7,x8,x9,x10,x11,x12,w1,w2,w3,w4,w5,kB0,kB1,kB2,kB3,kB5,kB6,prEta,mvcgen_simp]) | (with_reducible refine And.intro ?_ ?_) | (refine EndX.plain ?_) | (refine nil_split (fun hn=>?_) (fun hn=>?_)) | (refine gcall_no not_false ?_) | (refine gdcall_no not_false ?_) | (refine GuardS_of _ _ _ _ _ _ (fun hg=>?_) (fun hg=>?_)) | (refine GuardD_of _ _ _ _ (fun hg=>?_) (fun hg=>?_)) | (refine CondB_of _ _ _ _ _ _ _ ?_ (fun hg=>?_) (fun hg=>?_)))
  all_goals first
    | (unfold Fr.below;simp [Fr.allN,AV.allN,AV.allNL,v1,v2,v3,v4];done)
    | (unfold Loc.below;simp only [List.all_cons,List.all_nil,rdO_allN,v1,v2,v3,v4];simp [AO.allN,AV.allN,AV.allNL,v1,v2,v3,v4,kA0,kA1,kA2,kA3,kA5,kA6];done)
    | (intro z hz;simp only [List.mem_cons,List.not_mem_nil,or_false] at hz;rcases hz with rfl | rfl | rfl | rfl<;>simp [y1,y2,y3,y4,y5,y6,y7,y8,x1,x2,x3,x4,x5,x6,x7,x8,x9,x10,x11,x12,w1,w2,w3,w4,w5];done)
    | (intro z hz;simp only [List.mem_cons,List.not_mem_nil,or_false] at hz;rcases hz with rfl | rfl | rfl<;>simp [y1,y2,y3,y4,y5,y6,y7,y8,x1,x2,x3,x4,x5,x6,x7,x8,x9,x10,x11,x12,w1,w2,w3,w4,w5];done)
    | exact .inl (by decide)
    | exact .inr ⟨by simp,hr3⟩
    | trivial
    | omega
    | (simp only [List.length_append,List.length_map,List.length_cons,List.length_nil,List.length_take];omega)
    | (simp [allP,opd,Fr.get];done)
    | (refine st_end ?_ ?_ ?_ ?_
       · simp [y1,y2,y3,y4,y5,y6,y7,y8,x1,x2,x3,x4,x5,x6,x7,x8,x9,x10,x11,x12,w1,w2,w3,w4,w5,UpD.row,upN,upT,up3,up2,up1]
       · simp [y1,y2,y3,y4,y5,y6,y7,y8,x1,x2,x3,x4,x5,x6,x7,x8,x9,x10,x11,x12,w1,w2,w3,w4,w5,UpD.row,upN,upT,up3,up2,up1]
       · simp [y1,y2,y3,y4,y5,y6,y7,y8,x1,x2,x3,x4,x5,x6,x7,x8,x9,x10,x11,x12,w1,w2,w3,w4,w5,UpD.row,upN,upT,up3,up2,up1]
       · intro x z1 z2 z3;by_cases z4:x = p<;>simp [z1,z2,z3,z4,hid4,a4,x5,x6,x9,x10,x11,x12];done)
theorem manyUp (B:Nat) (σ:Sto) (n m q p:Nat) (c0 c1 c2 c3 c5 c6:AV) (b:List UInt8) (e:Int) (hA:At4 B σ n m q p (rdO b e) (.arr 4 55 []) (.box [c0,c1,c2,c3,.os m 0,c5,c6]) (.box [.lp n 0])) (o0:old B m c0) (o1:old B m c1) (o2:old B m c2) (o3:old B m c3) (o5:old B m c5) (o6:old B m c6) :
    ACalls Try.prog 30 [.lp n 0,.clo (.func 36) [] [.lp p 0,.lp q 0]] σ B [m] (fun v σ'=>v = .tup [] ∧ σ' = sto [(n,rdO (mnSe upT (b,e)).1 (mnSe upT (b,e)).2),(m,.arr 4 55 ((mnLe upN upT (b,e)).map UpD.row)),(q,.box [c0,c1,c2,c3,.os m (mnLe upN upT (b,e)).length,c5,c6])] σ):=by
  refine own_ofL [(n,rdO b e),(m,.arr 4 55 []),(q,.box [c0,c1,c2,c3,.os m 0,c5,c6]),(p,.box [.lp n 0])] (hid4_sto hA.a1 hA.a2 hA.a3 hA.a4) hid4_closed follows Try.func30 c30_eq r30 (Nat.le_of_ble_eq_true rfl) fun hcl hsz=>?_
  clear hsz
  obtain ⟨hn,hm,hq,hp,nm,nq,np,mq,mp,qp,a1,a2,a3,a4,free⟩:=hA
  have y1:∀ s,(n = B + s) = False:=fun s=>by simp;omega
  have y2:∀ s,(B + s = n) = False:=fun s=>by simp;omega
  have y3:∀ s,(m = B + s) = False:=fun s=>by simp;omega
  have y4:∀ s,(B + s = m) = False:=fun s=>by simp;omega
  have y5:∀ s,(q = B + s) = False:=fun s=>by simp;omega
  have y6:∀ s,(B + s = q) = False:=fun s=>by simp;omega
  have y7:∀ s,(p = B + s) = False:=fun s=>by simp;omega
  have y8:∀ s,(B + s = p) = False:=fun s=>by simp;omega
  have x1:(n = m) = False:=eq_false nm
  have x2:(m = n) = False:=eq_false nm.symm
  have x3:(n = q) = False:=eq_false nq
  have x4:(q = n) = False:=eq_false nq.symm
  have x5:(n = p) = False:=eq_false np
  have x6:(p = n) = False:=eq_false np.symm
  have x7:(m = q) = False:=eq_false mq
  have x8:(q = m) = False:=eq_false mq.symm
  have x9:(m = p) = False:=eq_false mp
  have x10:(p = m) = False:=eq_false mp.symm
  have x11:(q = p) = False:=eq_false qp
  have x12:(p = q) = False:=eq_false qp.symm
  have w1:(n < B) = True:=eq_true hn
  have w2:(m < B) = True:=eq_true hm
  have w3:(q < B) = True:=eq_true hq
  have w4:(p < B) = True:=eq_true hp
  have v1:decide (n < B + 100000) = true:=by simp;omega
  have v2:decide (m < B + 100000) = true:=by simp;omega
  have v3:decide (q < B + 100000) = true:=by simp;omega
  have v4:decide (p < B + 100000) = true:=by simp;omega
  have w5:(B ≤ m) = False:=eq_false (by omega)
  have hr3:=hid4_kill (n:=n) (m:=m) (q:=q) (p:=p) free
  have hr1:hid4 n m q p σ m = .dead:=by simp [hid4,x2]
  have k0:=old_kill o0
  have kB0:=old_killB o0
  have kA0:=old_all o0 (C:=B + 100000) (by omega)
  have k1:=old_kill o1
  have kB1:=old_killB o1
  have kA1:=old_all o1 (C:=B + 100000) (by omega)
  have k2:=old_kill o2
  have kB2:=old_killB o2
  have kA2:=old_all o2 (C:=B + 100000) (by omega)
  have k3:=old_kill o3
  have kB3:=old_killB o3
  have kA3:=old_all o3 (C:=B + 100000) (by omega)
  have k5:=old_kill o5
  have kB5:=old_killB o5
  have kA5:=old_all o5 (C:=B + 100000) (by omega)
  have k6:=old_kill o6
  have kB6:=old_killB o6
  have kA6:=old_all o6 (C:=B + 100000) (by omega)
  clear a1 a2 a3
  have hx0:=(takN_1 (b,e)).1
  have hx1:=(takN_1 (b,e)).2
  obtain ⟨M,hM⟩:∃ M,mnC upT (b,e) ((takN (b,e) 1).toNat - 0) 0 = M:=⟨_,rfl⟩
  have hM2:mnM upT (b,e) = M:=hM
  repeat' (first | (simp -implicitDefEqProofs only [*,Nat.reduceBEq,↓reduceIte,Nat.reduceEqDiff,Nat.reduceAdd,reduceCtorEq,Int.reduceLT,Int.reduceToNat,List.getElem?_nil,Nat.reduceMul,Nat.reducePow,Nat.reduceLeDiff,rowOf_mapD,rowOf_mapI,rowOf_mapA,List.getElem?_cons_zero,List.getElem?_cons_succ,take_map_len,take_map_app,List.getElem?_cons_zero,c30,r30,v30_1,v30_2,u30_3,u30_4,u30_5,u30_6,u30_7,ty3,ty73,ty30,kvD,kvO,kvL,kvP,kvG,kvT,kvC,kvE,kvY,aokB,aokD,aokA,↓rdO_allN,↓rdO_kill,y1,y2,y3,y4,y5,y6,y7,y8,x1,x2,x3,x4,x5,x6,x7,x8,x9,x10,x11,x12,w1,w2,w3,w4,w5,kB0,kB1,kB2,kB3,kB5,kB6,prEta,mvcgen_simp]) | (with_reducible refine And.intro ?_ ?_) | (refine call_r0 (d:=some 6) (by omega) e29 ( take_R 1) rfl ?_ ?_ ?_ ?_ ?_ ?_) | (refine call_r1 (d:=some 6) (by omega) e29 ( take_R 1) rfl ?_ ?_ ?_ ?_ ?_ ?_) | (refine call_r2 (d:=some 6) (by omega) e29 ( take_R 1) rfl ?_ ?_ ?_ ?_ ?_ ?_) | (refine EndX.plain ?_) | (refine nil_split (fun hn=>?_) (fun hn=>?_)) | (refine gcall_no not_false ?_) | (refine gdcall_no not_false ?_) | (refine GuardS_of _ _ _ _ _ _ (fun hg=>?_) (fun hg=>?_)) | (refine GuardD_of _ _ _ _ (fun hg=>?_) (fun hg=>?_)) | (refine CondB_of _ _ _ _ _ _ _ ?_ (fun hg=>?_) (fun hg=>?_)))
  repeat' (first | (simp -implicitDefEqProofs only [*,Nat.reduceBEq,↓reduceIte,Nat.reduceEqDiff,Nat.reduceAdd,reduceCtorEq,Int.reduceLT,Int.reduceToNat,List.getElem?_nil,Nat.reduceMul,Nat.reducePow,Nat.reduceLeDiff,rowOf_mapD,rowOf_mapI,rowOf_mapA,List.getElem?_cons_zero,List.getElem?_cons_succ,take_map_len,take_map_app,List.getElem?_cons_zero,c30,r30,v30_1,v30_2,u30_3,u30_4,u30_5,u30_6,u30_7,ty3,ty73,ty30,kvD,kvO,kvL,kvP,kvG,kvT,kvC,kvE,kvY,aokB,aokD,aokA,↓rdO_allN,↓rdO_kill,y1,y2,y3,y4,y5,y6,y7,y8,x1,x2,x3,x4,x5,x6,x7,x8,x9,x10,x11,x12,w1,w2,w3,w4,w5,kB0,kB1,kB2,kB3,kB5,kB6,rdO,prEta,mnS_0,mnL_0,mvcgen_simp]) | (with_reducible refine And.intro ?_ ?_) | (refine callv_st (d:=some 19) (n:=n) (m:=m) (q:=q) (p:=p) (fun _=>List.mem_singleton.mpr rfl) rfl (acv_of e36 (stepUp _ _ n m q p c0 c1 c2 c3 c5 c6 (mnL upN upT (b,e) k) (mnS upT (b,e) k).1 (mnS upT (b,e) k).2 (at4_sto hn hm hq hp nm nq np mq mp qp hr3) (old_up o0) (old_up o1) (old_up o2) (old_up o3) (old_up o5) (old_up o6) (by rw [mnL_len];omega))) rfl ?_ ?_ ?_ ?_ ?_) | (refine loop_nat ((takN (b,e) 1).toNat) (fun k=>mnC upT (b,e) ((takN (b,e) 1).toNat - k) k = M) (fun k=>[(4,I (takN (b,e) 1 - k)),(0,.lp n 0),(1,.clo (.func 36) [] [.lp p 0,.lp q 0])]) (fun k=>[(n,rdO (mnS upT (b,e) k).1 (mnS upT (b,e) k).2),(m,.arr 4 55 ((mnL upN upT (b,e) k).map UpD.row)),(q,.box [c0,c1,c2,c3,.os m (mnL upN upT (b,e) k).length,c5,c6]),(p,.box [.lp n 0])]) ?_ (Wk.keep hcl ?_ ?_ ?_) fun k hk hF=>?_;rotate_left 1;(focus (simp [Fr.get,newF,Fr.map,AV.kill,AV.mapN,kvD,kvO,kvL,kvP,kvG,kvT,kvC,kvE,kvY,aokB,aokD,aokA,↓rdO_allN,↓rdO_kill,y1,y2,y3,y4,y5,y6,y7,y8,x1,x2,x3,x4,x5,x6,x7,x8,x9,x10,x11,x12,w1,w2,w3,w4,w5,kB0,kB1,kB2,kB3,kB5,kB6,rdO,prEta,mnS_0,mnL_0]<;>fail));(focus (simp [sto,newL,Loc.kill,Loc.set,AO.kill,AV.kill,AV.mapN,kvD,kvO,kvL,kvP,kvG,kvT,kvC,kvE,kvY,aokB,aokD,aokA,↓rdO_allN,↓rdO_kill,y1,y2,y3,y4,y5,y6,y7,y8,x1,x2,x3,x4,x5,x6,x7,x8,x9,x10,x11,x12,w1,w2,w3,w4,w5,kB0,kB1,kB2,kB3,kB5,kB6,rdO,prEta,mnS_0,mnL_0]<;>fail));(focus (simp [newL,Loc.kill,Loc.set,kvD,kvO,kvL,kvP,kvG,kvT,kvC,kvE,kvY,aokB,aokD,aokA,↓rdO_allN,↓rdO_kill,y1,y2,y3,y4,y5,y6,y7,y8,x1,x2,x3,x4,x5,x6,x7,x8,x9,x10,x11,x12,w1,w2,w3,w4,w5,kB0,kB1,kB2,kB3,kB5,kB6,rdO,prEta,mnS_0,mnL_0]<;>fail));(try have hw:IntKind.i64.wrap ((k:Int) + 1) = (k:Int) + 1:=IntWalk.i64_in _ (by omega))) | (refine EndX.plain ?_) | (refine nil_split (fun hn=>?_) (fun hn=>?_)) | (refine gcall_no not_false ?_) | (refine gdcall_no not_false ?_) | (refine GuardS_of _ _ _ _ _ _ (fun hg=>?_) (fun hg=>?_)) | (refine GuardD_of _ _ _ _ (fun hg=>?_) (fun hg=>?_)) | (refine CondB_of _ _ _ _ _ _ _ ?_ (fun hg=>?_) (fun hg=>?_)))
  all_goals first
    | (unfold Fr.below;simp [Fr.allN,AV.allN,AV.allNL,v1,v2,v3,v4];done)
    | (unfold Loc.below;simp only [List.all_cons,List.all_nil,rdO_allN,v1,v2,v3,v4];simp [AO.allN,AV.allN,AV.allNL,v1,v2,v3,v4,kA0,kA1,kA2,kA3,kA5,kA6];done)
    | (intro z hz;simp only [List.mem_cons,List.not_mem_nil,or_false] at hz;rcases hz with rfl | rfl | rfl<;>simp [y1,y2,y3,y4,y5,y6,y7,y8,x1,x2,x3,x4,x5,x6,x7,x8,x9,x10,x11,x12,w1,w2,w3,w4,w5];done)
    | exact .inl (by decide)
    | trivial
    | (simp [allP,opd,Fr.get];done)
    | (have hgt:=of_decide_eq_true (by assumption:decide (takN (b,e) 1 - (k:Int) > 0) = true)
       have h0:=(by assumption:((mnS upT (b,e) k).2 == 0) = true)
       have hlt:k < (takN (b,e) 1).toNat:=by omega
       first
       | exact hlt
       | exact mnC_go hF hlt h0
       | (rw [IntWalk.i64_in (takN (b,e) 1 - (k:Int) - 1) (by omega),show takN (b,e) 1 - (k:Int) - 1 = takN (b,e) 1 - ((k + 1:Nat):Int) by omega,← mnS_next,← mnL_next]
          refine Wk.keep hcl ?_ ?_ ?_<;>simp [Fr.get,sto,rdO,y1,y2,y3,y4,y5,y6,y7,y8,x1,x2,x3,x4,x5,x6,x7,x8,x9,x10,x11,x12,w1,w2,w3,w4,w5]))
    | (have hk3:k = M:=by
         first
         | (have hle:=of_decide_eq_false (by assumption:decide (takN (b,e) 1 - (k:Int) > 0) = false)
            exact mnC_end hF (by omega))
         | exact mnC_no hF (by assumption)
       subst hk3
       unfold mnSe mnLe
       rw [hM2]
       refine st_end ?_ ?_ ?_ ?_
       · simp [y1,y2,y3,y4,y5,y6,y7,y8,x1,x2,x3,x4,x5,x6,x7,x8,x9,x10,x11,x12,w1,w2,w3,w4,w5,rdO]
       · simp [y1,y2,y3,y4,y5,y6,y7,y8,x1,x2,x3,x4,x5,x6,x7,x8,x9,x10,x11,x12,w1,w2,w3,w4,w5]
       · simp [y1,y2,y3,y4,y5,y6,y7,y8,x1,x2,x3,x4,x5,x6,x7,x8,x9,x10,x11,x12,w1,w2,w3,w4,w5]
       · intro x z1 z2 z3;by_cases z4:x = p<;>simp [z1,z2,z3,z4,hid4,a4,x5,x6,x9,x10,x11,x12];done)
end Go.Proofs.Ytijpmidnclbhpaa
