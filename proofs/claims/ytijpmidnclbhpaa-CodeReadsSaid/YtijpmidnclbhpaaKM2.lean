/- The closures of code.DecodeState: one thing more. -/
import Derived.Test.YtijpmidnclbhpaaKM1
import Derived.Test.YtijpmidnclbhpaaKUV
import Derived.Test.YtijpmidnclbhpaaTypes
namespace Go.Proofs.Ytijpmidnclbhpaa
open Go.RowKit
set_option maxRecDepth 100000
def o31_1:List SO:=((SO.mk (some 16) (.app 22 22 (.tmp 13) (.tmp 15)) none) :: (SO.mk (some 17) (.faddr 28 (.tmp 1) 2) none) :: (SO.mk none (.store 22 (.tmp 17) (.tmp 16)) none) :: [])
theorem v31_1:type_of% (@swl _ _ o31_1.eq_1):=@swl _ _ o31_1.eq_1
def c31_2:SC:=(.reg ((SO.mk (some 12) (.faddr 28 (.tmp 1) 2) none) :: (SO.mk (some 13) (.load 22 (.tmp 12)) none) :: (SO.mk (some 14) (.load 47 (.tmp 2)) none) :: (SO.mk (some 15) (.bslice 22 1 [(0 ,(.tmp 14))]) none) :: o31_1))
theorem u31_2:type_of% (@swc _ _ c31_2.eq_1):=@swc _ _ c31_2.eq_1
def c31_3:SC:=(.seq (.reg [SO.mk (some 9) (.load 71 (.tmp 0)) none,SO.mk (some 10) (.call 33 [(.tmp 9)]) none,SO.mk (some 11) (.faddr 47 (.tmp 2) 2) none,SO.mk none (.store 45 (.tmp 11) (.tmp 10)) none]) (.keep [2,1] c31_2))
theorem u31_3:type_of% (@swc _ _ c31_3.eq_1):=@swc _ _ c31_3.eq_1
def c31_4:SC:=(.seq (.reg [SO.mk (some 6) (.load 71 (.tmp 0)) none,SO.mk (some 7) (.call 29 [(.tmp 6),(.const (Value.int .i64 1))]) none,SO.mk (some 8) (.faddr 47 (.tmp 2) 1) none,SO.mk none (.store 3 (.tmp 8) (.tmp 7)) none]) (.keep [0,2,1] c31_3))
theorem u31_4:type_of% (@swc _ _ c31_4.eq_1):=@swc _ _ c31_4.eq_1
def c31:SC:=(.seq (.reg [SO.mk (some 3) (.load 71 (.tmp 0)) none,SO.mk (some 4) (.call 32 [(.tmp 3)]) none,SO.mk (some 5) (.build 47 [(0 ,(.tmp 4))]) none,SO.mk (some 2) (.alloc 47) none,SO.mk none (.store 47 (.tmp 2) (.tmp 5)) none]) (.keep [0,2,1] c31_4))
theorem c31_eq:annC Try.f31 = some c31:=by kernel_rfl
theorem r31:Try.f31.results.toList = []:=by kernel_rfl
theorem e31:enters Try.prog 31 = true:=by kernel_rfl
def c34:SC:=(.oreg (.fst (SO.mk (some 2) (.faddr 28 (.tmp 0) 3) none) (.br (SO.mk (some 3) (.load 23 (.tmp 2)) none) (.br (SO.mk (some 4) (.load 71 (.tmp 1)) none) (.br (SO.mk (some 5) (.call 35 [(.tmp 4)]) none) (.br (SO.mk (some 6) (.bslice 23 1 [(0 ,(.tmp 5))]) none) (.br (SO.mk (some 7) (.app 23 23 (.tmp 3) (.tmp 6)) none) (.fst (SO.mk (some 8) (.faddr 28 (.tmp 0) 3) none) (.br (SO.mk none (.store 23 (.tmp 8) (.tmp 7)) none) .done .nil)) .nil) .nil) .nil) .nil) (.br (SO.mk (some 4) (.load 71 (.tmp 1)) none) (.br (SO.mk (some 3) (.load 23 (.tmp 2)) none) (.br (SO.mk (some 5) (.call 35 [(.tmp 4)]) none) (.br (SO.mk (some 6) (.bslice 23 1 [(0 ,(.tmp 5))]) none) (.br (SO.mk (some 7) (.app 23 23 (.tmp 3) (.tmp 6)) none) (.fst (SO.mk (some 8) (.faddr 28 (.tmp 0) 3) none) (.br (SO.mk none (.store 23 (.tmp 8) (.tmp 7)) none) .done .nil)) .nil) .nil) .nil) (.br (SO.mk (some 5) (.call 35 [(.tmp 4)]) none) (.br (SO.mk (some 3) (.load 23 (.tmp 2)) none) (.br (SO.mk (some 6) (.bslice 23 1 [(0 ,(.tmp 5))]) none) (.br (SO.mk (some 7) (.app 23 23 (.tmp 3) (.tmp 6)) none) (.fst (SO.mk (some 8) (.faddr 28 (.tmp 0) 3) none) (.br (SO.mk none (.store 23 (.tmp 8) (.tmp 7)) none) .done .nil)) .nil) .nil) (.br (SO.mk (some 6) (.bslice 23 1 [(0 ,(.tmp 5))]) none) (.br (SO.mk (some 3) (.load 23 (.tmp 2)) none) (.br (SO.mk (some 7) (.app 23 23 (.tmp 3) (.tmp 6)) none) (.fst (SO.mk (some 8) (.faddr 28 (.tmp 0) 3) none) (.br (SO.mk none (.store 23 (.tmp 8) (.tmp 7)) none) .done .nil)) .nil) .nil) .nil)) .nil)) .nil))))
theorem c34_eq:annO Try.f34 = some c34:=by kernel_rfl
theorem r34:Try.f34.results.toList = []:=by kernel_rfl
theorem e34:enters Try.prog 34 = true:=by kernel_rfl
def c37:SC:=(.oreg (.fst (SO.mk (some 2) (.faddr 55 (.tmp 0) 3) none) (.br (SO.mk (some 3) (.load 53 (.tmp 2)) none) (.br (SO.mk (some 4) (.load 71 (.tmp 1)) none) (.br (SO.mk (some 5) (.call 38 [(.tmp 4)]) none) (.br (SO.mk (some 6) (.bslice 53 1 [(0 ,(.tmp 5))]) none) (.br (SO.mk (some 7) (.app 53 53 (.tmp 3) (.tmp 6)) none) (.fst (SO.mk (some 8) (.faddr 55 (.tmp 0) 3) none) (.br (SO.mk none (.store 53 (.tmp 8) (.tmp 7)) none) .done .nil)) .nil) .nil) .nil) .nil) (.br (SO.mk (some 4) (.load 71 (.tmp 1)) none) (.br (SO.mk (some 3) (.load 53 (.tmp 2)) none) (.br (SO.mk (some 5) (.call 38 [(.tmp 4)]) none) (.br (SO.mk (some 6) (.bslice 53 1 [(0 ,(.tmp 5))]) none) (.br (SO.mk (some 7) (.app 53 53 (.tmp 3) (.tmp 6)) none) (.fst (SO.mk (some 8) (.faddr 55 (.tmp 0) 3) none) (.br (SO.mk none (.store 53 (.tmp 8) (.tmp 7)) none) .done .nil)) .nil) .nil) .nil) (.br (SO.mk (some 5) (.call 38 [(.tmp 4)]) none) (.br (SO.mk (some 3) (.load 53 (.tmp 2)) none) (.br (SO.mk (some 6) (.bslice 53 1 [(0 ,(.tmp 5))]) none) (.br (SO.mk (some 7) (.app 53 53 (.tmp 3) (.tmp 6)) none) (.fst (SO.mk (some 8) (.faddr 55 (.tmp 0) 3) none) (.br (SO.mk none (.store 53 (.tmp 8) (.tmp 7)) none) .done .nil)) .nil) .nil) (.br (SO.mk (some 6) (.bslice 53 1 [(0 ,(.tmp 5))]) none) (.br (SO.mk (some 3) (.load 53 (.tmp 2)) none) (.br (SO.mk (some 7) (.app 53 53 (.tmp 3) (.tmp 6)) none) (.fst (SO.mk (some 8) (.faddr 55 (.tmp 0) 3) none) (.br (SO.mk none (.store 53 (.tmp 8) (.tmp 7)) none) .done .nil)) .nil) .nil) .nil)) .nil)) .nil))))
theorem c37_eq:annO Try.f37 = some c37:=by kernel_rfl
theorem r37:Try.f37.results.toList = []:=by kernel_rfl
theorem e37:enters Try.prog 37 = true:=by kernel_rfl
def c39:SC:=(.oreg (.fst (SO.mk (some 2) (.faddr 28 (.tmp 0) 5) none) (.br (SO.mk (some 3) (.load 25 (.tmp 2)) none) (.br (SO.mk (some 4) (.load 71 (.tmp 1)) none) (.br (SO.mk (some 5) (.call 40 [(.tmp 4)]) none) (.br (SO.mk (some 6) (.bslice 25 1 [(0 ,(.tmp 5))]) none) (.br (SO.mk (some 7) (.app 25 25 (.tmp 3) (.tmp 6)) none) (.fst (SO.mk (some 8) (.faddr 28 (.tmp 0) 5) none) (.br (SO.mk none (.store 25 (.tmp 8) (.tmp 7)) none) .done .nil)) .nil) .nil) .nil) .nil) (.br (SO.mk (some 4) (.load 71 (.tmp 1)) none) (.br (SO.mk (some 3) (.load 25 (.tmp 2)) none) (.br (SO.mk (some 5) (.call 40 [(.tmp 4)]) none) (.br (SO.mk (some 6) (.bslice 25 1 [(0 ,(.tmp 5))]) none) (.br (SO.mk (some 7) (.app 25 25 (.tmp 3) (.tmp 6)) none) (.fst (SO.mk (some 8) (.faddr 28 (.tmp 0) 5) none) (.br (SO.mk none (.store 25 (.tmp 8) (.tmp 7)) none) .done .nil)) .nil) .nil) .nil) (.br (SO.mk (some 5) (.call 40 [(.tmp 4)]) none) (.br (SO.mk (some 3) (.load 25 (.tmp 2)) none) (.br (SO.mk (some 6) (.bslice 25 1 [(0 ,(.tmp 5))]) none) (.br (SO.mk (some 7) (.app 25 25 (.tmp 3) (.tmp 6)) none) (.fst (SO.mk (some 8) (.faddr 28 (.tmp 0) 5) none) (.br (SO.mk none (.store 25 (.tmp 8) (.tmp 7)) none) .done .nil)) .nil) .nil) (.br (SO.mk (some 6) (.bslice 25 1 [(0 ,(.tmp 5))]) none) (.br (SO.mk (some 3) (.load 25 (.tmp 2)) none) (.br (SO.mk (some 7) (.app 25 25 (.tmp 3) (.tmp 6)) none) (.fst (SO.mk (some 8) (.faddr 28 (.tmp 0) 5) none) (.br (SO.mk none (.store 25 (.tmp 8) (.tmp 7)) none) .done .nil)) .nil) .nil) .nil)) .nil)) .nil))))
theorem c39_eq:annO Try.f39 = some c39:=by kernel_rfl
theorem r39:Try.f39.results.toList = []:=by kernel_rfl
theorem e39:enters Try.prog 39 = true:=by kernel_rfl
end Go.Proofs.Ytijpmidnclbhpaa
namespace Go.Proofs.Ytijpmidnclbhpaa
open Go.RowKit
set_option maxHeartbeats 4000000
set_option maxRecDepth 20000
attribute [local irreducible] SW OSW SWL SWLn SWD SEcall SEcallv SDv SE SO1 SOg ACalls ACallv Wk EndV
set_option linter.unusedSimpArgs false
set_option linter.unusedVariables false
attribute [local irreducible] takS textS bitS intsS takN textN bitN intsN ruleS ruleN askS askN partS partN verS verN
theorem stepBk (B:Nat) (σ:Sto) (n m q p:Nat) (c0 c1 c3 c4 c5 c6:AV) (l:List BktD) (b:List UInt8) (e:Int) (hA:At4 B σ n m q p (rdO b e) (.arr 5 47 (l.map BktD.row)) (.box [c0,c1,.os m l.length,c3,c4,c5,c6]) (.box [.lp n 0])) (o0:old B m c0) (o1:old B m c1) (o3:old B m c3) (o4:old B m c4) (o5:old B m c5) (o6:old B m c6) (hl:l.length ≤ 255) :
    ACalls Try.prog 31 [.lp p 0,.lp q 0] σ B [m] (fun v σ'=>v = .tup [] ∧ σ' = sto [(n,rdO (bkS (b,e)).1 (bkS (b,e)).2),(m,.arr 5 47 ((l ++ [bkN (b,e)]).map BktD.row)),(q,.box [c0,c1,.os m (l.length + 1),c3,c4,c5,c6])] σ):=by
  refine own_ofL [(n,rdO b e),(m,.arr 5 47 (l.map BktD.row)),(q,.box [c0,c1,.os m l.length,c3,c4,c5,c6]),(p,.box [.lp n 0])] (hid4_sto hA.a1 hA.a2 hA.a3 hA.a4) hid4_closed follows Try.func31 c31_eq r31 (Nat.le_of_ble_eq_true rfl) fun hcl hsz=>?_
  clear hsz
  obtain ⟨hn,hm,hq,hp,nm,nq,np,mq,mp,qp,a1,a2,a3,a4,free⟩:=hA
  have y1:∀ s,(n = B + s) = False:=fun s=>by simp;omega
  have y2:∀ s,(B + s = n) = False:=fun s=>by simp;omega
  have y3:∀ s,(m = B + s) = False:=fun s=>by simp;omega
  have y4:∀ s,(B + s = m) = False:=fun s=>by simp;omega
  have y5:∀ s,(q = B + s) = False:=fun s=>by simp;omega
  have y6:∀ s,(B + s = q) = False:=fun s=>by simp;omega
  have y7:∀ s,(p = B + s) = False:=fun s=>by simp;omega
  have y8:∀ s,(B + s = p) = False:=fun s=>by simp;omega
  have x1:(n = m) = False:=eq_false nm
  have x2:(m = n) = False:=eq_false nm.symm
  have x3:(n = q) = False:=eq_false nq
  have x4:(q = n) = False:=eq_false nq.symm
  have x5:(n = p) = False:=eq_false np
  have x6:(p = n) = False:=eq_false np.symm
  have x7:(m = q) = False:=eq_false mq
  have x8:(q = m) = False:=eq_false mq.symm
  have x9:(m = p) = False:=eq_false mp
  have x10:(p = m) = False:=eq_false mp.symm
  have x11:(q = p) = False:=eq_false qp
  have x12:(p = q) = False:=eq_false qp.symm
  have w1:(n < B) = True:=eq_true hn
  have w2:(m < B) = True:=eq_true hm
  have w3:(q < B) = True:=eq_true hq
  have w4:(p < B) = True:=eq_true hp
  have v1:decide (n < B + 100000) = true:=by simp;omega
  have v2:decide (m < B + 100000) = true:=by simp;omega
  have v3:decide (q < B + 100000) = true:=by simp;omega
  have v4:decide (p < B + 100000) = true:=by simp;omega
  have w5:(B ≤ m) = False:=eq_false (by omega)
  have hr3:=hid4_kill (n:=n) (m:=m) (q:=q) (p:=p) free
  have hr1:hid4 n m q p σ m = .dead:=by simp [hid4,x2]
  have k0:=old_kill o0
  have kB0:=old_killB o0
  have kA0:=old_all o0 (C:=B + 100000) (by omega)
  have k1:=old_kill o1
  have kB1:=old_killB o1
  have kA1:=old_all o1 (C:=B + 100000) (by omega)
  have k3:=old_kill o3
  have kB3:=old_killB o3
  have kA3:=old_all o3 (C:=B + 100000) (by omega)
  have k4:=old_kill o4
  have kB4:=old_killB o4
  have kA4:=old_all o4 (C:=B + 100000) (by omega)
  have k5:=old_kill o5
  have kB5:=old_killB o5
  have kA5:=old_all o5 (C:=B + 100000) (by omega)
  have k6:=old_kill o6
  have kB6:=old_killB o6
  have kA6:=old_all o6 (C:=B + 100000) (by omega)
  clear a1 a2 a3
  repeat' (first | (simp -implicitDefEqProofs only [*,Nat.reduceBEq,↓reduceIte,Nat.reduceEqDiff,Nat.reduceAdd,reduceCtorEq,Int.reduceLT,Int.reduceToNat,List.getElem?_nil,Nat.reduceMul,Nat.reducePow,Nat.reduceLeDiff,rowOf_mapD,rowOf_mapI,rowOf_mapA,List.getElem?_cons_zero,List.getElem?_cons_succ,take_map_len,take_map_app,List.getElem?_cons_zero,c31,r31,v31_1,u31_2,u31_3,u31_4,ty71,ty47,ty3,ty45,ty28,ty22,kvD,kvO,kvL,kvP,kvG,kvT,kvC,kvE,kvY,aokB,aokD,aokA,↓rdO_allN,↓rdO_kill,y1,y2,y3,y4,y5,y6,y7,y8,x1,x2,x3,x4,x5,x6,x7,x8,x9,x10,x11,x12,w1,w2,w3,w4,w5,kB0,kB1,kB3,kB4,kB5,kB6,prEta,RulD.av,bkN,bkS,BktD.row,mvcgen_simp]) | (with_reducible refine And.intro ?_ ?_) | (refine call_r0 (d:=some 4) (by omega) e32 ( text_R) rfl ?_ ?_ ?_ ?_ ?_ ?_) | (refine call_r1 (d:=some 4) (by omega) e32 ( text_R) rfl ?_ ?_ ?_ ?_ ?_ ?_) | (refine call_r2 (d:=some 4) (by omega) e32 ( text_R) rfl ?_ ?_ ?_ ?_ ?_ ?_) | (refine call_r0 (d:=some 7) (by omega) e29 ( take_R 1) rfl ?_ ?_ ?_ ?_ ?_ ?_) | (refine call_r1 (d:=some 7) (by omega) e29 ( take_R 1) rfl ?_ ?_ ?_ ?_ ?_ ?_) | (refine call_r2 (d:=some 7) (by omega) e29 ( take_R 1) rfl ?_ ?_ ?_ ?_ ?_ ?_) | (refine call_r0 (d:=some 10) (by omega) e33 ( rule_R) rfl ?_ ?_ ?_ ?_ ?_ ?_) | (refine call_r1 (d:=some 10) (by omega) e33 ( rule_R) rfl ?_ ?_ ?_ ?_ ?_ ?_) | (refine call_r2 (d:=some 10) (by omega) e33 ( rule_R) rfl ?_ ?_ ?_ ?_ ?_ ?_) | (refine EndX.plain ?_) | (refine nil_split (fun hn=>?_) (fun hn=>?_)) | (refine gcall_no not_false ?_) | (refine gdcall_no not_false ?_) | (refine GuardS_of _ _ _ _ _ _ (fun hg=>?_) (fun hg=>?_)) | (refine GuardD_of _ _ _ _ (fun hg=>?_) (fun hg=>?_)) | (refine CondB_of _ _ _ _ _ _ _ ?_ (fun hg=>?_) (fun hg=>?_)))
  all_goals first
    | (unfold Fr.below;simp [Fr.allN,AV.allN,AV.allNL,v1,v2,v3,v4];done)
    | (unfold Loc.below;simp only [List.all_cons,List.all_nil,rdO_allN,v1,v2,v3,v4];simp [AO.allN,AV.allN,AV.allNL,v1,v2,v3,v4,kA0,kA1,kA3,kA4,kA5,kA6];done)
    | (intro z hz;simp only [List.mem_cons,List.not_mem_nil,or_false] at hz;rcases hz with rfl | rfl | rfl | rfl<;>simp [y1,y2,y3,y4,y5,y6,y7,y8,x1,x2,x3,x4,x5,x6,x7,x8,x9,x10,x11,x12,w1,w2,w3,w4,w5];done)
    | (intro z hz;simp only [List.mem_cons,List.not_mem_nil,or_false] at hz;rcases hz with rfl | rfl | rfl<;>simp [y1,y2,y3,y4,y5,y6,y7,y8,x1,x2,x3,x4,x5,x6,x7,x8,x9,x10,x11,x12,w1,w2,w3,w4,w5];done)
    | exact .inl (by decide)
    | exact .inr ⟨by simp,hr3⟩
    | trivial
    | omega
    | (simp only [List.length_append,List.length_map,List.length_cons,List.length_nil,List.length_take];omega)
    | (simp [allP,opd,Fr.get];done)
    | (refine st_end ?_ ?_ ?_ ?_
       · simp [y1,y2,y3,y4,y5,y6,y7,y8,x1,x2,x3,x4,x5,x6,x7,x8,x9,x10,x11,x12,w1,w2,w3,w4,w5,RulD.av,bkN,bkS,BktD.row]
       · simp [y1,y2,y3,y4,y5,y6,y7,y8,x1,x2,x3,x4,x5,x6,x7,x8,x9,x10,x11,x12,w1,w2,w3,w4,w5,RulD.av,bkN,bkS,BktD.row]
       · simp [y1,y2,y3,y4,y5,y6,y7,y8,x1,x2,x3,x4,x5,x6,x7,x8,x9,x10,x11,x12,w1,w2,w3,w4,w5,RulD.av,bkN,bkS,BktD.row]
       · intro x z1 z2 z3;by_cases z4:x = p<;>simp [z1,z2,z3,z4,hid4,a4,x5,x6,x9,x10,x11,x12];done)
theorem stepVer (B:Nat) (σ:Sto) (n m q p:Nat) (c0 c1 c2 c4 c5 c6:AV) (l:List VerD) (b:List UInt8) (e:Int) (hA:At4 B σ n m q p (rdO b e) (.arr 12 51 (l.map VerD.row)) (.box [c0,c1,c2,.os m l.length,c4,c5,c6]) (.box [.lp n 0])) (o0:old B m c0) (o1:old B m c1) (o2:old B m c2) (o4:old B m c4) (o5:old B m c5) (o6:old B m c6) (hl:l.length ≤ 255) :
    ACalls Try.prog 34 [.lp q 0,.lp p 0] σ B [m] (fun v σ'=>v = .tup [] ∧ σ' = sto [(n,rdO (verS (b,e)).1 (verS (b,e)).2),(m,.arr 12 51 ((l ++ [verN (b,e)]).map VerD.row)),(q,.box [c0,c1,c2,.os m (l.length + 1),c4,c5,c6])] σ):=by
  refine own_ofL [(n,rdO b e),(m,.arr 12 51 (l.map VerD.row)),(q,.box [c0,c1,c2,.os m l.length,c4,c5,c6]),(p,.box [.lp n 0])] (hid4_sto hA.a1 hA.a2 hA.a3 hA.a4) hid4_closed follows Try.func34 c34_eq r34 (Nat.le_of_ble_eq_true rfl) fun hcl hsz=>?_
  clear hsz
  obtain ⟨hn,hm,hq,hp,nm,nq,np,mq,mp,qp,a1,a2,a3,a4,free⟩:=hA
  have y1:∀ s,(n = B + s) = False:=fun s=>by simp;omega
  have y2:∀ s,(B + s = n) = False:=fun s=>by simp;omega
  have y3:∀ s,(m = B + s) = False:=fun s=>by simp;omega
  have y4:∀ s,(B + s = m) = False:=fun s=>by simp;omega
  have y5:∀ s,(q = B + s) = False:=fun s=>by simp;omega
  have y6:∀ s,(B + s = q) = False:=fun s=>by simp;omega
  have y7:∀ s,(p = B + s) = False:=fun s=>by simp;omega
  have y8:∀ s,(B + s = p) = False:=fun s=>by simp;omega
  have x1:(n = m) = False:=eq_false nm
  have x2:(m = n) = False:=eq_false nm.symm
  have x3:(n = q) = False:=eq_false nq
  have x4:(q = n) = False:=eq_false nq.symm
  have x5:(n = p) = False:=eq_false np
  have x6:(p = n) = False:=eq_false np.symm
  have x7:(m = q) = False:=eq_false mq
  have x8:(q = m) = False:=eq_false mq.symm
  have x9:(m = p) = False:=eq_false mp
  have x10:(p = m) = False:=eq_false mp.symm
  have x11:(q = p) = False:=eq_false qp
  have x12:(p = q) = False:=eq_false qp.symm
  have w1:(n < B) = True:=eq_true hn
  have w2:(m < B) = True:=eq_true hm
  have w3:(q < B) = True:=eq_true hq
  have w4:(p < B) = True:=eq_true hp
  have v1:decide (n < B + 100000) = true:=by simp;omega
  have v2:decide (m < B + 100000) = true:=by simp;omega
  have v3:decide (q < B + 100000) = true:=by simp;omega
  have v4:decide (p < B + 100000) = true:=by simp;omega
  have w5:(B ≤ m) = False:=eq_false (by omega)
  have hr3:=hid4_kill (n:=n) (m:=m) (q:=q) (p:=p) free
  have hr1:hid4 n m q p σ m = .dead:=by simp [hid4,x2]
  have k0:=old_kill o0
  have kB0:=old_killB o0
  have kA0:=old_all o0 (C:=B + 100000) (by omega)
  have k1:=old_kill o1
  have kB1:=old_killB o1
  have kA1:=old_all o1 (C:=B + 100000) (by omega)
  have k2:=old_kill o2
  have kB2:=old_killB o2
  have kA2:=old_all o2 (C:=B + 100000) (by omega)
  have k4:=old_kill o4
  have kB4:=old_killB o4
  have kA4:=old_all o4 (C:=B + 100000) (by omega)
  have k5:=old_kill o5
  have kB5:=old_killB o5
  have kA5:=old_all o5 (C:=B + 100000) (by omega)
  have k6:=old_kill o6
  have kB6:=old_killB o6
  have kA6:=old_all o6 (C:=B + 100000) (by omega)
  clear a1 a2 a3
  repeat' (first | (simp -implicitDefEqProofs only [*,Nat.reduceBEq,↓reduceIte,Nat.reduceEqDiff,Nat.reduceAdd,reduceCtorEq,Int.reduceLT,Int.reduceToNat,List.getElem?_nil,Nat.reduceMul,Nat.reducePow,Nat.reduceLeDiff,rowOf_mapD,rowOf_mapI,rowOf_mapA,List.getElem?_cons_zero,List.getElem?_cons_succ,take_map_len,take_map_app,List.getElem?_cons_zero,c34,r34,ty28,ty23,ty71,ty51,kvD,kvO,kvL,kvP,kvG,kvT,kvC,kvE,kvY,aokB,aokD,aokA,↓rdO_allN,↓rdO_kill,y1,y2,y3,y4,y5,y6,y7,y8,x1,x2,x3,x4,x5,x6,x7,x8,x9,x10,x11,x12,w1,w2,w3,w4,w5,kB0,kB1,kB2,kB4,kB5,kB6,prEta,verV,VerD.row,ints,mvcgen_simp]) | (with_reducible refine And.intro ?_ ?_) | (refine call_r0 (d:=some 5) (by omega) e35 ( ver_R) rfl ?_ ?_ ?_ ?_ ?_ ?_) | (refine call_r1 (d:=some 5) (by omega) e35 ( ver_R) rfl ?_ ?_ ?_ ?_ ?_ ?_) | (refine call_r2 (d:=some 5) (by omega) e35 ( ver_R) rfl ?_ ?_ ?_ ?_ ?_ ?_) | (refine EndX.plain ?_) | (refine nil_split (fun hn=>?_) (fun hn=>?_)) | (refine gcall_no not_false ?_) | (refine gdcall_no not_false ?_) | (refine GuardS_of _ _ _ _ _ _ (fun hg=>?_) (fun hg=>?_)) | (refine GuardD_of _ _ _ _ (fun hg=>?_) (fun hg=>?_)) | (refine CondB_of _ _ _ _ _ _ _ ?_ (fun hg=>?_) (fun hg=>?_)))
  all_goals first
    | (unfold Fr.below;simp [Fr.allN,AV.allN,AV.allNL,v1,v2,v3,v4];done)
    | (unfold Loc.below;simp only [List.all_cons,List.all_nil,rdO_allN,v1,v2,v3,v4];simp [AO.allN,AV.allN,AV.allNL,v1,v2,v3,v4,kA0,kA1,kA2,kA4,kA5,kA6];done)
    | (intro z hz;simp only [List.mem_cons,List.not_mem_nil,or_false] at hz;rcases hz with rfl | rfl | rfl | rfl<;>simp [y1,y2,y3,y4,y5,y6,y7,y8,x1,x2,x3,x4,x5,x6,x7,x8,x9,x10,x11,x12,w1,w2,w3,w4,w5];done)
    | (intro z hz;simp only [List.mem_cons,List.not_mem_nil,or_false] at hz;rcases hz with rfl | rfl | rfl<;>simp [y1,y2,y3,y4,y5,y6,y7,y8,x1,x2,x3,x4,x5,x6,x7,x8,x9,x10,x11,x12,w1,w2,w3,w4,w5];done)
    | exact .inl (by decide)
    | exact .inr ⟨by simp,hr3⟩
    | trivial
    | omega
    | (simp only [List.length_append,List.length_map,List.length_cons,List.length_nil,List.length_take];omega)
    | (simp [allP,opd,Fr.get];done)
    | (refine st_end ?_ ?_ ?_ ?_
       · simp [y1,y2,y3,y4,y5,y6,y7,y8,x1,x2,x3,x4,x5,x6,x7,x8,x9,x10,x11,x12,w1,w2,w3,w4,w5,verV,VerD.row,ints]
       · simp [y1,y2,y3,y4,y5,y6,y7,y8,x1,x2,x3,x4,x5,x6,x7,x8,x9,x10,x11,x12,w1,w2,w3,w4,w5,verV,VerD.row,ints]
       · simp [y1,y2,y3,y4,y5,y6,y7,y8,x1,x2,x3,x4,x5,x6,x7,x8,x9,x10,x11,x12,w1,w2,w3,w4,w5,verV,VerD.row,ints]
       · intro x z1 z2 z3;by_cases z4:x = p<;>simp [z1,z2,z3,z4,hid4,a4,x5,x6,x9,x10,x11,x12];done)
theorem stepPt (B:Nat) (σ:Sto) (n m q p:Nat) (c0 c1 c2:AV) (l:List PartD) (b:List UInt8) (e:Int) (hA:At4 B σ n m q p (rdO b e) (.arr 3 57 (l.map PartD.row)) (.box [c0,c1,c2,.os m l.length]) (.box [.lp n 0])) (o0:old B m c0) (o1:old B m c1) (o2:old B m c2) (hl:l.length ≤ 255) :
    ACalls Try.prog 37 [.lp q 0,.lp p 0] σ B [m] (fun v σ'=>v = .tup [] ∧ σ' = sto [(n,rdO (partS (b,e)).1 (partS (b,e)).2),(m,.arr 3 57 ((l ++ [partN (b,e)]).map PartD.row)),(q,.box [c0,c1,c2,.os m (l.length + 1)])] σ):=by
  refine own_ofL [(n,rdO b e),(m,.arr 3 57 (l.map PartD.row)),(q,.box [c0,c1,c2,.os m l.length]),(p,.box [.lp n 0])] (hid4_sto hA.a1 hA.a2 hA.a3 hA.a4) hid4_closed follows Try.func37 c37_eq r37 (Nat.le_of_ble_eq_true rfl) fun hcl hsz=>?_
  clear hsz
  obtain ⟨hn,hm,hq,hp,nm,nq,np,mq,mp,qp,a1,a2,a3,a4,free⟩:=hA
  have y1:∀ s,(n = B + s) = False:=fun s=>by simp;omega
  have y2:∀ s,(B + s = n) = False:=fun s=>by simp;omega
  have y3:∀ s,(m = B + s) = False:=fun s=>by simp;omega
  have y4:∀ s,(B + s = m) = False:=fun s=>by simp;omega
  have y5:∀ s,(q = B + s) = False:=fun s=>by simp;omega
  have y6:∀ s,(B + s = q) = False:=fun s=>by simp;omega
  have y7:∀ s,(p = B + s) = False:=fun s=>by simp;omega
  have y8:∀ s,(B + s = p) = False:=fun s=>by simp;omega
  have x1:(n = m) = False:=eq_false nm
  have x2:(m = n) = False:=eq_false nm.symm
  have x3:(n = q) = False:=eq_false nq
  have x4:(q = n) = False:=eq_false nq.symm
  have x5:(n = p) = False:=eq_false np
  have x6:(p = n) = False:=eq_false np.symm
  have x7:(m = q) = False:=eq_false mq
  have x8:(q = m) = False:=eq_false mq.symm
  have x9:(m = p) = False:=eq_false mp
  have x10:(p = m) = False:=eq_false mp.symm
  have x11:(q = p) = False:=eq_false qp
  have x12:(p = q) = False:=eq_false qp.symm
  have w1:(n < B) = True:=eq_true hn
  have w2:(m < B) = True:=eq_true hm
  have w3:(q < B) = True:=eq_true hq
  have w4:(p < B) = True:=eq_true hp
  have v1:decide (n < B + 100000) = true:=by simp;omega
  have v2:decide (m < B + 100000) = true:=by simp;omega
  have v3:decide (q < B + 100000) = true:=by simp;omega
  have v4:decide (p < B + 100000) = true:=by simp;omega
  have w5:(B ≤ m) = False:=eq_false (by omega)
  have hr3:=hid4_kill (n:=n) (m:=m) (q:=q) (p:=p) free
  have hr1:hid4 n m q p σ m = .dead:=by simp [hid4,x2]
  have k0:=old_kill o0
  have kB0:=old_killB o0
  have kA0:=old_all o0 (C:=B + 100000) (by omega)
  have k1:=old_kill o1
  have kB1:=old_killB o1
  have kA1:=old_all o1 (C:=B + 100000) (by omega)
  have k2:=old_kill o2
  have kB2:=old_killB o2
  have kA2:=old_all o2 (C:=B + 100000) (by omega)
  clear a1 a2 a3
  repeat' (first | (simp -implicitDefEqProofs only [*,Nat.reduceBEq,↓reduceIte,Nat.reduceEqDiff,Nat.reduceAdd,reduceCtorEq,Int.reduceLT,Int.reduceToNat,List.getElem?_nil,Nat.reduceMul,Nat.reducePow,Nat.reduceLeDiff,rowOf_mapD,rowOf_mapI,rowOf_mapA,List.getElem?_cons_zero,List.getElem?_cons_succ,take_map_len,take_map_app,List.getElem?_cons_zero,c37,r37,ty55,ty53,ty71,ty57,kvD,kvO,kvL,kvP,kvG,kvT,kvC,kvE,kvY,aokB,aokD,aokA,↓rdO_allN,↓rdO_kill,y1,y2,y3,y4,y5,y6,y7,y8,x1,x2,x3,x4,x5,x6,x7,x8,x9,x10,x11,x12,w1,w2,w3,w4,w5,kB0,kB1,kB2,prEta,partV,PartD.row,ints,mvcgen_simp]) | (with_reducible refine And.intro ?_ ?_) | (refine call_r0 (d:=some 5) (by omega) e38 ( part_R) rfl ?_ ?_ ?_ ?_ ?_ ?_) | (refine call_r1 (d:=some 5) (by omega) e38 ( part_R) rfl ?_ ?_ ?_ ?_ ?_ ?_) | (refine call_r2 (d:=some 5) (by omega) e38 ( part_R) rfl ?_ ?_ ?_ ?_ ?_ ?_) | (refine EndX.plain ?_) | (refine nil_split (fun hn=>?_) (fun hn=>?_)) | (refine gcall_no not_false ?_) | (refine gdcall_no not_false ?_) | (refine GuardS_of _ _ _ _ _ _ (fun hg=>?_) (fun hg=>?_)) | (refine GuardD_of _ _ _ _ (fun hg=>?_) (fun hg=>?_)) | (refine CondB_of _ _ _ _ _ _ _ ?_ (fun hg=>?_) (fun hg=>?_)))
  all_goals first
    | (unfold Fr.below;simp [Fr.allN,AV.allN,AV.allNL,v1,v2,v3,v4];done)
    | (unfold Loc.below;simp only [List.all_cons,List.all_nil,rdO_allN,v1,v2,v3,v4];simp [AO.allN,AV.allN,AV.allNL,v1,v2,v3,v4,kA0,kA1,kA2];done)
    | (intro z hz;simp only [List.mem_cons,List.not_mem_nil,or_false] at hz;rcases hz with rfl | rfl | rfl | rfl<;>simp [y1,y2,y3,y4,y5,y6,y7,y8,x1,x2,x3,x4,x5,x6,x7,x8,x9,x10,x11,x12,w1,w2,w3,w4,w5];done)
    | (intro z hz;simp only [List.mem_cons,List.not_mem_nil,or_false] at hz;rcases hz with rfl | rfl | rfl<;>simp [y1,y2,y3,y4,y5,y6,y7,y8,x1,x2,x3,x4,x5,x6,x7,x8,x9,x10,x11,x12,w1,w2,w3,w4,w5];done)
    | exact .inl (by decide)
    | exact .inr ⟨by simp,hr3⟩
    | trivial
    | omega
    | (simp only [List.length_append,List.length_map,List.length_cons,List.length_nil,List.length_take];omega)
    | (simp [allP,opd,Fr.get];done)
    | (refine st_end ?_ ?_ ?_ ?_
       · simp [y1,y2,y3,y4,y5,y6,y7,y8,x1,x2,x3,x4,x5,x6,x7,x8,x9,x10,x11,x12,w1,w2,w3,w4,w5,partV,PartD.row,ints]
       · simp [y1,y2,y3,y4,y5,y6,y7,y8,x1,x2,x3,x4,x5,x6,x7,x8,x9,x10,x11,x12,w1,w2,w3,w4,w5,partV,PartD.row,ints]
       · simp [y1,y2,y3,y4,y5,y6,y7,y8,x1,x2,x3,x4,x5,x6,x7,x8,x9,x10,x11,x12,w1,w2,w3,w4,w5,partV,PartD.row,ints]
       · intro x z1 z2 z3;by_cases z4:x = p<;>simp [z1,z2,z3,z4,hid4,a4,x5,x6,x9,x10,x11,x12];done)
theorem stepAsk (B:Nat) (σ:Sto) (n m q p:Nat) (c0 c1 c2 c3 c4 c6:AV) (l:List AskD) (b:List UInt8) (e:Int) (hA:At4 B σ n m q p (rdO b e) (.arr 3 60 (l.map AskD.row)) (.box [c0,c1,c2,c3,c4,.os m l.length,c6]) (.box [.lp n 0])) (o0:old B m c0) (o1:old B m c1) (o2:old B m c2) (o3:old B m c3) (o4:old B m c4) (o6:old B m c6) (hl:l.length ≤ 255) :
    ACalls Try.prog 39 [.lp q 0,.lp p 0] σ B [m] (fun v σ'=>v = .tup [] ∧ σ' = sto [(n,rdO (askS (b,e)).1 (askS (b,e)).2),(m,.arr 3 60 ((l ++ [askN (b,e)]).map AskD.row)),(q,.box [c0,c1,c2,c3,c4,.os m (l.length + 1),c6])] σ):=by
  refine own_ofL [(n,rdO b e),(m,.arr 3 60 (l.map AskD.row)),(q,.box [c0,c1,c2,c3,c4,.os m l.length,c6]),(p,.box [.lp n 0])] (hid4_sto hA.a1 hA.a2 hA.a3 hA.a4) hid4_closed follows Try.func39 c39_eq r39 (Nat.le_of_ble_eq_true rfl) fun hcl hsz=>?_
  clear hsz
  obtain ⟨hn,hm,hq,hp,nm,nq,np,mq,mp,qp,a1,a2,a3,a4,free⟩:=hA
  have y1:∀ s,(n = B + s) = False:=fun s=>by simp;omega
  have y2:∀ s,(B + s = n) = False:=fun s=>by simp;omega
  have y3:∀ s,(m = B + s) = False:=fun s=>by simp;omega
  have y4:∀ s,(B + s = m) = False:=fun s=>by simp;omega
  have y5:∀ s,(q = B + s) = False:=fun s=>by simp;omega
  have y6:∀ s,(B + s = q) = False:=fun s=>by simp;omega
  have y7:∀ s,(p = B + s) = False:=fun s=>by simp;omega
  have y8:∀ s,(B + s = p) = False:=fun s=>by simp;omega
  have x1:(n = m) = False:=eq_false nm
  have x2:(m = n) = False:=eq_false nm.symm
  have x3:(n = q) = False:=eq_false nq
  have x4:(q = n) = False:=eq_false nq.symm
  have x5:(n = p) = False:=eq_false np
  have x6:(p = n) = False:=eq_false np.symm
  have x7:(m = q) = False:=eq_false mq
  have x8:(q = m) = False:=eq_false mq.symm
  have x9:(m = p) = False:=eq_false mp
  have x10:(p = m) = False:=eq_false mp.symm
  have x11:(q = p) = False:=eq_false qp
  have x12:(p = q) = False:=eq_false qp.symm
  have w1:(n < B) = True:=eq_true hn
  have w2:(m < B) = True:=eq_true hm
  have w3:(q < B) = True:=eq_true hq
  have w4:(p < B) = True:=eq_true hp
  have v1:decide (n < B + 100000) = true:=by simp;omega
  have v2:decide (m < B + 100000) = true:=by simp;omega
  have v3:decide (q < B + 100000) = true:=by simp;omega
  have v4:decide (p < B + 100000) = true:=by simp;omega
  have w5:(B ≤ m) = False:=eq_false (by omega)
  have hr3:=hid4_kill (n:=n) (m:=m) (q:=q) (p:=p) free
  have hr1:hid4 n m q p σ m = .dead:=by simp [hid4,x2]
  have k0:=old_kill o0
  have kB0:=old_killB o0
  have kA0:=old_all o0 (C:=B + 100000) (by omega)
  have k1:=old_kill o1
  have kB1:=old_killB o1
  have kA1:=old_all o1 (C:=B + 100000) (by omega)
  have k2:=old_kill o2
  have kB2:=old_killB o2
  have kA2:=old_all o2 (C:=B + 100000) (by omega)
  have k3:=old_kill o3
  have kB3:=old_killB o3
  have kA3:=old_all o3 (C:=B + 100000) (by omega)
  have k4:=old_kill o4
  have kB4:=old_killB o4
  have kA4:=old_all o4 (C:=B + 100000) (by omega)
  have k6:=old_kill o6
  have kB6:=old_killB o6
  have kA6:=old_all o6 (C:=B + 100000) (by omega)
  clear a1 a2 a3
  repeat' (first | (simp -implicitDefEqProofs only [*,Nat.reduceBEq,↓reduceIte,Nat.reduceEqDiff,Nat.reduceAdd,reduceCtorEq,Int.reduceLT,Int.reduceToNat,List.getElem?_nil,Nat.reduceMul,Nat.reducePow,Nat.reduceLeDiff,rowOf_mapD,rowOf_mapI,rowOf_mapA,List.getElem?_cons_zero,List.getElem?_cons_succ,take_map_len,take_map_app,List.getElem?_cons_zero,c39,r39,ty28,ty25,ty71,ty60,kvD,kvO,kvL,kvP,kvG,kvT,kvC,kvE,kvY,aokB,aokD,aokA,↓rdO_allN,↓rdO_kill,y1,y2,y3,y4,y5,y6,y7,y8,x1,x2,x3,x4,x5,x6,x7,x8,x9,x10,x11,x12,w1,w2,w3,w4,w5,kB0,kB1,kB2,kB3,kB4,kB6,prEta,askV,AskD.row,mvcgen_simp]) | (with_reducible refine And.intro ?_ ?_) | (refine call_r0 (d:=some 5) (by omega) e40 ( ask_R) rfl ?_ ?_ ?_ ?_ ?_ ?_) | (refine call_r1 (d:=some 5) (by omega) e40 ( ask_R) rfl ?_ ?_ ?_ ?_ ?_ ?_) | (refine call_r2 (d:=some 5) (by omega) e40 ( ask_R) rfl ?_ ?_ ?_ ?_ ?_ ?_) | (refine EndX.plain ?_) | (refine nil_split (fun hn=>?_) (fun hn=>?_)) | (refine gcall_no not_false ?_) | (refine gdcall_no not_false ?_) | (refine GuardS_of _ _ _ _ _ _ (fun hg=>?_) (fun hg=>?_)) | (refine GuardD_of _ _ _ _ (fun hg=>?_) (fun hg=>?_)) | (refine CondB_of _ _ _ _ _ _ _ ?_ (fun hg=>?_) (fun hg=>?_)))
  all_goals first
    | (unfold Fr.below;simp [Fr.allN,AV.allN,AV.allNL,v1,v2,v3,v4];done)
    | (unfold Loc.below;simp only [List.all_cons,List.all_nil,rdO_allN,v1,v2,v3,v4];simp [AO.allN,AV.allN,AV.allNL,v1,v2,v3,v4,kA0,kA1,kA2,kA3,kA4,kA6];done)
    | (intro z hz;simp only [List.mem_cons,List.not_mem_nil,or_false] at hz;rcases hz with rfl | rfl | rfl | rfl<;>simp [y1,y2,y3,y4,y5,y6,y7,y8,x1,x2,x3,x4,x5,x6,x7,x8,x9,x10,x11,x12,w1,w2,w3,w4,w5];done)
    | (intro z hz;simp only [List.mem_cons,List.not_mem_nil,or_false] at hz;rcases hz with rfl | rfl | rfl<;>simp [y1,y2,y3,y4,y5,y6,y7,y8,x1,x2,x3,x4,x5,x6,x7,x8,x9,x10,x11,x12,w1,w2,w3,w4,w5];done)
    | exact .inl (by decide)
    | exact .inr ⟨by simp,hr3⟩
    | trivial
    | omega
    | (simp only [List.length_append,List.length_map,List.length_cons,List.length_nil,List.length_take];omega)
    | (simp [allP,opd,Fr.get];done)
    | (refine st_end ?_ ?_ ?_ ?_
       · simp [y1,y2,y3,y4,y5,y6,y7,y8,x1,x2,x3,x4,x5,x6,x7,x8,x9,x10,x11,x12,w1,w2,w3,w4,w5,askV,AskD.row]
       · simp [y1,y2,y3,y4,y5,y6,y7,y8,x1,x2,x3,x4,x5,x6,x7,x8,x9,x10,x11,x12,w1,w2,w3,w4,w5,askV,AskD.row]
       · simp [y1,y2,y3,y4,y5,y6,y7,y8,x1,x2,x3,x4,x5,x6,x7,x8,x9,x10,x11,x12,w1,w2,w3,w4,w5,askV,AskD.row]
       · intro x z1 z2 z3;by_cases z4:x = p<;>simp [z1,z2,z3,z4,hid4,a4,x5,x6,x9,x10,x11,x12];done)
end Go.Proofs.Ytijpmidnclbhpaa
