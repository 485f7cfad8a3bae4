/- code.DecodeState. -/
import Derived.Test.YtijpmidnclbhpaaKM4
import Derived.Test.YtijpmidnclbhpaaKM5
import Derived.Test.YtijpmidnclbhpaaBytes
import Derived.Test.YtijpmidnclbhpaaTypes
namespace Go.Proofs.Ytijpmidnclbhpaa
open Go.RowKit
set_option maxRecDepth 100000
def o42_1:List SO:=((SO.mk (some 15) (.pick (.tmp 8) (.tmp 14) (.const (Value.bool false))) none) :: [])
theorem v42_1:type_of% (@swl _ _ o42_1.eq_1):=@swl _ _ o42_1.eq_1
def o42_2:List SO:=((SO.mk (some 11) (.faddr 73 (.tmp 10) 0) (some (8 ,true))) :: (SO.mk (some 12) (.load 29 (.tmp 11)) (some (8 ,true))) :: (SO.mk (some 13) (.len 29 (.tmp 12)) (some (8 ,true))) :: (SO.mk (some 14) (.bin .gtr 3 (.tmp 13) (.const (Value.int .i64 0))) (some (8 ,true))) :: o42_1)
theorem v42_2:type_of% (@swl _ _ o42_2.eq_1):=@swl _ _ o42_2.eq_1
def o42_3:List SO:=((SO.mk (some 7) (.bin .eql 30 (.tmp 6) (.const (Value.int .i64 0))) none) :: (SO.mk (some 8) (.move (.tmp 7)) none) :: (SO.mk (some 9) (.move (.tmp 0)) (some (8 ,true))) :: (SO.mk (some 10) (.nilCheck (.tmp 9)) (some (8 ,true))) :: o42_2)
theorem v42_3:type_of% (@swl _ _ o42_3.eq_1):=@swl _ _ o42_3.eq_1
def c42_4:SC:=(.reg [SO.mk (some 16) (.move (.tmp 0)) none,SO.mk (some 17) (.nilCheck (.tmp 16)) none,SO.mk (some 18) (.faddr 73 (.tmp 17) 1) none,SO.mk none (.store 30 (.tmp 18) (.const (Value.int .i64 4))) none])
theorem u42_4:type_of% (@swc _ _ c42_4.eq_1):=@swc _ _ c42_4.eq_1
def c42_5:SC:=(.cond (.tmp 15) c42_4 .skip)
theorem u42_5:type_of% (@swc _ _ c42_5.eq_1):=@swc _ _ c42_5.eq_1
def c42_6:SC:=(.seq (.reg [SO.mk (some 19) (.move (.tmp 0)) none,SO.mk (some 20) (.nilCheck (.tmp 19)) none,SO.mk (some 21) (.faddr 73 (.tmp 20) 1) none,SO.mk (some 22) (.load 30 (.tmp 21)) none,SO.mk (some 2) (.move (.tmp 22)) none]) (.keep [2] .ret))
theorem u42_6:type_of% (@swc _ _ c42_6.eq_1):=@swc _ _ c42_6.eq_1
def c42_7:SC:=(.seq (.seq (.reg ((SO.mk (some 3) (.move (.tmp 0)) none) :: (SO.mk (some 4) (.nilCheck (.tmp 3)) none) :: (SO.mk (some 5) (.faddr 73 (.tmp 4) 1) none) :: (SO.mk (some 6) (.load 30 (.tmp 5)) none) :: o42_3)) (.keep [15,0] c42_5)) (.keep [0] c42_6))
theorem u42_7:type_of% (@swc _ _ c42_7.eq_1):=@swc _ _ c42_7.eq_1
def c42:SC:=(.seq (.reg [SO.mk (some 2) (.move (.const (Value.int .i64 0))) none]) (.keep [0] c42_7))
theorem c42_eq:annC Try.f42 = some c42:=by kernel_rfl
theorem r42:Try.f42.results.toList = [.tmp 2]:=by kernel_rfl
theorem e42:enters Try.prog 42 = true:=by kernel_rfl
def o7_1:List SO:=((SO.mk (some 4) (.alloc 71) none) :: (SO.mk none (.store 71 (.tmp 4) (.tmp 10)) none) :: [])
theorem v7_1:type_of% (@swl _ _ o7_1.eq_1):=@swl _ _ o7_1.eq_1
def c7_2:SC:=(.reg [SO.mk (some 36) (.load 28 (.tmp 5)) none,SO.mk (some 37) (.call 11 [(.tmp 36)]) none,SO.mk (some 6) (.move (.tmp 37)) none])
theorem u7_2:type_of% (@swc _ _ c7_2.eq_1):=@swc _ _ c7_2.eq_1
def c7_3:SC:=(.cond (.tmp 35) c7_2 .skip)
theorem u7_3:type_of% (@swc _ _ c7_3.eq_1):=@swc _ _ c7_3.eq_1
def c7_4:SC:=(.seq (.reg [SO.mk (some 40) (.build 28 []) none,SO.mk (some 41) (.move (.tmp 6)) none,SO.mk none (.store 28 (.tmp 2) (.tmp 40)) none,SO.mk (some 3) (.move (.tmp 41)) none]) (.keep [2,3] .ret))
theorem u7_4:type_of% (@swc _ _ c7_4.eq_1):=@swc _ _ c7_4.eq_1
def c7_5:SC:=(.cond (.tmp 39) c7_4 .skip)
theorem u7_5:type_of% (@swc _ _ c7_5.eq_1):=@swc _ _ c7_5.eq_1
def c7_6:SC:=(.seq (.reg [SO.mk (some 42) (.load 28 (.tmp 5)) none,SO.mk none (.store 28 (.tmp 2) (.tmp 42)) none,SO.mk (some 3) (.move (.const (Value.int .i64 0))) none]) (.keep [2,3] .ret))
theorem u7_6:type_of% (@swc _ _ c7_6.eq_1):=@swc _ _ c7_6.eq_1
def c7_7:SC:=(.seq (.seq (.reg [SO.mk (some 38) (.move (.tmp 6)) none,SO.mk (some 39) (.bin .neq 30 (.tmp 38) (.const (Value.int .i64 0))) none]) (.keep [39,6,5,2] c7_5)) (.keep [5,2] c7_6))
theorem u7_7:type_of% (@swc _ _ c7_7.eq_1):=@swc _ _ c7_7.eq_1
def c7_8:SC:=(.seq (.seq (.reg [SO.mk (some 34) (.move (.tmp 6)) none,SO.mk (some 35) (.bin .eql 30 (.tmp 34) (.const (Value.int .i64 0))) none]) (.keep [35,6,5,2] c7_3)) (.keep [6,5,2] c7_7))
theorem u7_8:type_of% (@swc _ _ c7_8.eq_1):=@swc _ _ c7_8.eq_1
def c7_9:SC:=(.seq (.reg [SO.mk (some 32) (.load 71 (.tmp 4)) none,SO.mk (some 33) (.call 42 [(.tmp 32)]) none,SO.mk (some 6) (.move (.tmp 33)) none]) (.keep [6,5,2] c7_8))
theorem u7_9:type_of% (@swc _ _ c7_9.eq_1):=@swc _ _ c7_9.eq_1
def c7_10:SC:=(.seq (.reg [SO.mk (some 29) (.load 71 (.tmp 4)) none,SO.mk (some 30) (.call 41 [(.tmp 29)]) none,SO.mk (some 31) (.faddr 28 (.tmp 5) 6) none,SO.mk none (.store 26 (.tmp 31) (.tmp 30)) none]) (.keep [4,5,2] c7_9))
theorem u7_10:type_of% (@swc _ _ c7_10.eq_1):=@swc _ _ c7_10.eq_1
def c7_11:SC:=(.seq (.reg [SO.mk (some 26) (.load 71 (.tmp 4)) none,SO.mk (some 27) (.mkfn (.func 39) [] [(.tmp 5),(.tmp 4)]) none,SO.mk (some 28) (.call 30 [(.tmp 26),(.tmp 27)]) none]) (.keep [4,5,2] c7_10))
theorem u7_11:type_of% (@swc _ _ c7_11.eq_1):=@swc _ _ c7_11.eq_1
def c7_12:SC:=(.seq (.reg [SO.mk (some 23) (.load 71 (.tmp 4)) none,SO.mk (some 24) (.mkfn (.func 36) [] [(.tmp 4),(.tmp 5)]) none,SO.mk (some 25) (.call 30 [(.tmp 23),(.tmp 24)]) none]) (.keep [4,5,2] c7_11))
theorem u7_12:type_of% (@swc _ _ c7_12.eq_1):=@swc _ _ c7_12.eq_1
def c7_13:SC:=(.seq (.reg [SO.mk (some 20) (.load 71 (.tmp 4)) none,SO.mk (some 21) (.mkfn (.func 34) [] [(.tmp 5),(.tmp 4)]) none,SO.mk (some 22) (.call 30 [(.tmp 20),(.tmp 21)]) none]) (.keep [4,5,2] c7_12))
theorem u7_13:type_of% (@swc _ _ c7_13.eq_1):=@swc _ _ c7_13.eq_1
def c7_14:SC:=(.seq (.reg [SO.mk (some 17) (.load 71 (.tmp 4)) none,SO.mk (some 18) (.mkfn (.func 31) [] [(.tmp 4),(.tmp 5)]) none,SO.mk (some 19) (.call 30 [(.tmp 17),(.tmp 18)]) none]) (.keep [4,5,2] c7_13))
theorem u7_14:type_of% (@swc _ _ c7_14.eq_1):=@swc _ _ c7_14.eq_1
def c7_15:SC:=(.seq (.reg [SO.mk (some 14) (.load 71 (.tmp 4)) none,SO.mk (some 15) (.call 29 [(.tmp 14),(.const (Value.int .i64 4))]) none,SO.mk (some 16) (.faddr 28 (.tmp 5) 1) none,SO.mk none (.store 3 (.tmp 16) (.tmp 15)) none]) (.keep [4,5,2] c7_14))
theorem u7_15:type_of% (@swc _ _ c7_15.eq_1):=@swc _ _ c7_15.eq_1
def c7_16:SC:=(.seq (.reg [SO.mk (some 11) (.load 71 (.tmp 4)) none,SO.mk (some 12) (.call 29 [(.tmp 11),(.const (Value.int .i64 3))]) none,SO.mk (some 13) (.faddr 28 (.tmp 5) 0) none,SO.mk none (.store 3 (.tmp 13) (.tmp 12)) none]) (.keep [4,5,2] c7_15))
theorem u7_16:type_of% (@swc _ _ c7_16.eq_1):=@swc _ _ c7_16.eq_1
def c7_17:SC:=(.seq (.reg [SO.mk (some 5) (.alloc 28) none]) (.keep [4,5,2] c7_16))
theorem u7_17:type_of% (@swc _ _ c7_17.eq_1):=@swc _ _ c7_17.eq_1
def c7_18:SC:=(.seq (.reg ((SO.mk (some 7) (.move (.tmp 0)) none) :: (SO.mk (some 8) (.call 28 [(.tmp 7)]) none) :: (SO.mk (some 9) (.build 73 [(0 ,(.tmp 8))]) none) :: (SO.mk (some 10) (.box 73 (.tmp 9)) none) :: o7_1)) (.keep [4,2] c7_17))
theorem u7_18:type_of% (@swc _ _ c7_18.eq_1):=@swc _ _ c7_18.eq_1
def c7:SC:=(.seq (.reg [SO.mk (some 2) (.alloc 28) none,SO.mk (some 3) (.move (.const (Value.int .i64 0))) none]) (.keep [0,2] c7_18))
theorem c7_eq:annC Try.f7 = some c7:=by kernel_rfl
theorem r7:Try.f7.results.toList = [.cell 2 28,.tmp 3]:=by kernel_rfl
theorem e7:enters Try.prog 7 = true:=by kernel_rfl
end Go.Proofs.Ytijpmidnclbhpaa
namespace Go.Proofs.Ytijpmidnclbhpaa
open Go.RowKit
set_option maxHeartbeats 4000000
set_option maxRecDepth 20000
attribute [local irreducible] SW OSW SWL SWLn SWD SEcall SEcallv SDv SE SO1 SOg ACalls ACallv Wk EndV
set_option linter.unusedSimpArgs false
set_option linter.unusedVariables false
set_option maxHeartbeats 8000000
attribute [local irreducible] takS textS bitS intsS takN textN bitN intsN ruleS ruleN askS askN partS partN verS verN bkN bkS upN upT mnSe mnLe
theorem sto_upQ {n u w:Nat} {a1 a2 a3 b1 b2 b3:AO} (Q rest:Loc) (r:Sto):sto [(n,a1),(u,a2),(w,a3)] (sto ((u,b2) :: (n,b1) :: (Q ++ (w,b3) :: rest)) r) = sto ((n,a1) :: (u,a2) :: (w,a3) :: (Q ++ rest)) r:=by
  have key:∀ x,x ≠ w → sto (Q ++ (w,b3) :: rest) r x = sto (Q ++ rest) r x:=fun x hx=>by
    induction Q with
    | nil=>simp only [List.nil_append,sto_cons];rw [if_neg hx]
    | cons z Q ih=>obtain ⟨z1,z2⟩:=z;simp only [List.cons_append,sto_cons];rw [ih]
  funext x
  by_cases h1:x = n
  · simp [sto,h1]
  · by_cases h2:x = u
    · simp [sto,h1,h2]
    · by_cases h3:x = w
      · simp [sto,h1,h2,h3]
      · simp only [sto_cons,if_neg h1,if_neg h2,if_neg h3,sto]
        exact key x h3
theorem fzD (m:Nat) (rows:List (List RV)) (r:RV):AV.fz1 m rows (.d r) = .d r:=rfl
theorem fzO (m:Nat) (rows:List (List RV)) (n len:Nat):AV.fz1 m rows (.os n len) = if n = m then (if len ≤ rows.length then .d (.ro (rows.take len)) else .any) else .os n len:=rfl
theorem fzL (m:Nat) (rows:List (List RV)) (n o:Nat):AV.fz1 m rows (.lp n o) = if n = m then .any else .lp n o:=rfl
theorem end_R:Reads Try.prog 42 [] (fun s=>I (endE s)) (fun s=>(s.1,endE s)) (fun s=>True):=by
  intro B σ n b e hn hσ hp
  refine own_ofL [(n,rdO b e)] (hid1_sto hσ) hid1_closed follows Try.func42 c42_eq r42 (Nat.le_of_ble_eq_true rfl) fun hcl hsz=>?_
  clear hsz
  have y1:∀ s,(n = B + s) = False:=fun s=>by simp;omega
  have y2:∀ s,(B + s = n) = False:=fun s=>by simp;omega
  have y3:(n < B) = True:=eq_true hn
  have y4:decide (n < B) = true:=by simpa using hn
  have y5:decide (n < B + 100000) = true:=by simp;omega
  have hb1:endE (b,e) = bif e == 0 && decide ((b.length:Int) > 0) then 4 else e:=rfl
  clear hσ
  repeat' (first | (simp -implicitDefEqProofs only [*,Nat.reduceBEq,↓reduceIte,Nat.reduceEqDiff,Nat.reduceAdd,reduceCtorEq,AV.kill,Int.reduceLT,Int.reduceToNat,List.getElem?_nil,Nat.reduceMul,Nat.reducePow,Nat.reduceLeDiff,rowOf_mapD,rowOf_mapI,rowOf_mapA,List.getElem?_cons_zero,List.getElem?_cons_succ,take_map_len,take_map_app,List.getElem?_cons_zero,c42,r42,v42_1,v42_2,v42_3,u42_4,u42_5,u42_6,u42_7,ty73,ty30,ty29,ty3,ty5,aokB,aokD,aokA,↓rdO_allN,↓rdO_kill,y1,y2,y3,y4,y5,rdO,prEta,mvcgen_simp]) | (with_reducible refine And.intro ?_ ?_) | (refine EndX.plain ?_) | (refine nil_split (fun hn=>?_) (fun hn=>?_)) | (refine gcall_no not_false ?_) | (refine gdcall_no not_false ?_) | (refine GuardS_of _ _ _ _ _ _ (fun hg=>?_) (fun hg=>?_)) | (refine GuardD_of _ _ _ _ (fun hg=>?_) (fun hg=>?_)) | (refine CondB_of _ _ _ _ _ _ _ ?_ (fun hg=>?_) (fun hg=>?_)))
  all_goals first
    | (intro p hp;cases hp;done)
    | (exact .inl (by decide))
    | trivial
    | (unfold Fr.below;simp [Fr.allN,AV.allN,AV.allNL,y5];done)
    | (unfold Loc.below;simp only [List.all_cons,List.all_nil,rdO_allN,y5];simp [AO.allN,AV.allN,AV.allNL];done)
    | (refine rd_end ?_ ?_
       · simp [List.map_cons]
       · intro x z1;simp [z1,hid1])
theorem decSt_p (b:List UInt8):Pure Try.prog 7 [.d (bytes b)] (rdV b):=by
  refine pureY_of follows Try.func7 c7_eq r7 (Nat.le_of_ble_eq_true rfl) fun B σ hcl hsz=>?_
  clear hsz
  have hc:=check9_p (stN b) (stN_wf b)
  have hrk:∀ k x,(σ x).kill (B + k) = σ x:=fun k x=>AO.kill_below (q:=fun m=>decide (m < B)) (by simp) _ (hcl x).1
  have hf:AO.box [.d (.ro (b.map by_)),I 0] = rdO b 0:=rfl
  repeat' (first | (simp -implicitDefEqProofs only [*,Nat.reduceBEq,↓reduceIte,Nat.reduceEqDiff,Nat.reduceAdd,reduceCtorEq,Int.reduceLT,Int.reduceToNat,List.getElem?_nil,Nat.reduceMul,Nat.reducePow,Nat.reduceLeDiff,rowOf_mapD,rowOf_mapI,rowOf_mapA,List.getElem?_cons_zero,List.getElem?_cons_succ,take_map_len,take_map_app,List.getElem?_cons_zero,c7,r7,v7_1,u7_2,u7_3,u7_4,u7_5,u7_6,u7_7,u7_8,u7_9,u7_10,u7_11,u7_12,u7_13,u7_14,u7_15,u7_16,u7_17,u7_18,ty28,ty73,ty71,ty3,ty26,ty30,kvD,kvO,kvL,kvP,kvG,kvT,kvC,kvE,kvY,aokB,aokD,aokA,↓rdO_allN,↓rdO_kill,bytes,prEta,mvcgen_simp]) | (with_reducible refine And.intro ?_ ?_) | (refine call_ro e28 ( clone_p b) rfl ?_ ?_ ?_ ?_) | (refine gcall_ro e28 ( clone_p b) rfl ?_ ?_ ?_ ?_) | (refine dcall_ro e28 ( clone_p b) rfl ?_ ?_ ?_ ?_) | (refine gdcall_ro rfl e28 ( clone_p b) rfl ?_ ?_ ?_ ?_) | (refine call_r0 (d:=some 12) (by omega) e29 ( take_R 3) rfl ?_ ?_ ?_ ?_ ?_ ?_) | (refine call_r1 (d:=some 12) (by omega) e29 ( take_R 3) rfl ?_ ?_ ?_ ?_ ?_ ?_) | (refine call_r2 (d:=some 12) (by omega) e29 ( take_R 3) rfl ?_ ?_ ?_ ?_ ?_ ?_) | (refine call_r0 (d:=some 15) (by omega) e29 ( take_R 4) rfl ?_ ?_ ?_ ?_ ?_ ?_) | (refine call_r1 (d:=some 15) (by omega) e29 ( take_R 4) rfl ?_ ?_ ?_ ?_ ?_ ?_) | (refine call_r2 (d:=some 15) (by omega) e29 ( take_R 4) rfl ?_ ?_ ?_ ?_ ?_ ?_) | (refine EndX.plain ?_) | (refine nil_split (fun hn=>?_) (fun hn=>?_)) | (refine gcall_no not_false ?_) | (refine gdcall_no not_false ?_) | (refine GuardS_of _ _ _ _ _ _ (fun hg=>?_) (fun hg=>?_)) | (refine GuardD_of _ _ _ _ (fun hg=>?_) (fun hg=>?_)) | (refine CondB_of _ _ _ _ _ _ _ ?_ (fun hg=>?_) (fun hg=>?_)))
  all_goals (try clear hf)
  all_goals first
    | (unfold Fr.below;simp [Fr.allN,AV.allN,AV.allNL];done)
    | (unfold Loc.below;simp only [List.all_cons,List.all_nil,rdO_allN];simp [AO.allN,AV.allN,AV.allNL];done)
    | (intro z hz;simp only [List.mem_cons,List.not_mem_nil,or_false] at hz;rcases hz with rfl | rfl | rfl<;>simp;done)
    | (intro z hz;simp only [List.mem_cons,List.not_mem_nil,or_false] at hz;rcases hz with rfl | rfl<;>simp;done)
    | (intro z hz;cases hz;done)
    | exact .inl (by decide)
    | trivial
    | (simp [allP,opd,Fr.get];done)
    | skip
  any_goals (show SEcall _ _ _ _ _ _ _ _ _ _;refine SEcall_wkQ (d:=some 19) (Wk.nameB (b:=B + 5) (j:=2) (n:=B + 90001) (k:=5) (E:=47) (cs:=[I (takN (b,0) 3),I (takN (takS (b,0) 3) 4),.d (.v (.slice none 0 0)),.d (.v (.slice none 0 0)),.d (.v (.slice none 0 0)),.d (.v (.slice none 0 0)),.d (.v (.slice none 0 0))]) (by simp [sto]) rfl (by omega) (by omega) (.inl (by omega)) (hrk 90001)) ?_;simp only [newF,Fr.map,List.map_cons,List.map_nil,newL,Loc.kill,Loc.set,kvD,kvO,kvL,kvC,kvG,kvT,aokB,aokA,rdO_kill,List.filter_cons,List.filter_nil,Nat.add_left_cancel_iff,Nat.reduceEqDiff,if_true,if_false,ne_eq,not_false_eq_true,decide_true,ite_true,ite_false,List.set_cons_succ,List.set_cons_zero,reduceIte];refine call_ownN (d:=some 19) [B + 90001] [(B + 10,rdO (mnSe bkS (takS (takS (b,0) 3) 4)).1 (mnSe bkS (takS (takS (b,0) 3) 4)).2),(B + 90001,.arr 5 47 ((mnLe bkN bkS (takS (takS (b,0) 3) 4)).map BktD.row)),(B + 5,.box [I (takN (b,0) 3),I (takN (takS (b,0) 3) 4),.os (B + 90001) (mnLe bkN bkS (takS (takS (b,0) 3) 4)).length,.d (.v (.slice none 0 0)),.d (.v (.slice none 0 0)),.d (.v (.slice none 0 0)),.d (.v (.slice none 0 0))])] [(B + 10,rdO (mnSe bkS (takS (takS (b,0) 3) 4)).1 (mnSe bkS (takS (takS (b,0) 3) 4)).2),(B + 90001,.arr 5 47 ((mnLe bkN bkS (takS (takS (b,0) 3) 4)).map BktD.row)),(B + 5,.box [I (takN (b,0) 3),I (takN (takS (b,0) 3) 4),.os (B + 90001) (mnLe bkN bkS (takS (takS (b,0) 3) 4)).length,.d (.v (.slice none 0 0)),.d (.v (.slice none 0 0)),.d (.v (.slice none 0 0)),.d (.v (.slice none 0 0))]),(B + 4,.box [.lp (B + 10) 0]),(B + 2,.box [I 0,I 0,.d (.v (.slice none 0 0)),.d (.v (.slice none 0 0)),.d (.v (.slice none 0 0)),.d (.v (.slice none 0 0)),.d (.v (.slice none 0 0))])] e30 (manyBk _ _ (B + 10) (B + 90001) (B + 5) (B + 4) (I (takN (b,0) 3)) (I (takN (takS (b,0) 3) 4)) (.d (.v (.slice none 0 0))) (.d (.v (.slice none 0 0))) (.d (.v (.slice none 0 0))) (.d (.v (.slice none 0 0))) (takS (takS (b,0) 3) 4).1 (takS (takS (b,0) 3) 4).2 (at4_of (by omega) (by omega) (by omega) (by omega) (by omega) (by omega) (by omega) (by omega) (by omega) (by omega) (by simp [sto,prEta]) (by simp [sto]) (by simp [sto]) (by simp [sto]) (hrk 90001) (by simp [AO.kill,kvD,kvO,kvL])) (by simp [old,AV.allN]) (by simp [old,AV.allN]) (by simp [old,AV.allN]) (by simp [old,AV.allN]) (by simp [old,AV.allN]) (by simp [old,AV.allN])) (sto_upQ [] _ _) rfl (fun z hz hlt=>absurd hlt (by simp at hz;omega)) ?_ ?_ ?_ ?_)
  repeat' (first | (simp -implicitDefEqProofs only [*,Nat.reduceBEq,↓reduceIte,Nat.reduceEqDiff,Nat.reduceAdd,reduceCtorEq,Int.reduceLT,Int.reduceToNat,List.getElem?_nil,Nat.reduceMul,Nat.reducePow,Nat.reduceLeDiff,rowOf_mapD,rowOf_mapI,rowOf_mapA,List.getElem?_cons_zero,List.getElem?_cons_succ,take_map_len,take_map_app,List.getElem?_cons_zero,c7,r7,v7_1,u7_2,u7_3,u7_4,u7_5,u7_6,u7_7,u7_8,u7_9,u7_10,u7_11,u7_12,u7_13,u7_14,u7_15,u7_16,u7_17,u7_18,ty28,ty73,ty71,ty3,ty26,ty30,kvD,kvO,kvL,kvP,kvG,kvT,kvC,kvE,kvY,aokB,aokD,aokA,↓rdO_allN,↓rdO_kill,prEta,mvcgen_simp]) | (with_reducible refine And.intro ?_ ?_) | (refine EndX.plain ?_) | (refine nil_split (fun hn=>?_) (fun hn=>?_)) | (refine gcall_no not_false ?_) | (refine gdcall_no not_false ?_) | (refine GuardS_of _ _ _ _ _ _ (fun hg=>?_) (fun hg=>?_)) | (refine GuardD_of _ _ _ _ (fun hg=>?_) (fun hg=>?_)) | (refine CondB_of _ _ _ _ _ _ _ ?_ (fun hg=>?_) (fun hg=>?_)))
  all_goals first
    | (unfold Fr.below;simp [Fr.allN,AV.allN,AV.allNL];done)
    | (unfold Loc.below;simp only [List.all_cons,List.all_nil,rdO_allN];simp [AO.allN,AV.allN,AV.allNL];done)
    | (intro z hz;simp only [List.mem_cons,List.not_mem_nil,or_false] at hz;rcases hz with rfl | rfl | rfl<;>simp;done)
    | (intro z hz;simp only [List.mem_cons,List.not_mem_nil,or_false] at hz;rcases hz with rfl | rfl<;>simp;done)
    | (intro z hz;cases hz;done)
    | exact .inl (by decide)
    | trivial
    | (simp [allP,opd,Fr.get];done)
    | skip
  any_goals (show SEcall _ _ _ _ _ _ _ _ _ _;refine SEcall_wkQ (d:=some 22) (Wk.nameB (b:=B + 5) (j:=3) (n:=B + 90002) (k:=12) (E:=51) (cs:=[I (takN (b,0) 3),I (takN (takS (b,0) 3) 4),.os (B + 90001) (mnLe bkN bkS (takS (takS (b,0) 3) 4)).length,.d (.v (.slice none 0 0)),.d (.v (.slice none 0 0)),.d (.v (.slice none 0 0)),.d (.v (.slice none 0 0))]) (by simp [sto]) rfl (by omega) (by omega) (.inl (by omega)) (hrk 90002)) ?_;simp only [newF,Fr.map,List.map_cons,List.map_nil,newL,Loc.kill,Loc.set,kvD,kvO,kvL,kvC,kvG,kvT,aokB,aokA,rdO_kill,List.filter_cons,List.filter_nil,Nat.add_left_cancel_iff,Nat.reduceEqDiff,if_true,if_false,ne_eq,not_false_eq_true,decide_true,ite_true,ite_false,List.set_cons_succ,List.set_cons_zero,reduceIte];refine call_ownN (d:=some 22) [B + 90002] [(B + 10,rdO (mnSe verS (mnSe bkS (takS (takS (b,0) 3) 4))).1 (mnSe verS (mnSe bkS (takS (takS (b,0) 3) 4))).2),(B + 90002,.arr 12 51 ((mnLe verN verS (mnSe bkS (takS (takS (b,0) 3) 4))).map VerD.row)),(B + 5,.box [I (takN (b,0) 3),I (takN (takS (b,0) 3) 4),.os (B + 90001) (mnLe bkN bkS (takS (takS (b,0) 3) 4)).length,.os (B + 90002) (mnLe verN verS (mnSe bkS (takS (takS (b,0) 3) 4))).length,.d (.v (.slice none 0 0)),.d (.v (.slice none 0 0)),.d (.v (.slice none 0 0))])] [(B + 10,rdO (mnSe verS (mnSe bkS (takS (takS (b,0) 3) 4))).1 (mnSe verS (mnSe bkS (takS (takS (b,0) 3) 4))).2),(B + 90002,.arr 12 51 ((mnLe verN verS (mnSe bkS (takS (takS (b,0) 3) 4))).map VerD.row)),(B + 5,.box [I (takN (b,0) 3),I (takN (takS (b,0) 3) 4),.os (B + 90001) (mnLe bkN bkS (takS (takS (b,0) 3) 4)).length,.os (B + 90002) (mnLe verN verS (mnSe bkS (takS (takS (b,0) 3) 4))).length,.d (.v (.slice none 0 0)),.d (.v (.slice none 0 0)),.d (.v (.slice none 0 0))]),(B + 90001,.arr 5 47 ((mnLe bkN bkS (takS (takS (b,0) 3) 4)).map BktD.row)),(B + 4,.box [.lp (B + 10) 0]),(B + 2,.box [I 0,I 0,.d (.v (.slice none 0 0)),.d (.v (.slice none 0 0)),.d (.v (.slice none 0 0)),.d (.v (.slice none 0 0)),.d (.v (.slice none 0 0))])] e30 (manyVer _ _ (B + 10) (B + 90002) (B + 5) (B + 4) (I (takN (b,0) 3)) (I (takN (takS (b,0) 3) 4)) (.os (B + 90001) (mnLe bkN bkS (takS (takS (b,0) 3) 4)).length) (.d (.v (.slice none 0 0))) (.d (.v (.slice none 0 0))) (.d (.v (.slice none 0 0))) (mnSe bkS (takS (takS (b,0) 3) 4)).1 (mnSe bkS (takS (takS (b,0) 3) 4)).2 (at4_of (by omega) (by omega) (by omega) (by omega) (by omega) (by omega) (by omega) (by omega) (by omega) (by omega) (by simp [sto,prEta]) (by simp [sto]) (by simp [sto]) (by simp [sto]) (hrk 90002) (by simp [AO.kill,kvD,kvO,kvL])) (by simp [old,AV.allN]) (by simp [old,AV.allN]) (by simp [old,AV.allN]) (by simp [old,AV.allN]) (by simp [old,AV.allN]) (by simp [old,AV.allN])) (sto_upQ [(B + 90001,.arr 5 47 ((mnLe bkN bkS (takS (takS (b,0) 3) 4)).map BktD.row))] _ _) rfl (fun z hz hlt=>absurd hlt (by simp at hz;omega)) ?_ ?_ ?_ ?_)
  repeat' (first | (simp -implicitDefEqProofs only [*,Nat.reduceBEq,↓reduceIte,Nat.reduceEqDiff,Nat.reduceAdd,reduceCtorEq,Int.reduceLT,Int.reduceToNat,List.getElem?_nil,Nat.reduceMul,Nat.reducePow,Nat.reduceLeDiff,rowOf_mapD,rowOf_mapI,rowOf_mapA,List.getElem?_cons_zero,List.getElem?_cons_succ,take_map_len,take_map_app,List.getElem?_cons_zero,c7,r7,v7_1,u7_2,u7_3,u7_4,u7_5,u7_6,u7_7,u7_8,u7_9,u7_10,u7_11,u7_12,u7_13,u7_14,u7_15,u7_16,u7_17,u7_18,ty28,ty73,ty71,ty3,ty26,ty30,kvD,kvO,kvL,kvP,kvG,kvT,kvC,kvE,kvY,aokB,aokD,aokA,↓rdO_allN,↓rdO_kill,prEta,mvcgen_simp]) | (with_reducible refine And.intro ?_ ?_) | (refine EndX.plain ?_) | (refine nil_split (fun hn=>?_) (fun hn=>?_)) | (refine gcall_no not_false ?_) | (refine gdcall_no not_false ?_) | (refine GuardS_of _ _ _ _ _ _ (fun hg=>?_) (fun hg=>?_)) | (refine GuardD_of _ _ _ _ (fun hg=>?_) (fun hg=>?_)) | (refine CondB_of _ _ _ _ _ _ _ ?_ (fun hg=>?_) (fun hg=>?_)))
  all_goals first
    | (unfold Fr.below;simp [Fr.allN,AV.allN,AV.allNL];done)
    | (unfold Loc.below;simp only [List.all_cons,List.all_nil,rdO_allN];simp [AO.allN,AV.allN,AV.allNL];done)
    | (intro z hz;simp only [List.mem_cons,List.not_mem_nil,or_false] at hz;rcases hz with rfl | rfl | rfl<;>simp;done)
    | (intro z hz;simp only [List.mem_cons,List.not_mem_nil,or_false] at hz;rcases hz with rfl | rfl<;>simp;done)
    | (intro z hz;cases hz;done)
    | exact .inl (by decide)
    | trivial
    | (simp [allP,opd,Fr.get];done)
    | skip
  any_goals (show SEcall _ _ _ _ _ _ _ _ _ _;refine SEcall_wkQ (d:=some 25) (Wk.nameB (b:=B + 5) (j:=4) (n:=B + 90003) (k:=4) (E:=55) (cs:=[I (takN (b,0) 3),I (takN (takS (b,0) 3) 4),.os (B + 90001) (mnLe bkN bkS (takS (takS (b,0) 3) 4)).length,.os (B + 90002) (mnLe verN verS (mnSe bkS (takS (takS (b,0) 3) 4))).length,.d (.v (.slice none 0 0)),.d (.v (.slice none 0 0)),.d (.v (.slice none 0 0))]) (by simp [sto]) rfl (by omega) (by omega) (.inl (by omega)) (hrk 90003)) ?_;simp only [newF,Fr.map,List.map_cons,List.map_nil,newL,Loc.kill,Loc.set,kvD,kvO,kvL,kvC,kvG,kvT,aokB,aokA,rdO_kill,List.filter_cons,List.filter_nil,Nat.add_left_cancel_iff,Nat.reduceEqDiff,if_true,if_false,ne_eq,not_false_eq_true,decide_true,ite_true,ite_false,List.set_cons_succ,List.set_cons_zero,reduceIte];refine call_ownN (d:=some 25) [B + 90003] [(B + 10,rdO (mnSe upT (mnSe verS (mnSe bkS (takS (takS (b,0) 3) 4)))).1 (mnSe upT (mnSe verS (mnSe bkS (takS (takS (b,0) 3) 4)))).2),(B + 90003,.arr 4 55 ((mnLe upN upT (mnSe verS (mnSe bkS (takS (takS (b,0) 3) 4)))).map UpD.row)),(B + 5,.box [I (takN (b,0) 3),I (takN (takS (b,0) 3) 4),.os (B + 90001) (mnLe bkN bkS (takS (takS (b,0) 3) 4)).length,.os (B + 90002) (mnLe verN verS (mnSe bkS (takS (takS (b,0) 3) 4))).length,.os (B + 90003) (mnLe upN upT (mnSe verS (mnSe bkS (takS (takS (b,0) 3) 4)))).length,.d (.v (.slice none 0 0)),.d (.v (.slice none 0 0))])] [(B + 10,rdO (mnSe upT (mnSe verS (mnSe bkS (takS (takS (b,0) 3) 4)))).1 (mnSe upT (mnSe verS (mnSe bkS (takS (takS (b,0) 3) 4)))).2),(B + 90003,.arr 4 55 ((mnLe upN upT (mnSe verS (mnSe bkS (takS (takS (b,0) 3) 4)))).map UpD.row)),(B + 5,.box [I (takN (b,0) 3),I (takN (takS (b,0) 3) 4),.os (B + 90001) (mnLe bkN bkS (takS (takS (b,0) 3) 4)).length,.os (B + 90002) (mnLe verN verS (mnSe bkS (takS (takS (b,0) 3) 4))).length,.os (B + 90003) (mnLe upN upT (mnSe verS (mnSe bkS (takS (takS (b,0) 3) 4)))).length,.d (.v (.slice none 0 0)),.d (.v (.slice none 0 0))]),(B + 90002,.arr 12 51 ((mnLe verN verS (mnSe bkS (takS (takS (b,0) 3) 4))).map VerD.row)),(B + 90001,.arr 5 47 ((mnLe bkN bkS (takS (takS (b,0) 3) 4)).map BktD.row)),(B + 4,.box [.lp (B + 10) 0]),(B + 2,.box [I 0,I 0,.d (.v (.slice none 0 0)),.d (.v (.slice none 0 0)),.d (.v (.slice none 0 0)),.d (.v (.slice none 0 0)),.d (.v (.slice none 0 0))])] e30 (manyUp _ _ (B + 10) (B + 90003) (B + 5) (B + 4) (I (takN (b,0) 3)) (I (takN (takS (b,0) 3) 4)) (.os (B + 90001) (mnLe bkN bkS (takS (takS (b,0) 3) 4)).length) (.os (B + 90002) (mnLe verN verS (mnSe bkS (takS (takS (b,0) 3) 4))).length) (.d (.v (.slice none 0 0))) (.d (.v (.slice none 0 0))) (mnSe verS (mnSe bkS (takS (takS (b,0) 3) 4))).1 (mnSe verS (mnSe bkS (takS (takS (b,0) 3) 4))).2 (at4_of (by omega) (by omega) (by omega) (by omega) (by omega) (by omega) (by omega) (by omega) (by omega) (by omega) (by simp [sto,prEta]) (by simp [sto]) (by simp [sto]) (by simp [sto]) (hrk 90003) (by simp [AO.kill,kvD,kvO,kvL])) (by simp [old,AV.allN]) (by simp [old,AV.allN]) (by simp [old,AV.allN]) (by simp [old,AV.allN]) (by simp [old,AV.allN]) (by simp [old,AV.allN])) (sto_upQ [(B + 90002,.arr 12 51 ((mnLe verN verS (mnSe bkS (takS (takS (b,0) 3) 4))).map VerD.row))] _ _) rfl (fun z hz hlt=>absurd hlt (by simp at hz;omega)) ?_ ?_ ?_ ?_)
  repeat' (first | (simp -implicitDefEqProofs only [*,Nat.reduceBEq,↓reduceIte,Nat.reduceEqDiff,Nat.reduceAdd,reduceCtorEq,Int.reduceLT,Int.reduceToNat,List.getElem?_nil,Nat.reduceMul,Nat.reducePow,Nat.reduceLeDiff,rowOf_mapD,rowOf_mapI,rowOf_mapA,List.getElem?_cons_zero,List.getElem?_cons_succ,take_map_len,take_map_app,List.getElem?_cons_zero,c7,r7,v7_1,u7_2,u7_3,u7_4,u7_5,u7_6,u7_7,u7_8,u7_9,u7_10,u7_11,u7_12,u7_13,u7_14,u7_15,u7_16,u7_17,u7_18,ty28,ty73,ty71,ty3,ty26,ty30,kvD,kvO,kvL,kvP,kvG,kvT,kvC,kvE,kvY,aokB,aokD,aokA,↓rdO_allN,↓rdO_kill,prEta,mvcgen_simp]) | (with_reducible refine And.intro ?_ ?_) | (refine EndX.plain ?_) | (refine nil_split (fun hn=>?_) (fun hn=>?_)) | (refine gcall_no not_false ?_) | (refine gdcall_no not_false ?_) | (refine GuardS_of _ _ _ _ _ _ (fun hg=>?_) (fun hg=>?_)) | (refine GuardD_of _ _ _ _ (fun hg=>?_) (fun hg=>?_)) | (refine CondB_of _ _ _ _ _ _ _ ?_ (fun hg=>?_) (fun hg=>?_)))
  all_goals first
    | (unfold Fr.below;simp [Fr.allN,AV.allN,AV.allNL];done)
    | (unfold Loc.below;simp only [List.all_cons,List.all_nil,rdO_allN];simp [AO.allN,AV.allN,AV.allNL];done)
    | (intro z hz;simp only [List.mem_cons,List.not_mem_nil,or_false] at hz;rcases hz with rfl | rfl | rfl<;>simp;done)
    | (intro z hz;simp only [List.mem_cons,List.not_mem_nil,or_false] at hz;rcases hz with rfl | rfl<;>simp;done)
    | (intro z hz;cases hz;done)
    | exact .inl (by decide)
    | trivial
    | (simp [allP,opd,Fr.get];done)
    | skip
  any_goals (show SEcall _ _ _ _ _ _ _ _ _ _;refine SEcall_wkQ (d:=some 28) (Wk.nameB (b:=B + 5) (j:=5) (n:=B + 90004) (k:=3) (E:=60) (cs:=[I (takN (b,0) 3),I (takN (takS (b,0) 3) 4),.os (B + 90001) (mnLe bkN bkS (takS (takS (b,0) 3) 4)).length,.os (B + 90002) (mnLe verN verS (mnSe bkS (takS (takS (b,0) 3) 4))).length,.os (B + 90003) (mnLe upN upT (mnSe verS (mnSe bkS (takS (takS (b,0) 3) 4)))).length,.d (.v (.slice none 0 0)),.d (.v (.slice none 0 0))]) (by simp [sto]) rfl (by omega) (by omega) (.inl (by omega)) (hrk 90004)) ?_;simp only [newF,Fr.map,List.map_cons,List.map_nil,newL,Loc.kill,Loc.set,kvD,kvO,kvL,kvC,kvG,kvT,aokB,aokA,rdO_kill,List.filter_cons,List.filter_nil,Nat.add_left_cancel_iff,Nat.reduceEqDiff,if_true,if_false,ne_eq,not_false_eq_true,decide_true,ite_true,ite_false,List.set_cons_succ,List.set_cons_zero,reduceIte];refine call_ownN (d:=some 28) [B + 90004] [(B + 10,rdO (mnSe askS (mnSe upT (mnSe verS (mnSe bkS (takS (takS (b,0) 3) 4))))).1 (mnSe askS (mnSe upT (mnSe verS (mnSe bkS (takS (takS (b,0) 3) 4))))).2),(B + 90004,.arr 3 60 ((mnLe askN askS (mnSe upT (mnSe verS (mnSe bkS (takS (takS (b,0) 3) 4))))).map AskD.row)),(B + 5,.box [I (takN (b,0) 3),I (takN (takS (b,0) 3) 4),.os (B + 90001) (mnLe bkN bkS (takS (takS (b,0) 3) 4)).length,.os (B + 90002) (mnLe verN verS (mnSe bkS (takS (takS (b,0) 3) 4))).length,.os (B + 90003) (mnLe upN upT (mnSe verS (mnSe bkS (takS (takS (b,0) 3) 4)))).length,.os (B + 90004) (mnLe askN askS (mnSe upT (mnSe verS (mnSe bkS (takS (takS (b,0) 3) 4))))).length,.d (.v (.slice none 0 0))])] [(B + 10,rdO (mnSe askS (mnSe upT (mnSe verS (mnSe bkS (takS (takS (b,0) 3) 4))))).1 (mnSe askS (mnSe upT (mnSe verS (mnSe bkS (takS (takS (b,0) 3) 4))))).2),(B + 90004,.arr 3 60 ((mnLe askN askS (mnSe upT (mnSe verS (mnSe bkS (takS (takS (b,0) 3) 4))))).map AskD.row)),(B + 5,.box [I (takN (b,0) 3),I (takN (takS (b,0) 3) 4),.os (B + 90001) (mnLe bkN bkS (takS (takS (b,0) 3) 4)).length,.os (B + 90002) (mnLe verN verS (mnSe bkS (takS (takS (b,0) 3) 4))).length,.os (B + 90003) (mnLe upN upT (mnSe verS (mnSe bkS (takS (takS (b,0) 3) 4)))).length,.os (B + 90004) (mnLe askN askS (mnSe upT (mnSe verS (mnSe bkS (takS (takS (b,0) 3) 4))))).length,.d (.v (.slice none 0 0))]),(B + 90003,.arr 4 55 ((mnLe upN upT (mnSe verS (mnSe bkS (takS (takS (b,0) 3) 4)))).map UpD.row)),(B + 90002,.arr 12 51 ((mnLe verN verS (mnSe bkS (takS (takS (b,0) 3) 4))).map VerD.row)),(B + 90001,.arr 5 47 ((mnLe bkN bkS (takS (takS (b,0) 3) 4)).map BktD.row)),(B + 4,.box [.lp (B + 10) 0]),(B + 2,.box [I 0,I 0,.d (.v (.slice none 0 0)),.d (.v (.slice none 0 0)),.d (.v (.slice none 0 0)),.d (.v (.slice none 0 0)),.d (.v (.slice none 0 0))])] e30 (manyAsk _ _ (B + 10) (B + 90004) (B + 5) (B + 4) (I (takN (b,0) 3)) (I (takN (takS (b,0) 3) 4)) (.os (B + 90001) (mnLe bkN bkS (takS (takS (b,0) 3) 4)).length) (.os (B + 90002) (mnLe verN verS (mnSe bkS (takS (takS (b,0) 3) 4))).length) (.os (B + 90003) (mnLe upN upT (mnSe verS (mnSe bkS (takS (takS (b,0) 3) 4)))).length) (.d (.v (.slice none 0 0))) (mnSe upT (mnSe verS (mnSe bkS (takS (takS (b,0) 3) 4)))).1 (mnSe upT (mnSe verS (mnSe bkS (takS (takS (b,0) 3) 4)))).2 (at4_of (by omega) (by omega) (by omega) (by omega) (by omega) (by omega) (by omega) (by omega) (by omega) (by omega) (by simp [sto,prEta]) (by simp [sto]) (by simp [sto]) (by simp [sto]) (hrk 90004) (by simp [AO.kill,kvD,kvO,kvL])) (by simp [old,AV.allN]) (by simp [old,AV.allN]) (by simp [old,AV.allN]) (by simp [old,AV.allN]) (by simp [old,AV.allN]) (by simp [old,AV.allN])) (sto_upQ [(B + 90003,.arr 4 55 ((mnLe upN upT (mnSe verS (mnSe bkS (takS (takS (b,0) 3) 4)))).map UpD.row))] _ _) rfl (fun z hz hlt=>absurd hlt (by simp at hz;omega)) ?_ ?_ ?_ ?_)
  repeat' (first | (simp -implicitDefEqProofs only [*,Nat.reduceBEq,↓reduceIte,Nat.reduceEqDiff,Nat.reduceAdd,reduceCtorEq,Int.reduceLT,Int.reduceToNat,List.getElem?_nil,Nat.reduceMul,Nat.reducePow,Nat.reduceLeDiff,rowOf_mapD,rowOf_mapI,rowOf_mapA,List.getElem?_cons_zero,List.getElem?_cons_succ,take_map_len,take_map_app,List.getElem?_cons_zero,c7,r7,v7_1,u7_2,u7_3,u7_4,u7_5,u7_6,u7_7,u7_8,u7_9,u7_10,u7_11,u7_12,u7_13,u7_14,u7_15,u7_16,u7_17,u7_18,ty28,ty73,ty71,ty3,ty26,ty30,kvD,kvO,kvL,kvP,kvG,kvT,kvC,kvE,kvY,aokB,aokD,aokA,↓rdO_allN,↓rdO_kill,prEta,mvcgen_simp]) | (with_reducible refine And.intro ?_ ?_) | (refine EndX.plain ?_) | (refine nil_split (fun hn=>?_) (fun hn=>?_)) | (refine gcall_no not_false ?_) | (refine gdcall_no not_false ?_) | (refine GuardS_of _ _ _ _ _ _ (fun hg=>?_) (fun hg=>?_)) | (refine GuardD_of _ _ _ _ (fun hg=>?_) (fun hg=>?_)) | (refine CondB_of _ _ _ _ _ _ _ ?_ (fun hg=>?_) (fun hg=>?_)))
  all_goals first
    | (unfold Fr.below;simp [Fr.allN,AV.allN,AV.allNL];done)
    | (unfold Loc.below;simp only [List.all_cons,List.all_nil,rdO_allN];simp [AO.allN,AV.allN,AV.allNL];done)
    | (intro z hz;simp only [List.mem_cons,List.not_mem_nil,or_false] at hz;rcases hz with rfl | rfl | rfl<;>simp;done)
    | (intro z hz;simp only [List.mem_cons,List.not_mem_nil,or_false] at hz;rcases hz with rfl | rfl<;>simp;done)
    | (intro z hz;cases hz;done)
    | exact .inl (by decide)
    | trivial
    | (simp [allP,opd,Fr.get];done)
    | skip
  any_goals (show SEcall _ _ _ _ _ _ _ _ _ _;refine SEcall_wkQ (d:=some 30) (Wk.freezeB (m:=B + 90004) (k:=3) (E:=60) (rows:=(mnLe askN askS (mnSe upT (mnSe verS (mnSe bkS (takS (takS (b,0) 3) 4))))).map AskD.row) hcl (by omega) (by simp [sto])) ?_;simp only [Loc.fzB,AO.fzB,rdO_fzB,fzD,fzO,fzL,Fr.map,List.map_cons,List.map_nil,List.filter_cons,List.filter_nil,Nat.add_left_cancel_iff,Nat.reduceEqDiff,if_true,if_false,ne_eq,not_false_eq_true,not_true_eq_false,decide_true,decide_false,Bool.false_eq_true,ite_true,ite_false,reduceIte,List.length_map,Nat.le_refl,take_map_len];refine SEcall_wkQ (d:=some 30) (Wk.freezeB (m:=B + 90003) (k:=4) (E:=55) (rows:=(mnLe upN upT (mnSe verS (mnSe bkS (takS (takS (b,0) 3) 4)))).map UpD.row) hcl (by omega) (by simp [sto])) ?_;simp only [Loc.fzB,AO.fzB,rdO_fzB,fzD,fzO,fzL,Fr.map,List.map_cons,List.map_nil,List.filter_cons,List.filter_nil,Nat.add_left_cancel_iff,Nat.reduceEqDiff,if_true,if_false,ne_eq,not_false_eq_true,not_true_eq_false,decide_true,decide_false,Bool.false_eq_true,ite_true,ite_false,reduceIte,List.length_map,Nat.le_refl,take_map_len];refine SEcall_wkQ (d:=some 30) (Wk.freezeB (m:=B + 90002) (k:=12) (E:=51) (rows:=(mnLe verN verS (mnSe bkS (takS (takS (b,0) 3) 4))).map VerD.row) hcl (by omega) (by simp [sto])) ?_;simp only [Loc.fzB,AO.fzB,rdO_fzB,fzD,fzO,fzL,Fr.map,List.map_cons,List.map_nil,List.filter_cons,List.filter_nil,Nat.add_left_cancel_iff,Nat.reduceEqDiff,if_true,if_false,ne_eq,not_false_eq_true,not_true_eq_false,decide_true,decide_false,Bool.false_eq_true,ite_true,ite_false,reduceIte,List.length_map,Nat.le_refl,take_map_len];refine SEcall_wkQ (d:=some 30) (Wk.freezeB (m:=B + 90001) (k:=5) (E:=47) (rows:=(mnLe bkN bkS (takS (takS (b,0) 3) 4)).map BktD.row) hcl (by omega) (by simp [sto])) ?_;simp only [Loc.fzB,AO.fzB,rdO_fzB,fzD,fzO,fzL,Fr.map,List.map_cons,List.map_nil,List.filter_cons,List.filter_nil,Nat.add_left_cancel_iff,Nat.reduceEqDiff,if_true,if_false,ne_eq,not_false_eq_true,not_true_eq_false,decide_true,decide_false,Bool.false_eq_true,ite_true,ite_false,reduceIte,List.length_map,Nat.le_refl,take_map_len])
  have hE:endE (intsS (mnSe askS (mnSe upT (mnSe verS (mnSe bkS (takS (takS (b,0) 3) 4)))))) = endE (dS7 b):=rfl
  cases hm:mayF (stN b)<;>rw [hm] at hc<;>simp only [cond_true,cond_false] at hc
  all_goals (
    repeat' (first | (simp -implicitDefEqProofs only [*,Nat.reduceBEq,↓reduceIte,Nat.reduceEqDiff,Nat.reduceAdd,reduceCtorEq,Int.reduceLT,Int.reduceToNat,List.getElem?_nil,Nat.reduceMul,Nat.reducePow,Nat.reduceLeDiff,rowOf_mapD,rowOf_mapI,rowOf_mapA,List.getElem?_cons_zero,List.getElem?_cons_succ,take_map_len,take_map_app,List.getElem?_cons_zero,c7,r7,v7_1,u7_2,u7_3,u7_4,u7_5,u7_6,u7_7,u7_8,u7_9,u7_10,u7_11,u7_12,u7_13,u7_14,u7_15,u7_16,u7_17,u7_18,ty28,ty73,ty71,ty3,ty26,ty30,kvD,kvO,kvL,kvP,kvG,kvT,kvC,kvE,kvY,aokB,aokD,aokA,↓rdO_allN,↓rdO_kill,prEta,HQ_yn,HQ_yr,Loc.nz,AO.nz,Int.reduceBNe,Int.reduceBEq,bne_self_eq_false,mvcgen_simp]) | (with_reducible refine And.intro ?_ ?_) | (refine call_r0 (d:=some 30) (by omega) e41 ( ints_R) rfl ?_ ?_ ?_ ?_ ?_ ?_) | (refine call_r1 (d:=some 30) (by omega) e41 ( ints_R) rfl ?_ ?_ ?_ ?_ ?_ ?_) | (refine call_r2 (d:=some 30) (by omega) e41 ( ints_R) rfl ?_ ?_ ?_ ?_ ?_ ?_) | (refine call_r0 (d:=some 33) (by omega) e42 ( end_R) rfl ?_ ?_ ?_ ?_ ?_ ?_) | (refine call_r1 (d:=some 33) (by omega) e42 ( end_R) rfl ?_ ?_ ?_ ?_ ?_ ?_) | (refine call_r2 (d:=some 33) (by omega) e42 ( end_R) rfl ?_ ?_ ?_ ?_ ?_ ?_) | (refine call_ro e11 ( hc) rfl ?_ ?_ ?_ ?_) | (refine gcall_ro e11 ( hc) rfl ?_ ?_ ?_ ?_) | (refine dcall_ro e11 ( hc) rfl ?_ ?_ ?_ ?_) | (refine gdcall_ro rfl e11 ( hc) rfl ?_ ?_ ?_ ?_) | (refine EndX.plain ?_) | (refine nil_split (fun hn=>?_) (fun hn=>?_)) | (refine gcall_no not_false ?_) | (refine gdcall_no not_false ?_) | (refine GuardS_of _ _ _ _ _ _ (fun hg=>?_) (fun hg=>?_)) | (refine GuardD_of _ _ _ _ (fun hg=>?_) (fun hg=>?_)) | (refine CondB_of _ _ _ _ _ _ _ ?_ (fun hg=>?_) (fun hg=>?_))))
  all_goals first
    | (unfold Fr.below;simp [Fr.allN,AV.allN,AV.allNL];done)
    | (unfold Loc.below;simp only [List.all_cons,List.all_nil,rdO_allN];simp [AO.allN,AV.allN,AV.allNL];done)
    | (intro z hz;simp only [List.mem_cons,List.not_mem_nil,or_false] at hz;rcases hz with rfl | rfl | rfl<;>simp;done)
    | (intro z hz;simp only [List.mem_cons,List.not_mem_nil,or_false] at hz;rcases hz with rfl | rfl<;>simp;done)
    | (intro z hz;cases hz;done)
    | exact .inl (by decide)
    | trivial
    | (simp [allP,opd,Fr.get];done)
    | skip
  all_goals first
    | (exact (rd_may (by assumption) hm).symm)
    | (exact (rd_end_ (by assumption)).symm)
    | (exact (rd_ok (by assumption) hm).symm)
    | (exfalso;simp_all;done)
end Go.Proofs.Ytijpmidnclbhpaa
