/- The reference's eye: rule,ask,part,version. -/
import Derived.Test.YtijpmidnclbhpaaKF
import Derived.Test.YtijpmidnclbhpaaTypes
namespace Go.Proofs.Ytijpmidnclbhpaa
open Go.RowKit
set_option maxRecDepth 100000
def c45_1:SC:=(.seq (.reg [SO.mk (some 16) (.load 45 (.tmp 3)) none,SO.mk none (.store 45 (.tmp 2) (.tmp 16)) none]) (.keep [2] .ret))
theorem u45_1:type_of% (@swc _ _ c45_1.eq_1):=@swc _ _ c45_1.eq_1
def c45_2:SC:=(.seq (.reg [SO.mk (some 12) (.move (.tmp 0)) none,SO.mk (some 13) (.call 43 [(.tmp 12),(.const (Value.int .i64 4))]) none,SO.mk (some 14) (.bin .sub 3 (.tmp 13) (.const (Value.int .i64 1))) none,SO.mk (some 15) (.faddr 45 (.tmp 3) 2) none,SO.mk none (.store 3 (.tmp 15) (.tmp 14)) none]) (.keep [3,2] c45_1))
theorem u45_2:type_of% (@swc _ _ c45_2.eq_1):=@swc _ _ c45_2.eq_1
def c45_3:SC:=(.seq (.reg [SO.mk (some 8) (.move (.tmp 0)) none,SO.mk (some 9) (.call 43 [(.tmp 8),(.const (Value.int .i64 4))]) none,SO.mk (some 10) (.bin .sub 3 (.tmp 9) (.const (Value.int .i64 1))) none,SO.mk (some 11) (.faddr 45 (.tmp 3) 1) none,SO.mk none (.store 3 (.tmp 11) (.tmp 10)) none]) (.keep [0,3,2] c45_2))
theorem u45_3:type_of% (@swc _ _ c45_3.eq_1):=@swc _ _ c45_3.eq_1
def c45_4:SC:=(.seq (.reg [SO.mk (some 5) (.move (.tmp 0)) none,SO.mk (some 6) (.call 44 [(.tmp 5)]) none,SO.mk (some 7) (.faddr 45 (.tmp 3) 0) none,SO.mk none (.store 9 (.tmp 7) (.tmp 6)) none]) (.keep [0,3,2] c45_3))
theorem u45_4:type_of% (@swc _ _ c45_4.eq_1):=@swc _ _ c45_4.eq_1
def c45_5:SC:=(.seq (.reg [SO.mk (some 4) (.build 45 []) none,SO.mk (some 3) (.alloc 45) none,SO.mk none (.store 45 (.tmp 3) (.tmp 4)) none]) (.keep [0,3,2] c45_4))
theorem u45_5:type_of% (@swc _ _ c45_5.eq_1):=@swc _ _ c45_5.eq_1
def c45:SC:=(.seq (.reg [SO.mk (some 2) (.alloc 45) none]) (.keep [0,2] c45_5))
theorem c45_eq:annC Try.f45 = some c45:=by kernel_rfl
theorem r45:Try.f45.results.toList = [.cell 2 45]:=by kernel_rfl
theorem e45:enters Try.prog 45 = true:=by kernel_rfl
def c48_1:SC:=(.seq (.reg [SO.mk (some 14) (.load 60 (.tmp 3)) none,SO.mk none (.store 60 (.tmp 2) (.tmp 14)) none]) (.keep [2] .ret))
theorem u48_1:type_of% (@swc _ _ c48_1.eq_1):=@swc _ _ c48_1.eq_1
def c48_2:SC:=(.seq (.reg [SO.mk (some 11) (.move (.tmp 0)) none,SO.mk (some 12) (.call 43 [(.tmp 11),(.const (Value.int .i64 1))]) none,SO.mk (some 13) (.faddr 60 (.tmp 3) 2) none,SO.mk none (.store 3 (.tmp 13) (.tmp 12)) none]) (.keep [3,2] c48_1))
theorem u48_2:type_of% (@swc _ _ c48_2.eq_1):=@swc _ _ c48_2.eq_1
def c48_3:SC:=(.seq (.reg [SO.mk (some 8) (.move (.tmp 0)) none,SO.mk (some 9) (.call 43 [(.tmp 8),(.const (Value.int .i64 2))]) none,SO.mk (some 10) (.faddr 60 (.tmp 3) 1) none,SO.mk none (.store 3 (.tmp 10) (.tmp 9)) none]) (.keep [0,3,2] c48_2))
theorem u48_3:type_of% (@swc _ _ c48_3.eq_1):=@swc _ _ c48_3.eq_1
def c48_4:SC:=(.seq (.reg [SO.mk (some 5) (.move (.tmp 0)) none,SO.mk (some 6) (.call 43 [(.tmp 5),(.const (Value.int .i64 3))]) none,SO.mk (some 7) (.faddr 60 (.tmp 3) 0) none,SO.mk none (.store 3 (.tmp 7) (.tmp 6)) none]) (.keep [0,3,2] c48_3))
theorem u48_4:type_of% (@swc _ _ c48_4.eq_1):=@swc _ _ c48_4.eq_1
def c48_5:SC:=(.seq (.reg [SO.mk (some 4) (.build 60 []) none,SO.mk (some 3) (.alloc 60) none,SO.mk none (.store 60 (.tmp 3) (.tmp 4)) none]) (.keep [0,3,2] c48_4))
theorem u48_5:type_of% (@swc _ _ c48_5.eq_1):=@swc _ _ c48_5.eq_1
def c48:SC:=(.seq (.reg [SO.mk (some 2) (.alloc 60) none]) (.keep [0,2] c48_5))
theorem c48_eq:annC Try.f48 = some c48:=by kernel_rfl
theorem r48:Try.f48.results.toList = [.cell 2 60]:=by kernel_rfl
theorem e48:enters Try.prog 48 = true:=by kernel_rfl
def c47_1:SC:=(.seq (.reg [SO.mk (some 14) (.load 57 (.tmp 3)) none,SO.mk none (.store 57 (.tmp 2) (.tmp 14)) none]) (.keep [2] .ret))
theorem u47_1:type_of% (@swc _ _ c47_1.eq_1):=@swc _ _ c47_1.eq_1
def c47_2:SC:=(.seq (.reg [SO.mk (some 11) (.move (.tmp 0)) none,SO.mk (some 12) (.call 49 [(.tmp 11)]) none,SO.mk (some 13) (.faddr 57 (.tmp 3) 2) none,SO.mk none (.store 26 (.tmp 13) (.tmp 12)) none]) (.keep [3,2] c47_1))
theorem u47_2:type_of% (@swc _ _ c47_2.eq_1):=@swc _ _ c47_2.eq_1
def c47_3:SC:=(.seq (.reg [SO.mk (some 8) (.move (.tmp 0)) none,SO.mk (some 9) (.call 43 [(.tmp 8),(.const (Value.int .i64 2))]) none,SO.mk (some 10) (.faddr 57 (.tmp 3) 1) none,SO.mk none (.store 3 (.tmp 10) (.tmp 9)) none]) (.keep [0,3,2] c47_2))
theorem u47_3:type_of% (@swc _ _ c47_3.eq_1):=@swc _ _ c47_3.eq_1
def c47_4:SC:=(.seq (.reg [SO.mk (some 5) (.move (.tmp 0)) none,SO.mk (some 6) (.call 43 [(.tmp 5),(.const (Value.int .i64 1))]) none,SO.mk (some 7) (.faddr 57 (.tmp 3) 0) none,SO.mk none (.store 3 (.tmp 7) (.tmp 6)) none]) (.keep [0,3,2] c47_3))
theorem u47_4:type_of% (@swc _ _ c47_4.eq_1):=@swc _ _ c47_4.eq_1
def c47_5:SC:=(.seq (.reg [SO.mk (some 4) (.build 57 []) none,SO.mk (some 3) (.alloc 57) none,SO.mk none (.store 57 (.tmp 3) (.tmp 4)) none]) (.keep [0,3,2] c47_4))
theorem u47_5:type_of% (@swc _ _ c47_5.eq_1):=@swc _ _ c47_5.eq_1
def c47:SC:=(.seq (.reg [SO.mk (some 2) (.alloc 57) none]) (.keep [0,2] c47_5))
theorem c47_eq:annC Try.f47 = some c47:=by kernel_rfl
theorem r47:Try.f47.results.toList = [.cell 2 57]:=by kernel_rfl
theorem e47:enters Try.prog 47 = true:=by kernel_rfl
def c46_1:SC:=(.seq (.reg [SO.mk (some 41) (.load 51 (.tmp 3)) none,SO.mk none (.store 51 (.tmp 2) (.tmp 41)) none]) (.keep [2] .ret))
theorem u46_1:type_of% (@swc _ _ c46_1.eq_1):=@swc _ _ c46_1.eq_1
def c46_2:SC:=(.seq (.reg [SO.mk (some 38) (.move (.tmp 0)) none,SO.mk (some 39) (.call 43 [(.tmp 38),(.const (Value.int .i64 4))]) none,SO.mk (some 40) (.faddr 51 (.tmp 3) 11) none,SO.mk none (.store 3 (.tmp 40) (.tmp 39)) none]) (.keep [3,2] c46_1))
theorem u46_2:type_of% (@swc _ _ c46_2.eq_1):=@swc _ _ c46_2.eq_1
def c46_3:SC:=(.seq (.reg [SO.mk (some 35) (.move (.tmp 0)) none,SO.mk (some 36) (.call 43 [(.tmp 35),(.const (Value.int .i64 2))]) none,SO.mk (some 37) (.faddr 51 (.tmp 3) 10) none,SO.mk none (.store 3 (.tmp 37) (.tmp 36)) none]) (.keep [0,3,2] c46_2))
theorem u46_3:type_of% (@swc _ _ c46_3.eq_1):=@swc _ _ c46_3.eq_1
def c46_4:SC:=(.seq (.reg [SO.mk (some 32) (.move (.tmp 0)) none,SO.mk (some 33) (.call 43 [(.tmp 32),(.const (Value.int .i64 1))]) none,SO.mk (some 34) (.faddr 51 (.tmp 3) 9) none,SO.mk none (.store 3 (.tmp 34) (.tmp 33)) none]) (.keep [0,3,2] c46_3))
theorem u46_4:type_of% (@swc _ _ c46_4.eq_1):=@swc _ _ c46_4.eq_1
def c46_5:SC:=(.seq (.reg [SO.mk (some 29) (.move (.tmp 0)) none,SO.mk (some 30) (.call 49 [(.tmp 29)]) none,SO.mk (some 31) (.faddr 51 (.tmp 3) 8) none,SO.mk none (.store 26 (.tmp 31) (.tmp 30)) none]) (.keep [0,3,2] c46_4))
theorem u46_5:type_of% (@swc _ _ c46_5.eq_1):=@swc _ _ c46_5.eq_1
def c46_6:SC:=(.seq (.reg [SO.mk (some 26) (.move (.tmp 0)) none,SO.mk (some 27) (.call 43 [(.tmp 26),(.const (Value.int .i64 1))]) none,SO.mk (some 28) (.faddr 51 (.tmp 3) 7) none,SO.mk none (.store 3 (.tmp 28) (.tmp 27)) none]) (.keep [0,3,2] c46_5))
theorem u46_6:type_of% (@swc _ _ c46_6.eq_1):=@swc _ _ c46_6.eq_1
def c46_7:SC:=(.seq (.reg [SO.mk (some 23) (.move (.tmp 0)) none,SO.mk (some 24) (.call 43 [(.tmp 23),(.const (Value.int .i64 4))]) none,SO.mk (some 25) (.faddr 51 (.tmp 3) 6) none,SO.mk none (.store 3 (.tmp 25) (.tmp 24)) none]) (.keep [0,3,2] c46_6))
theorem u46_7:type_of% (@swc _ _ c46_7.eq_1):=@swc _ _ c46_7.eq_1
def c46_8:SC:=(.seq (.reg [SO.mk (some 20) (.move (.tmp 0)) none,SO.mk (some 21) (.call 43 [(.tmp 20),(.const (Value.int .i64 2))]) none,SO.mk (some 22) (.faddr 51 (.tmp 3) 5) none,SO.mk none (.store 3 (.tmp 22) (.tmp 21)) none]) (.keep [0,3,2] c46_7))
theorem u46_8:type_of% (@swc _ _ c46_8.eq_1):=@swc _ _ c46_8.eq_1
def c46_9:SC:=(.seq (.reg [SO.mk (some 17) (.move (.tmp 0)) none,SO.mk (some 18) (.call 70 [(.tmp 17)]) none,SO.mk (some 19) (.faddr 51 (.tmp 3) 4) none,SO.mk none (.store 4 (.tmp 19) (.tmp 18)) none]) (.keep [0,3,2] c46_8))
theorem u46_9:type_of% (@swc _ _ c46_9.eq_1):=@swc _ _ c46_9.eq_1
def c46_10:SC:=(.seq (.reg [SO.mk (some 14) (.move (.tmp 0)) none,SO.mk (some 15) (.call 70 [(.tmp 14)]) none,SO.mk (some 16) (.faddr 51 (.tmp 3) 3) none,SO.mk none (.store 4 (.tmp 16) (.tmp 15)) none]) (.keep [0,3,2] c46_9))
theorem u46_10:type_of% (@swc _ _ c46_10.eq_1):=@swc _ _ c46_10.eq_1
def c46_11:SC:=(.seq (.reg [SO.mk (some 11) (.move (.tmp 0)) none,SO.mk (some 12) (.call 44 [(.tmp 11)]) none,SO.mk (some 13) (.faddr 51 (.tmp 3) 2) none,SO.mk none (.store 9 (.tmp 13) (.tmp 12)) none]) (.keep [0,3,2] c46_10))
theorem u46_11:type_of% (@swc _ _ c46_11.eq_1):=@swc _ _ c46_11.eq_1
def c46_12:SC:=(.seq (.reg [SO.mk (some 8) (.move (.tmp 0)) none,SO.mk (some 9) (.call 44 [(.tmp 8)]) none,SO.mk (some 10) (.faddr 51 (.tmp 3) 1) none,SO.mk none (.store 9 (.tmp 10) (.tmp 9)) none]) (.keep [0,3,2] c46_11))
theorem u46_12:type_of% (@swc _ _ c46_12.eq_1):=@swc _ _ c46_12.eq_1
def c46_13:SC:=(.seq (.reg [SO.mk (some 5) (.move (.tmp 0)) none,SO.mk (some 6) (.call 43 [(.tmp 5),(.const (Value.int .i64 3))]) none,SO.mk (some 7) (.faddr 51 (.tmp 3) 0) none,SO.mk none (.store 3 (.tmp 7) (.tmp 6)) none]) (.keep [0,3,2] c46_12))
theorem u46_13:type_of% (@swc _ _ c46_13.eq_1):=@swc _ _ c46_13.eq_1
def c46_14:SC:=(.seq (.reg [SO.mk (some 4) (.build 51 []) none,SO.mk (some 3) (.alloc 51) none,SO.mk none (.store 51 (.tmp 3) (.tmp 4)) none]) (.keep [0,3,2] c46_13))
theorem u46_14:type_of% (@swc _ _ c46_14.eq_1):=@swc _ _ c46_14.eq_1
def c46:SC:=(.seq (.reg [SO.mk (some 2) (.alloc 51) none]) (.keep [0,2] c46_14))
theorem c46_eq:annC Try.f46 = some c46:=by kernel_rfl
theorem r46:Try.f46.results.toList = [.cell 2 51]:=by kernel_rfl
theorem e46:enters Try.prog 46 = true:=by kernel_rfl
end Go.Proofs.Ytijpmidnclbhpaa
namespace Go.Proofs.Ytijpmidnclbhpaa
open Go.RowKit
set_option maxHeartbeats 4000000
set_option maxRecDepth 20000
attribute [local irreducible] SW OSW SWL SWLn SWD SEcall SEcallv SDv SE SO1 SOg ACalls ACallv Wk EndV
set_option linter.unusedSimpArgs false
set_option linter.unusedVariables false
attribute [local irreducible] takS textS bitS intsS takN textN bitN intsN eyO
theorem ruled_L :Looks Try.prog 45 [] (fun s=>(ruleN s).av) (fun s=>ruleS s) (fun s=>True):=by
  intro B σ n bb b e hn hσ hx hbb hp
  refine own_ofL [(n,eyO bb b e)] (hid1_sto hσ) hid1_closed follows Try.func45 c45_eq r45 (Nat.le_of_ble_eq_true rfl) fun hcl hsz=>?_
  clear hsz
  have y1:∀ s,(n = B + s) = False:=fun s=>by simp;omega
  have y2:∀ s,(B + s = n) = False:=fun s=>by simp;omega
  have y3:(n < B) = True:=eq_true hn
  have y4:decide (n < B) = true:=by simpa using hn
  have y5:decide (n < B + 100000) = true:=by simp;omega
  repeat' (first | (simp -implicitDefEqProofs only [*,Nat.reduceBEq,↓reduceIte,Nat.reduceEqDiff,Nat.reduceAdd,reduceCtorEq,AV.kill,Int.reduceLT,Int.reduceToNat,List.getElem?_nil,Nat.reduceMul,Nat.reducePow,Nat.reduceLeDiff,rowOf_mapD,rowOf_mapI,rowOf_mapA,List.getElem?_cons_zero,List.getElem?_cons_succ,take_map_len,take_map_app,List.getElem?_cons_zero,c45,r45,u45_1,u45_2,u45_3,u45_4,u45_5,ty45,ty9,ty3,aokB,aokD,aokA,↓eyO_allN,↓eyO_kill,y1,y2,y3,y4,y5,RulD.av,ruleN,rul2,prEta,mvcgen_simp]) | (with_reducible refine And.intro ?_ ?_) | (refine call_e0 (d:=some 6) (by omega) e44 ( str_L) rfl ?_ ?_ hbb ?_ ?_ ?_ ?_ ?_) | (refine call_e1 (d:=some 6) (by omega) e44 ( str_L) rfl ?_ ?_ hbb ?_ ?_ ?_ ?_ ?_) | (refine call_e2 (d:=some 6) (by omega) e44 ( str_L) rfl ?_ ?_ hbb ?_ ?_ ?_ ?_ ?_) | (refine call_e0 (d:=some 9) (by omega) e43 ( num_L 4 (by decide)) rfl ?_ ?_ hbb ?_ ?_ ?_ ?_ ?_) | (refine call_e1 (d:=some 9) (by omega) e43 ( num_L 4 (by decide)) rfl ?_ ?_ hbb ?_ ?_ ?_ ?_ ?_) | (refine call_e2 (d:=some 9) (by omega) e43 ( num_L 4 (by decide)) rfl ?_ ?_ hbb ?_ ?_ ?_ ?_ ?_) | (refine call_e0 (d:=some 13) (by omega) e43 ( num_L 4 (by decide)) rfl ?_ ?_ hbb ?_ ?_ ?_ ?_ ?_) | (refine call_e1 (d:=some 13) (by omega) e43 ( num_L 4 (by decide)) rfl ?_ ?_ hbb ?_ ?_ ?_ ?_ ?_) | (refine call_e2 (d:=some 13) (by omega) e43 ( num_L 4 (by decide)) rfl ?_ ?_ hbb ?_ ?_ ?_ ?_ ?_) | (refine EndX.plain ?_) | (refine nil_split (fun hn=>?_) (fun hn=>?_)) | (refine gcall_no not_false ?_) | (refine gdcall_no not_false ?_) | (refine GuardS_of _ _ _ _ _ _ (fun hg=>?_) (fun hg=>?_)) | (refine GuardD_of _ _ _ _ (fun hg=>?_) (fun hg=>?_)) | (refine CondB_of _ _ _ _ _ _ _ ?_ (fun hg=>?_) (fun hg=>?_)))
  all_goals first
    | (intro p hp;simp only [List.mem_cons,List.not_mem_nil,or_false] at hp;rcases hp with rfl | rfl<;>simp [y2];done)
    | (intro p hp;simp only [List.mem_cons,List.not_mem_nil,or_false] at hp;subst hp;simp [y2];done)
    | (intro p hp;cases hp;done)
    | (exact .inl (by decide))
    | (show List.IsSuffix _ bb;repeat' (first | assumption | refine (takS_suf _ _).trans ?_ | refine (textS_suf _).trans ?_ | refine (bitS_suf _).trans ?_ | refine (intsS_suf _).trans ?_ | refine (itS_suf _ _).trans ?_))
    | trivial
    | (unfold Fr.below;simp [Fr.allN,AV.allN,AV.allNL,y5];done)
    | (unfold noN;simp [Fr.allN,AV.allN,AV.allNL,AO.allN];done)
    | (unfold Loc.below;simp [AO.allN,AV.allN,AV.allNL,y5];done)
    | (unfold Loc.below;simp only [List.all_cons,List.all_nil,eyO_allN,y5];simp [AO.allN,AV.allN,AV.allNL];done)
    | rfl
    | (refine rd_end ?_ ?_
       · simp only [if_true];rfl
       · intro x z1;simp [z1,hid1])
    | (refine rd_end ?_ ?_
       · simp [ruleS,rul2]
       · intro x z1;simp [z1,hid1])
theorem asked_L :Looks Try.prog 48 [] (fun s=>askV (askN s)) (fun s=>askS s) (fun s=>True):=by
  intro B σ n bb b e hn hσ hx hbb hp
  refine own_ofL [(n,eyO bb b e)] (hid1_sto hσ) hid1_closed follows Try.func48 c48_eq r48 (Nat.le_of_ble_eq_true rfl) fun hcl hsz=>?_
  clear hsz
  have y1:∀ s,(n = B + s) = False:=fun s=>by simp;omega
  have y2:∀ s,(B + s = n) = False:=fun s=>by simp;omega
  have y3:(n < B) = True:=eq_true hn
  have y4:decide (n < B) = true:=by simpa using hn
  have y5:decide (n < B + 100000) = true:=by simp;omega
  repeat' (first | (simp -implicitDefEqProofs only [*,Nat.reduceBEq,↓reduceIte,Nat.reduceEqDiff,Nat.reduceAdd,reduceCtorEq,AV.kill,Int.reduceLT,Int.reduceToNat,List.getElem?_nil,Nat.reduceMul,Nat.reducePow,Nat.reduceLeDiff,rowOf_mapD,rowOf_mapI,rowOf_mapA,List.getElem?_cons_zero,List.getElem?_cons_succ,take_map_len,take_map_app,List.getElem?_cons_zero,c48,r48,u48_1,u48_2,u48_3,u48_4,u48_5,ty60,ty3,aokB,aokD,aokA,↓eyO_allN,↓eyO_kill,y1,y2,y3,y4,y5,askV,AskD.row,askN,ask2,prEta,mvcgen_simp]) | (with_reducible refine And.intro ?_ ?_) | (refine call_e0 (d:=some 6) (by omega) e43 ( num_L 3 (by decide)) rfl ?_ ?_ hbb ?_ ?_ ?_ ?_ ?_) | (refine call_e1 (d:=some 6) (by omega) e43 ( num_L 3 (by decide)) rfl ?_ ?_ hbb ?_ ?_ ?_ ?_ ?_) | (refine call_e2 (d:=some 6) (by omega) e43 ( num_L 3 (by decide)) rfl ?_ ?_ hbb ?_ ?_ ?_ ?_ ?_) | (refine call_e0 (d:=some 9) (by omega) e43 ( num_L 2 (by decide)) rfl ?_ ?_ hbb ?_ ?_ ?_ ?_ ?_) | (refine call_e1 (d:=some 9) (by omega) e43 ( num_L 2 (by decide)) rfl ?_ ?_ hbb ?_ ?_ ?_ ?_ ?_) | (refine call_e2 (d:=some 9) (by omega) e43 ( num_L 2 (by decide)) rfl ?_ ?_ hbb ?_ ?_ ?_ ?_ ?_) | (refine call_e0 (d:=some 12) (by omega) e43 ( num_L 1 (by decide)) rfl ?_ ?_ hbb ?_ ?_ ?_ ?_ ?_) | (refine call_e1 (d:=some 12) (by omega) e43 ( num_L 1 (by decide)) rfl ?_ ?_ hbb ?_ ?_ ?_ ?_ ?_) | (refine call_e2 (d:=some 12) (by omega) e43 ( num_L 1 (by decide)) rfl ?_ ?_ hbb ?_ ?_ ?_ ?_ ?_) | (refine EndX.plain ?_) | (refine nil_split (fun hn=>?_) (fun hn=>?_)) | (refine gcall_no not_false ?_) | (refine gdcall_no not_false ?_) | (refine GuardS_of _ _ _ _ _ _ (fun hg=>?_) (fun hg=>?_)) | (refine GuardD_of _ _ _ _ (fun hg=>?_) (fun hg=>?_)) | (refine CondB_of _ _ _ _ _ _ _ ?_ (fun hg=>?_) (fun hg=>?_)))
  all_goals first
    | (intro p hp;simp only [List.mem_cons,List.not_mem_nil,or_false] at hp;rcases hp with rfl | rfl<;>simp [y2];done)
    | (intro p hp;simp only [List.mem_cons,List.not_mem_nil,or_false] at hp;subst hp;simp [y2];done)
    | (intro p hp;cases hp;done)
    | (exact .inl (by decide))
    | (show List.IsSuffix _ bb;repeat' (first | assumption | refine (takS_suf _ _).trans ?_ | refine (textS_suf _).trans ?_ | refine (bitS_suf _).trans ?_ | refine (intsS_suf _).trans ?_ | refine (itS_suf _ _).trans ?_))
    | trivial
    | (unfold Fr.below;simp [Fr.allN,AV.allN,AV.allNL,y5];done)
    | (unfold noN;simp [Fr.allN,AV.allN,AV.allNL,AO.allN];done)
    | (unfold Loc.below;simp [AO.allN,AV.allN,AV.allNL,y5];done)
    | (unfold Loc.below;simp only [List.all_cons,List.all_nil,eyO_allN,y5];simp [AO.allN,AV.allN,AV.allNL];done)
    | rfl
    | (refine rd_end ?_ ?_
       · simp only [if_true];rfl
       · intro x z1;simp [z1,hid1])
    | (refine rd_end ?_ ?_
       · simp [askS,ask2]
       · intro x z1;simp [z1,hid1])
theorem pt_L :Looks Try.prog 47 [] (fun s=>partV (partN s)) (fun s=>partS s) (fun s=>True):=by
  intro B σ n bb b e hn hσ hx hbb hp
  refine own_ofL [(n,eyO bb b e)] (hid1_sto hσ) hid1_closed follows Try.func47 c47_eq r47 (Nat.le_of_ble_eq_true rfl) fun hcl hsz=>?_
  clear hsz
  have y1:∀ s,(n = B + s) = False:=fun s=>by simp;omega
  have y2:∀ s,(B + s = n) = False:=fun s=>by simp;omega
  have y3:(n < B) = True:=eq_true hn
  have y4:decide (n < B) = true:=by simpa using hn
  have y5:decide (n < B + 100000) = true:=by simp;omega
  repeat' (first | (simp -implicitDefEqProofs only [*,Nat.reduceBEq,↓reduceIte,Nat.reduceEqDiff,Nat.reduceAdd,reduceCtorEq,AV.kill,Int.reduceLT,Int.reduceToNat,List.getElem?_nil,Nat.reduceMul,Nat.reducePow,Nat.reduceLeDiff,rowOf_mapD,rowOf_mapI,rowOf_mapA,List.getElem?_cons_zero,List.getElem?_cons_succ,take_map_len,take_map_app,List.getElem?_cons_zero,c47,r47,u47_1,u47_2,u47_3,u47_4,u47_5,ty57,ty3,ty26,aokB,aokD,aokA,↓eyO_allN,↓eyO_kill,y1,y2,y3,y4,y5,partV,PartD.row,partN,part2,ints,prEta,mvcgen_simp]) | (with_reducible refine And.intro ?_ ?_) | (refine call_e0 (d:=some 6) (by omega) e43 ( num_L 1 (by decide)) rfl ?_ ?_ hbb ?_ ?_ ?_ ?_ ?_) | (refine call_e1 (d:=some 6) (by omega) e43 ( num_L 1 (by decide)) rfl ?_ ?_ hbb ?_ ?_ ?_ ?_ ?_) | (refine call_e2 (d:=some 6) (by omega) e43 ( num_L 1 (by decide)) rfl ?_ ?_ hbb ?_ ?_ ?_ ?_ ?_) | (refine call_e0 (d:=some 9) (by omega) e43 ( num_L 2 (by decide)) rfl ?_ ?_ hbb ?_ ?_ ?_ ?_ ?_) | (refine call_e1 (d:=some 9) (by omega) e43 ( num_L 2 (by decide)) rfl ?_ ?_ hbb ?_ ?_ ?_ ?_ ?_) | (refine call_e2 (d:=some 9) (by omega) e43 ( num_L 2 (by decide)) rfl ?_ ?_ hbb ?_ ?_ ?_ ?_ ?_) | (refine call_e0 (d:=some 12) (by omega) e49 ( list_L) rfl ?_ ?_ hbb ?_ ?_ ?_ ?_ ?_) | (refine call_e1 (d:=some 12) (by omega) e49 ( list_L) rfl ?_ ?_ hbb ?_ ?_ ?_ ?_ ?_) | (refine call_e2 (d:=some 12) (by omega) e49 ( list_L) rfl ?_ ?_ hbb ?_ ?_ ?_ ?_ ?_) | (refine EndX.plain ?_) | (refine nil_split (fun hn=>?_) (fun hn=>?_)) | (refine gcall_no not_false ?_) | (refine gdcall_no not_false ?_) | (refine GuardS_of _ _ _ _ _ _ (fun hg=>?_) (fun hg=>?_)) | (refine GuardD_of _ _ _ _ (fun hg=>?_) (fun hg=>?_)) | (refine CondB_of _ _ _ _ _ _ _ ?_ (fun hg=>?_) (fun hg=>?_)))
  all_goals first
    | (intro p hp;simp only [List.mem_cons,List.not_mem_nil,or_false] at hp;rcases hp with rfl | rfl<;>simp [y2];done)
    | (intro p hp;simp only [List.mem_cons,List.not_mem_nil,or_false] at hp;subst hp;simp [y2];done)
    | (intro p hp;cases hp;done)
    | (exact .inl (by decide))
    | (show List.IsSuffix _ bb;repeat' (first | assumption | refine (takS_suf _ _).trans ?_ | refine (textS_suf _).trans ?_ | refine (bitS_suf _).trans ?_ | refine (intsS_suf _).trans ?_ | refine (itS_suf _ _).trans ?_))
    | trivial
    | (unfold Fr.below;simp [Fr.allN,AV.allN,AV.allNL,y5];done)
    | (unfold noN;simp [Fr.allN,AV.allN,AV.allNL,AO.allN];done)
    | (unfold Loc.below;simp [AO.allN,AV.allN,AV.allNL,y5];done)
    | (unfold Loc.below;simp only [List.all_cons,List.all_nil,eyO_allN,y5];simp [AO.allN,AV.allN,AV.allNL];done)
    | rfl
    | (refine rd_end ?_ ?_
       · simp only [if_true];rfl
       · intro x z1;simp [z1,hid1])
    | (refine rd_end ?_ ?_
       · simp [partS,part2]
       · intro x z1;simp [z1,hid1])
theorem ver_L :Looks Try.prog 46 [] (fun s=>verV (verN s)) (fun s=>verS s) (fun s=>True):=by
  intro B σ n bb b e hn hσ hx hbb hp
  refine own_ofL [(n,eyO bb b e)] (hid1_sto hσ) hid1_closed follows Try.func46 c46_eq r46 (Nat.le_of_ble_eq_true rfl) fun hcl hsz=>?_
  clear hsz
  have y1:∀ s,(n = B + s) = False:=fun s=>by simp;omega
  have y2:∀ s,(B + s = n) = False:=fun s=>by simp;omega
  have y3:(n < B) = True:=eq_true hn
  have y4:decide (n < B) = true:=by simpa using hn
  have y5:decide (n < B + 100000) = true:=by simp;omega
  repeat' (first | (simp -implicitDefEqProofs only [*,Nat.reduceBEq,↓reduceIte,Nat.reduceEqDiff,Nat.reduceAdd,reduceCtorEq,AV.kill,Int.reduceLT,Int.reduceToNat,List.getElem?_nil,Nat.reduceMul,Nat.reducePow,Nat.reduceLeDiff,rowOf_mapD,rowOf_mapI,rowOf_mapA,List.getElem?_cons_zero,List.getElem?_cons_succ,take_map_len,take_map_app,List.getElem?_cons_zero,c46,r46,u46_1,u46_2,u46_3,u46_4,u46_5,u46_6,u46_7,u46_8,u46_9,u46_10,u46_11,u46_12,u46_13,u46_14,ty51,ty3,ty9,ty4,ty26,aokB,aokD,aokA,↓eyO_allN,↓eyO_kill,y1,y2,y3,y4,y5,verV,VerD.row,verN,ints,vr1,vr2,vr3,vr4,vr5,vr6,vr7,vr8,vr9,vr10,vr11,prEta,mvcgen_simp]) | (with_reducible refine And.intro ?_ ?_) | (refine call_e0 (d:=some 6) (by omega) e43 ( num_L 3 (by decide)) rfl ?_ ?_ hbb ?_ ?_ ?_ ?_ ?_) | (refine call_e1 (d:=some 6) (by omega) e43 ( num_L 3 (by decide)) rfl ?_ ?_ hbb ?_ ?_ ?_ ?_ ?_) | (refine call_e2 (d:=some 6) (by omega) e43 ( num_L 3 (by decide)) rfl ?_ ?_ hbb ?_ ?_ ?_ ?_ ?_) | (refine call_e0 (d:=some 9) (by omega) e44 ( str_L) rfl ?_ ?_ hbb ?_ ?_ ?_ ?_ ?_) | (refine call_e1 (d:=some 9) (by omega) e44 ( str_L) rfl ?_ ?_ hbb ?_ ?_ ?_ ?_ ?_) | (refine call_e2 (d:=some 9) (by omega) e44 ( str_L) rfl ?_ ?_ hbb ?_ ?_ ?_ ?_ ?_) | (refine call_e0 (d:=some 12) (by omega) e44 ( str_L) rfl ?_ ?_ hbb ?_ ?_ ?_ ?_ ?_) | (refine call_e1 (d:=some 12) (by omega) e44 ( str_L) rfl ?_ ?_ hbb ?_ ?_ ?_ ?_ ?_) | (refine call_e2 (d:=some 12) (by omega) e44 ( str_L) rfl ?_ ?_ hbb ?_ ?_ ?_ ?_ ?_) | (refine call_e0 (d:=some 15) (by omega) e70 ( yes_L) rfl ?_ ?_ hbb ?_ ?_ ?_ ?_ ?_) | (refine call_e1 (d:=some 15) (by omega) e70 ( yes_L) rfl ?_ ?_ hbb ?_ ?_ ?_ ?_ ?_) | (refine call_e2 (d:=some 15) (by omega) e70 ( yes_L) rfl ?_ ?_ hbb ?_ ?_ ?_ ?_ ?_) | (refine call_e0 (d:=some 18) (by omega) e70 ( yes_L) rfl ?_ ?_ hbb ?_ ?_ ?_ ?_ ?_) | (refine call_e1 (d:=some 18) (by omega) e70 ( yes_L) rfl ?_ ?_ hbb ?_ ?_ ?_ ?_ ?_) | (refine call_e2 (d:=some 18) (by omega) e70 ( yes_L) rfl ?_ ?_ hbb ?_ ?_ ?_ ?_ ?_) | (refine call_e0 (d:=some 21) (by omega) e43 ( num_L 2 (by decide)) rfl ?_ ?_ hbb ?_ ?_ ?_ ?_ ?_) | (refine call_e1 (d:=some 21) (by omega) e43 ( num_L 2 (by decide)) rfl ?_ ?_ hbb ?_ ?_ ?_ ?_ ?_) | (refine call_e2 (d:=some 21) (by omega) e43 ( num_L 2 (by decide)) rfl ?_ ?_ hbb ?_ ?_ ?_ ?_ ?_) | (refine call_e0 (d:=some 24) (by omega) e43 ( num_L 4 (by decide)) rfl ?_ ?_ hbb ?_ ?_ ?_ ?_ ?_) | (refine call_e1 (d:=some 24) (by omega) e43 ( num_L 4 (by decide)) rfl ?_ ?_ hbb ?_ ?_ ?_ ?_ ?_) | (refine call_e2 (d:=some 24) (by omega) e43 ( num_L 4 (by decide)) rfl ?_ ?_ hbb ?_ ?_ ?_ ?_ ?_) | (refine call_e0 (d:=some 27) (by omega) e43 ( num_L 1 (by decide)) rfl ?_ ?_ hbb ?_ ?_ ?_ ?_ ?_) | (refine call_e1 (d:=some 27) (by omega) e43 ( num_L 1 (by decide)) rfl ?_ ?_ hbb ?_ ?_ ?_ ?_ ?_) | (refine call_e2 (d:=some 27) (by omega) e43 ( num_L 1 (by decide)) rfl ?_ ?_ hbb ?_ ?_ ?_ ?_ ?_) | (refine call_e0 (d:=some 30) (by omega) e49 ( list_L) rfl ?_ ?_ hbb ?_ ?_ ?_ ?_ ?_) | (refine call_e1 (d:=some 30) (by omega) e49 ( list_L) rfl ?_ ?_ hbb ?_ ?_ ?_ ?_ ?_) | (refine call_e2 (d:=some 30) (by omega) e49 ( list_L) rfl ?_ ?_ hbb ?_ ?_ ?_ ?_ ?_) | (refine call_e0 (d:=some 33) (by omega) e43 ( num_L 1 (by decide)) rfl ?_ ?_ hbb ?_ ?_ ?_ ?_ ?_) | (refine call_e1 (d:=some 33) (by omega) e43 ( num_L 1 (by decide)) rfl ?_ ?_ hbb ?_ ?_ ?_ ?_ ?_) | (refine call_e2 (d:=some 33) (by omega) e43 ( num_L 1 (by decide)) rfl ?_ ?_ hbb ?_ ?_ ?_ ?_ ?_) | (refine call_e0 (d:=some 36) (by omega) e43 ( num_L 2 (by decide)) rfl ?_ ?_ hbb ?_ ?_ ?_ ?_ ?_) | (refine call_e1 (d:=some 36) (by omega) e43 ( num_L 2 (by decide)) rfl ?_ ?_ hbb ?_ ?_ ?_ ?_ ?_) | (refine call_e2 (d:=some 36) (by omega) e43 ( num_L 2 (by decide)) rfl ?_ ?_ hbb ?_ ?_ ?_ ?_ ?_) | (refine call_e0 (d:=some 39) (by omega) e43 ( num_L 4 (by decide)) rfl ?_ ?_ hbb ?_ ?_ ?_ ?_ ?_) | (refine call_e1 (d:=some 39) (by omega) e43 ( num_L 4 (by decide)) rfl ?_ ?_ hbb ?_ ?_ ?_ ?_ ?_) | (refine call_e2 (d:=some 39) (by omega) e43 ( num_L 4 (by decide)) rfl ?_ ?_ hbb ?_ ?_ ?_ ?_ ?_) | (refine EndX.plain ?_) | (refine nil_split (fun hn=>?_) (fun hn=>?_)) | (refine gcall_no not_false ?_) | (refine gdcall_no not_false ?_) | (refine GuardS_of _ _ _ _ _ _ (fun hg=>?_) (fun hg=>?_)) | (refine GuardD_of _ _ _ _ (fun hg=>?_) (fun hg=>?_)) | (refine CondB_of _ _ _ _ _ _ _ ?_ (fun hg=>?_) (fun hg=>?_)))
  all_goals first
    | (intro p hp;simp only [List.mem_cons,List.not_mem_nil,or_false] at hp;rcases hp with rfl | rfl<;>simp [y2];done)
    | (intro p hp;simp only [List.mem_cons,List.not_mem_nil,or_false] at hp;subst hp;simp [y2];done)
    | (intro p hp;cases hp;done)
    | (exact .inl (by decide))
    | (show List.IsSuffix _ bb;repeat' (first | assumption | refine (takS_suf _ _).trans ?_ | refine (textS_suf _).trans ?_ | refine (bitS_suf _).trans ?_ | refine (intsS_suf _).trans ?_ | refine (itS_suf _ _).trans ?_))
    | trivial
    | (unfold Fr.below;simp [Fr.allN,AV.allN,AV.allNL,y5];done)
    | (unfold noN;simp [Fr.allN,AV.allN,AV.allNL,AO.allN];done)
    | (unfold Loc.below;simp [AO.allN,AV.allN,AV.allNL,y5];done)
    | (unfold Loc.below;simp only [List.all_cons,List.all_nil,eyO_allN,y5];simp [AO.allN,AV.allN,AV.allNL];done)
    | rfl
    | (refine rd_end ?_ ?_
       · simp only [if_true];rfl
       · intro x z1;simp [z1,hid1])
    | (refine rd_end ?_ ?_
       · simp [verS]
       · intro x z1;simp [z1,hid1])
end Go.Proofs.Ytijpmidnclbhpaa
