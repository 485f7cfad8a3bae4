/- The reader's version. -/
import Derived.Test.YtijpmidnclbhpaaKU
import Derived.Test.YtijpmidnclbhpaaTypes
namespace Go.Proofs.Ytijpmidnclbhpaa
open Go.RowKit
set_option maxRecDepth 100000
def c35_1:SC:=(.seq (.reg [SO.mk (some 40) (.load 51 (.tmp 3)) none,SO.mk none (.store 51 (.tmp 2) (.tmp 40)) none]) (.keep [2] .ret))
theorem u35_1:type_of% (@swc _ _ c35_1.eq_1):=@swc _ _ c35_1.eq_1
def c35_2:SC:=(.seq (.reg [SO.mk (some 37) (.move (.tmp 0)) none,SO.mk (some 38) (.call 29 [(.tmp 37),(.const (Value.int .i64 4))]) none,SO.mk (some 39) (.faddr 51 (.tmp 3) 11) none,SO.mk none (.store 3 (.tmp 39) (.tmp 38)) none]) (.keep [3,2] c35_1))
theorem u35_2:type_of% (@swc _ _ c35_2.eq_1):=@swc _ _ c35_2.eq_1
def c35_3:SC:=(.seq (.reg [SO.mk (some 34) (.move (.tmp 0)) none,SO.mk (some 35) (.call 29 [(.tmp 34),(.const (Value.int .i64 2))]) none,SO.mk (some 36) (.faddr 51 (.tmp 3) 10) none,SO.mk none (.store 3 (.tmp 36) (.tmp 35)) none]) (.keep [0,3,2] c35_2))
theorem u35_3:type_of% (@swc _ _ c35_3.eq_1):=@swc _ _ c35_3.eq_1
def c35_4:SC:=(.seq (.reg [SO.mk (some 31) (.move (.tmp 0)) none,SO.mk (some 32) (.call 29 [(.tmp 31),(.const (Value.int .i64 1))]) none,SO.mk (some 33) (.faddr 51 (.tmp 3) 9) none,SO.mk none (.store 3 (.tmp 33) (.tmp 32)) none]) (.keep [0,3,2] c35_3))
theorem u35_4:type_of% (@swc _ _ c35_4.eq_1):=@swc _ _ c35_4.eq_1
def c35_5:SC:=(.seq (.reg [SO.mk (some 28) (.move (.tmp 0)) none,SO.mk (some 29) (.call 41 [(.tmp 28)]) none,SO.mk (some 30) (.faddr 51 (.tmp 3) 8) none,SO.mk none (.store 26 (.tmp 30) (.tmp 29)) none]) (.keep [0,3,2] c35_4))
theorem u35_5:type_of% (@swc _ _ c35_5.eq_1):=@swc _ _ c35_5.eq_1
def c35_6:SC:=(.seq (.reg [SO.mk (some 25) (.move (.tmp 0)) none,SO.mk (some 26) (.call 29 [(.tmp 25),(.const (Value.int .i64 1))]) none,SO.mk (some 27) (.faddr 51 (.tmp 3) 7) none,SO.mk none (.store 3 (.tmp 27) (.tmp 26)) none]) (.keep [0,3,2] c35_5))
theorem u35_6:type_of% (@swc _ _ c35_6.eq_1):=@swc _ _ c35_6.eq_1
def c35_7:SC:=(.seq (.reg [SO.mk (some 22) (.move (.tmp 0)) none,SO.mk (some 23) (.call 29 [(.tmp 22),(.const (Value.int .i64 4))]) none,SO.mk (some 24) (.faddr 51 (.tmp 3) 6) none,SO.mk none (.store 3 (.tmp 24) (.tmp 23)) none]) (.keep [0,3,2] c35_6))
theorem u35_7:type_of% (@swc _ _ c35_7.eq_1):=@swc _ _ c35_7.eq_1
def c35_8:SC:=(.seq (.reg [SO.mk (some 19) (.move (.tmp 0)) none,SO.mk (some 20) (.call 29 [(.tmp 19),(.const (Value.int .i64 2))]) none,SO.mk (some 21) (.faddr 51 (.tmp 3) 5) none,SO.mk none (.store 3 (.tmp 21) (.tmp 20)) none]) (.keep [0,3,2] c35_7))
theorem u35_8:type_of% (@swc _ _ c35_8.eq_1):=@swc _ _ c35_8.eq_1
def c35_9:SC:=(.seq (.reg [SO.mk (some 16) (.move (.tmp 0)) none,SO.mk (some 17) (.call 68 [(.tmp 16)]) none,SO.mk (some 18) (.faddr 51 (.tmp 3) 4) none,SO.mk none (.store 4 (.tmp 18) (.tmp 17)) none]) (.keep [0,3,2] c35_8))
theorem u35_9:type_of% (@swc _ _ c35_9.eq_1):=@swc _ _ c35_9.eq_1
def c35_10:SC:=(.seq (.reg [SO.mk (some 13) (.move (.tmp 0)) none,SO.mk (some 14) (.call 68 [(.tmp 13)]) none,SO.mk (some 15) (.faddr 51 (.tmp 3) 3) none,SO.mk none (.store 4 (.tmp 15) (.tmp 14)) none]) (.keep [0,3,2] c35_9))
theorem u35_10:type_of% (@swc _ _ c35_10.eq_1):=@swc _ _ c35_10.eq_1
def c35_11:SC:=(.seq (.reg [SO.mk (some 10) (.move (.tmp 0)) none,SO.mk (some 11) (.call 32 [(.tmp 10)]) none,SO.mk (some 12) (.faddr 51 (.tmp 3) 2) none,SO.mk none (.store 9 (.tmp 12) (.tmp 11)) none]) (.keep [0,3,2] c35_10))
theorem u35_11:type_of% (@swc _ _ c35_11.eq_1):=@swc _ _ c35_11.eq_1
def c35_12:SC:=(.seq (.reg [SO.mk (some 7) (.move (.tmp 0)) none,SO.mk (some 8) (.call 32 [(.tmp 7)]) none,SO.mk (some 9) (.faddr 51 (.tmp 3) 1) none,SO.mk none (.store 9 (.tmp 9) (.tmp 8)) none]) (.keep [0,3,2] c35_11))
theorem u35_12:type_of% (@swc _ _ c35_12.eq_1):=@swc _ _ c35_12.eq_1
def c35_13:SC:=(.seq (.reg [SO.mk (some 4) (.move (.tmp 0)) none,SO.mk (some 5) (.call 29 [(.tmp 4),(.const (Value.int .i64 3))]) none,SO.mk (some 6) (.faddr 51 (.tmp 3) 0) none,SO.mk none (.store 3 (.tmp 6) (.tmp 5)) none]) (.keep [0,3,2] c35_12))
theorem u35_13:type_of% (@swc _ _ c35_13.eq_1):=@swc _ _ c35_13.eq_1
def c35_14:SC:=(.seq (.reg [SO.mk (some 3) (.alloc 51) none]) (.keep [0,3,2] c35_13))
theorem u35_14:type_of% (@swc _ _ c35_14.eq_1):=@swc _ _ c35_14.eq_1
def c35:SC:=(.seq (.reg [SO.mk (some 2) (.alloc 51) none]) (.keep [0,2] c35_14))
theorem c35_eq:annC Try.f35 = some c35:=by kernel_rfl
theorem r35:Try.f35.results.toList = [.cell 2 51]:=by kernel_rfl
theorem e35:enters Try.prog 35 = true:=by kernel_rfl
end Go.Proofs.Ytijpmidnclbhpaa
namespace Go.Proofs.Ytijpmidnclbhpaa
open Go.RowKit
set_option maxHeartbeats 4000000
set_option maxRecDepth 20000
attribute [local irreducible] SW OSW SWL SWLn SWD SEcall SEcallv SDv SE SO1 SOg ACalls ACallv Wk EndV
set_option linter.unusedSimpArgs false
set_option linter.unusedVariables false
attribute [local irreducible] takS textS bitS intsS takN textN bitN intsN rdO
theorem ver_R :Reads Try.prog 35 [] (fun s=>verV (verN s)) (fun s=>verS s) (fun s=>True):=by
  intro B σ n b e hn hσ hp
  refine own_ofL [(n,rdO b e)] (hid1_sto hσ) hid1_closed follows Try.func35 c35_eq r35 (Nat.le_of_ble_eq_true rfl) fun hcl hsz=>?_
  clear hsz
  have y1:∀ s,(n = B + s) = False:=fun s=>by simp;omega
  have y2:∀ s,(B + s = n) = False:=fun s=>by simp;omega
  have y3:(n < B) = True:=eq_true hn
  have y4:decide (n < B) = true:=by simpa using hn
  have y5:decide (n < B + 100000) = true:=by simp;omega
  repeat' (first | (simp -implicitDefEqProofs only [*,Nat.reduceBEq,↓reduceIte,Nat.reduceEqDiff,Nat.reduceAdd,reduceCtorEq,AV.kill,Int.reduceLT,Int.reduceToNat,List.getElem?_nil,Nat.reduceMul,Nat.reducePow,Nat.reduceLeDiff,rowOf_mapD,rowOf_mapI,rowOf_mapA,List.getElem?_cons_zero,List.getElem?_cons_succ,take_map_len,take_map_app,List.getElem?_cons_zero,c35,r35,u35_1,u35_2,u35_3,u35_4,u35_5,u35_6,u35_7,u35_8,u35_9,u35_10,u35_11,u35_12,u35_13,u35_14,ty51,ty3,ty9,ty4,ty26,aokB,aokD,aokA,↓rdO_allN,↓rdO_kill,y1,y2,y3,y4,y5,verV,VerD.row,verN,ints,vr1,vr2,vr3,vr4,vr5,vr6,vr7,vr8,vr9,vr10,vr11,prEta,mvcgen_simp]) | (with_reducible refine And.intro ?_ ?_) | (refine call_r0 (d:=some 5) (by omega) e29 ( take_R 3) rfl ?_ ?_ ?_ ?_ ?_ ?_) | (refine call_r1 (d:=some 5) (by omega) e29 ( take_R 3) rfl ?_ ?_ ?_ ?_ ?_ ?_) | (refine call_r2 (d:=some 5) (by omega) e29 ( take_R 3) rfl ?_ ?_ ?_ ?_ ?_ ?_) | (refine call_r0 (d:=some 8) (by omega) e32 ( text_R) rfl ?_ ?_ ?_ ?_ ?_ ?_) | (refine call_r1 (d:=some 8) (by omega) e32 ( text_R) rfl ?_ ?_ ?_ ?_ ?_ ?_) | (refine call_r2 (d:=some 8) (by omega) e32 ( text_R) rfl ?_ ?_ ?_ ?_ ?_ ?_) | (refine call_r0 (d:=some 11) (by omega) e32 ( text_R) rfl ?_ ?_ ?_ ?_ ?_ ?_) | (refine call_r1 (d:=some 11) (by omega) e32 ( text_R) rfl ?_ ?_ ?_ ?_ ?_ ?_) | (refine call_r2 (d:=some 11) (by omega) e32 ( text_R) rfl ?_ ?_ ?_ ?_ ?_ ?_) | (refine call_r0 (d:=some 14) (by omega) e68 ( bit_R) rfl ?_ ?_ ?_ ?_ ?_ ?_) | (refine call_r1 (d:=some 14) (by omega) e68 ( bit_R) rfl ?_ ?_ ?_ ?_ ?_ ?_) | (refine call_r2 (d:=some 14) (by omega) e68 ( bit_R) rfl ?_ ?_ ?_ ?_ ?_ ?_) | (refine call_r0 (d:=some 17) (by omega) e68 ( bit_R) rfl ?_ ?_ ?_ ?_ ?_ ?_) | (refine call_r1 (d:=some 17) (by omega) e68 ( bit_R) rfl ?_ ?_ ?_ ?_ ?_ ?_) | (refine call_r2 (d:=some 17) (by omega) e68 ( bit_R) rfl ?_ ?_ ?_ ?_ ?_ ?_) | (refine call_r0 (d:=some 20) (by omega) e29 ( take_R 2) rfl ?_ ?_ ?_ ?_ ?_ ?_) | (refine call_r1 (d:=some 20) (by omega) e29 ( take_R 2) rfl ?_ ?_ ?_ ?_ ?_ ?_) | (refine call_r2 (d:=some 20) (by omega) e29 ( take_R 2) rfl ?_ ?_ ?_ ?_ ?_ ?_) | (refine call_r0 (d:=some 23) (by omega) e29 ( take_R 4) rfl ?_ ?_ ?_ ?_ ?_ ?_) | (refine call_r1 (d:=some 23) (by omega) e29 ( take_R 4) rfl ?_ ?_ ?_ ?_ ?_ ?_) | (refine call_r2 (d:=some 23) (by omega) e29 ( take_R 4) rfl ?_ ?_ ?_ ?_ ?_ ?_) | (refine call_r0 (d:=some 26) (by omega) e29 ( take_R 1) rfl ?_ ?_ ?_ ?_ ?_ ?_) | (refine call_r1 (d:=some 26) (by omega) e29 ( take_R 1) rfl ?_ ?_ ?_ ?_ ?_ ?_) | (refine call_r2 (d:=some 26) (by omega) e29 ( take_R 1) rfl ?_ ?_ ?_ ?_ ?_ ?_) | (refine call_r0 (d:=some 29) (by omega) e41 ( ints_R) rfl ?_ ?_ ?_ ?_ ?_ ?_) | (refine call_r1 (d:=some 29) (by omega) e41 ( ints_R) rfl ?_ ?_ ?_ ?_ ?_ ?_) | (refine call_r2 (d:=some 29) (by omega) e41 ( ints_R) rfl ?_ ?_ ?_ ?_ ?_ ?_) | (refine call_r0 (d:=some 32) (by omega) e29 ( take_R 1) rfl ?_ ?_ ?_ ?_ ?_ ?_) | (refine call_r1 (d:=some 32) (by omega) e29 ( take_R 1) rfl ?_ ?_ ?_ ?_ ?_ ?_) | (refine call_r2 (d:=some 32) (by omega) e29 ( take_R 1) rfl ?_ ?_ ?_ ?_ ?_ ?_) | (refine call_r0 (d:=some 35) (by omega) e29 ( take_R 2) rfl ?_ ?_ ?_ ?_ ?_ ?_) | (refine call_r1 (d:=some 35) (by omega) e29 ( take_R 2) rfl ?_ ?_ ?_ ?_ ?_ ?_) | (refine call_r2 (d:=some 35) (by omega) e29 ( take_R 2) rfl ?_ ?_ ?_ ?_ ?_ ?_) | (refine call_r0 (d:=some 38) (by omega) e29 ( take_R 4) rfl ?_ ?_ ?_ ?_ ?_ ?_) | (refine call_r1 (d:=some 38) (by omega) e29 ( take_R 4) rfl ?_ ?_ ?_ ?_ ?_ ?_) | (refine call_r2 (d:=some 38) (by omega) e29 ( take_R 4) rfl ?_ ?_ ?_ ?_ ?_ ?_) | (refine EndX.plain ?_) | (refine nil_split (fun hn=>?_) (fun hn=>?_)) | (refine gcall_no not_false ?_) | (refine gdcall_no not_false ?_) | (refine GuardS_of _ _ _ _ _ _ (fun hg=>?_) (fun hg=>?_)) | (refine GuardD_of _ _ _ _ (fun hg=>?_) (fun hg=>?_)) | (refine CondB_of _ _ _ _ _ _ _ ?_ (fun hg=>?_) (fun hg=>?_)))
  all_goals first
    | (intro p hp;simp only [List.mem_cons,List.not_mem_nil,or_false] at hp;rcases hp with rfl | rfl<;>simp [y2];done)
    | (intro p hp;simp only [List.mem_cons,List.not_mem_nil,or_false] at hp;subst hp;simp [y2];done)
    | (intro p hp;cases hp;done)
    | (exact .inl (by decide))
    | trivial
    | (unfold Fr.below;simp [Fr.allN,AV.allN,AV.allNL,y5];done)
    | (unfold Loc.below;simp only [List.all_cons,List.all_nil,rdO_allN,y5];simp [AO.allN,AV.allN,AV.allNL];done)
    | rfl
    | (refine rd_end ?_ ?_
       · simp only [if_true];rfl
       · intro x z1;simp [z1,hid1])
    | (refine rd_end ?_ ?_
       · simp [verS]
       · intro x z1;simp [z1,hid1])
end Go.Proofs.Ytijpmidnclbhpaa
