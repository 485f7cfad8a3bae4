/- The reader's calls. -/
import Derived.Test.YtijpmidnclbhpaaKUD
import Derived.Test.YtijpmidnclbhpaaTypes
namespace Go.Proofs.Ytijpmidnclbhpaa
open Go.RowKit
set_option maxRecDepth 100000
def o68_1:List SO:=((SO.mk (some 14) (.pick (.tmp 8) (.tmp 13) (.const (Value.bool false))) none) :: [])
theorem v68_1:type_of% (@swl _ _ o68_1.eq_1):=@swl _ _ o68_1.eq_1
def o68_2:List SO:=((SO.mk (some 10) (.nilCheck (.tmp 9)) (some (8 ,true))) :: (SO.mk (some 11) (.faddr 73 (.tmp 10) 1) (some (8 ,true))) :: (SO.mk (some 12) (.load 30 (.tmp 11)) (some (8 ,true))) :: (SO.mk (some 13) (.bin .eql 30 (.tmp 12) (.const (Value.int .i64 0))) (some (8 ,true))) :: o68_1)
theorem v68_2:type_of% (@swl _ _ o68_2.eq_1):=@swl _ _ o68_2.eq_1
def c68_3:SC:=(.reg [SO.mk (some 15) (.move (.tmp 0)) none,SO.mk (some 16) (.nilCheck (.tmp 15)) none,SO.mk (some 17) (.faddr 73 (.tmp 16) 1) none,SO.mk none (.store 30 (.tmp 17) (.const (Value.int .i64 4))) none])
theorem u68_3:type_of% (@swc _ _ c68_3.eq_1):=@swc _ _ c68_3.eq_1
def c68_4:SC:=(.cond (.tmp 14) c68_3 .skip)
theorem u68_4:type_of% (@swc _ _ c68_4.eq_1):=@swc _ _ c68_4.eq_1
def c68_5:SC:=(.seq (.reg [SO.mk (some 18) (.move (.tmp 3)) none,SO.mk (some 19) (.bin .eql 3 (.tmp 18) (.const (Value.int .i64 1))) none,SO.mk (some 2) (.move (.tmp 19)) none]) (.keep [2] .ret))
theorem u68_5:type_of% (@swc _ _ c68_5.eq_1):=@swc _ _ c68_5.eq_1
def c68_6:SC:=(.seq (.seq (.reg ((SO.mk (some 6) (.move (.tmp 3)) none) :: (SO.mk (some 7) (.bin .gtr 3 (.tmp 6) (.const (Value.int .i64 1))) none) :: (SO.mk (some 8) (.move (.tmp 7)) none) :: (SO.mk (some 9) (.move (.tmp 0)) (some (8 ,true))) :: o68_2)) (.keep [14,0,3] c68_4)) (.keep [3] c68_5))
theorem u68_6:type_of% (@swc _ _ c68_6.eq_1):=@swc _ _ c68_6.eq_1
def c68_7:SC:=(.seq (.reg [SO.mk (some 4) (.move (.tmp 0)) none,SO.mk (some 5) (.call 29 [(.tmp 4),(.const (Value.int .i64 1))]) none,SO.mk (some 3) (.move (.tmp 5)) none]) (.keep [0,3] c68_6))
theorem u68_7:type_of% (@swc _ _ c68_7.eq_1):=@swc _ _ c68_7.eq_1
def c68:SC:=(.seq (.reg [SO.mk (some 2) (.move (.const (Value.bool false))) none]) (.keep [0] c68_7))
theorem c68_eq:annC Try.f68 = some c68:=by kernel_rfl
theorem r68:Try.f68.results.toList = [.tmp 2]:=by kernel_rfl
theorem e68:enters Try.prog 68 = true:=by kernel_rfl
def o32_1:List SO:=((SO.mk (some 11) (.load 29 (.tmp 10)) none) :: (SO.mk (some 12) (.len 29 (.tmp 11)) none) :: (SO.mk (some 13) (.bin .gtr 3 (.tmp 7) (.tmp 12)) none) :: [])
theorem v32_1:type_of% (@swl _ _ o32_1.eq_1):=@swl _ _ o32_1.eq_1
def c32_2:SC:=(.seq (.reg [SO.mk (some 2) (.move (.const (Value.string ⟨#[]⟩))) none]) (.keep [2] .ret))
theorem u32_2:type_of% (@swc _ _ c32_2.eq_1):=@swc _ _ c32_2.eq_1
def c32_3:SC:=(.seq (.reg [SO.mk (some 14) (.move (.tmp 0)) none,SO.mk (some 15) (.move (.tmp 3)) none,SO.mk (some 16) (.call 29 [(.tmp 14),(.tmp 15)]) none]) (.keep [] c32_2))
theorem u32_3:type_of% (@swc _ _ c32_3.eq_1):=@swc _ _ c32_3.eq_1
def c32_4:SC:=(.cond (.tmp 13) c32_3 .skip)
theorem u32_4:type_of% (@swc _ _ c32_4.eq_1):=@swc _ _ c32_4.eq_1
def o32_5:List SO:=((SO.mk (some 21) (.move (.tmp 3)) none) :: (SO.mk (some 22) (.slice 29 (.tmp 20) none (some (.tmp 21))) none) :: (SO.mk (some 23) (.conv 29 9 (.tmp 22)) none) :: (SO.mk (some 4) (.move (.tmp 23)) none) :: [])
theorem v32_5:type_of% (@swl _ _ o32_5.eq_1):=@swl _ _ o32_5.eq_1
def o32_6:List SO:=((SO.mk (some 32) (.faddr 73 (.tmp 31) 0) none) :: (SO.mk none (.store 29 (.tmp 32) (.tmp 30)) none) :: [])
theorem v32_6:type_of% (@swl _ _ o32_6.eq_1):=@swl _ _ o32_6.eq_1
def o32_7:List SO:=((SO.mk (some 28) (.load 29 (.tmp 27)) none) :: (SO.mk (some 29) (.move (.tmp 3)) none) :: (SO.mk (some 30) (.slice 29 (.tmp 28) (some (.tmp 29)) none) none) :: (SO.mk (some 31) (.nilCheck (.tmp 24)) none) :: o32_6)
theorem v32_7:type_of% (@swl _ _ o32_7.eq_1):=@swl _ _ o32_7.eq_1
def c32_8:SC:=(.seq (.reg [SO.mk (some 33) (.move (.tmp 4)) none,SO.mk (some 2) (.move (.tmp 33)) none]) (.keep [2] .ret))
theorem u32_8:type_of% (@swc _ _ c32_8.eq_1):=@swc _ _ c32_8.eq_1
def c32_9:SC:=(.seq (.reg ((SO.mk (some 24) (.move (.tmp 0)) none) :: (SO.mk (some 25) (.move (.tmp 0)) none) :: (SO.mk (some 26) (.nilCheck (.tmp 25)) none) :: (SO.mk (some 27) (.faddr 73 (.tmp 26) 0) none) :: o32_7)) (.keep [4] c32_8))
theorem u32_9:type_of% (@swc _ _ c32_9.eq_1):=@swc _ _ c32_9.eq_1
def c32_10:SC:=(.seq (.reg ((SO.mk (some 17) (.move (.tmp 0)) none) :: (SO.mk (some 18) (.nilCheck (.tmp 17)) none) :: (SO.mk (some 19) (.faddr 73 (.tmp 18) 0) none) :: (SO.mk (some 20) (.load 29 (.tmp 19)) none) :: o32_5)) (.keep [0,3,4] c32_9))
theorem u32_10:type_of% (@swc _ _ c32_10.eq_1):=@swc _ _ c32_10.eq_1
def c32_11:SC:=(.seq (.seq (.reg ((SO.mk (some 7) (.move (.tmp 3)) none) :: (SO.mk (some 8) (.move (.tmp 0)) none) :: (SO.mk (some 9) (.nilCheck (.tmp 8)) none) :: (SO.mk (some 10) (.faddr 73 (.tmp 9) 0) none) :: o32_1)) (.keep [13,0,3] c32_4)) (.keep [0,3] c32_10))
theorem u32_11:type_of% (@swc _ _ c32_11.eq_1):=@swc _ _ c32_11.eq_1
def c32_12:SC:=(.seq (.reg [SO.mk (some 5) (.move (.tmp 0)) none,SO.mk (some 6) (.call 29 [(.tmp 5),(.const (Value.int .i64 1))]) none,SO.mk (some 3) (.move (.tmp 6)) none]) (.keep [0,3] c32_11))
theorem u32_12:type_of% (@swc _ _ c32_12.eq_1):=@swc _ _ c32_12.eq_1
def c32:SC:=(.seq (.reg [SO.mk (some 2) (.move (.const (Value.string ⟨#[]⟩))) none]) (.keep [0] c32_12))
theorem c32_eq:annC Try.f32 = some c32:=by kernel_rfl
theorem r32:Try.f32.results.toList = [.tmp 2]:=by kernel_rfl
theorem e32:enters Try.prog 32 = true:=by kernel_rfl
def o41_1:List SO:=((SO.mk (some 15) (.pick (.tmp 9) (.tmp 14) (.const (Value.bool false))) none) :: [])
theorem v41_1:type_of% (@swl _ _ o41_1.eq_1):=@swl _ _ o41_1.eq_1
def o41_2:List SO:=((SO.mk (some 11) (.nilCheck (.tmp 10)) (some (9 ,true))) :: (SO.mk (some 12) (.faddr 73 (.tmp 11) 1) (some (9 ,true))) :: (SO.mk (some 13) (.load 30 (.tmp 12)) (some (9 ,true))) :: (SO.mk (some 14) (.bin .eql 30 (.tmp 13) (.const (Value.int .i64 0))) (some (9 ,true))) :: o41_1)
theorem v41_2:type_of% (@swl _ _ o41_2.eq_1):=@swl _ _ o41_2.eq_1
def c41_3:SC:=(.cond (.tmp 15) .skip (.exit 0))
theorem u41_3:type_of% (@swc _ _ c41_3.eq_1):=@swc _ _ c41_3.eq_1
def o41_4:List SO:=((SO.mk (some 22) (.app 26 26 (.tmp 18) (.tmp 21)) none) :: (SO.mk (some 3) (.move (.tmp 22)) none) :: [])
theorem v41_4:type_of% (@swl _ _ o41_4.eq_1):=@swl _ _ o41_4.eq_1
def c41_5:SC:=(.reg [SO.mk (some 16) (.move (.tmp 4)) none,SO.mk (some 17) (.bin .sub 3 (.tmp 16) (.const (Value.int .i64 1))) none,SO.mk (some 4) (.move (.tmp 17)) none])
theorem u41_5:type_of% (@swc _ _ c41_5.eq_1):=@swc _ _ c41_5.eq_1
def c41_6:SC:=(.seq (.block 1 (.reg ((SO.mk (some 18) (.move (.tmp 3)) none) :: (SO.mk (some 19) (.move (.tmp 0)) none) :: (SO.mk (some 20) (.call 29 [(.tmp 19),(.const (Value.int .i64 1))]) none) :: (SO.mk (some 21) (.bslice 26 1 [(0 ,(.tmp 20))]) none) :: o41_4))) (.keep [4,0,3] c41_5))
theorem u41_6:type_of% (@swc _ _ c41_6.eq_1):=@swc _ _ c41_6.eq_1
def c41_7:SC:=(.seq (.seq (.reg ((SO.mk (some 7) (.move (.tmp 4)) none) :: (SO.mk (some 8) (.bin .gtr 3 (.tmp 7) (.const (Value.int .i64 0))) none) :: (SO.mk (some 9) (.move (.tmp 8)) none) :: (SO.mk (some 10) (.move (.tmp 0)) (some (9 ,true))) :: o41_2)) (.keep [15,0,4,3] c41_3)) (.keep [3,4,0] c41_6))
theorem u41_7:type_of% (@swc _ _ c41_7.eq_1):=@swc _ _ c41_7.eq_1
def c41_8:SC:=(.block 0 (.loop (.keep [0,4,3] c41_7)))
theorem u41_8:type_of% (@swc _ _ c41_8.eq_1):=@swc _ _ c41_8.eq_1
def c41_9:SC:=(.seq (.reg [SO.mk (some 23) (.move (.tmp 3)) none,SO.mk (some 2) (.move (.tmp 23)) none]) (.keep [2] .ret))
theorem u41_9:type_of% (@swc _ _ c41_9.eq_1):=@swc _ _ c41_9.eq_1
def c41_10:SC:=(.seq (.seq (.reg [SO.mk (some 5) (.move (.tmp 0)) none,SO.mk (some 6) (.call 29 [(.tmp 5),(.const (Value.int .i64 1))]) none,SO.mk (some 4) (.move (.tmp 6)) none]) (.keep [0,4,3] c41_8)) (.keep [3] c41_9))
theorem u41_10:type_of% (@swc _ _ c41_10.eq_1):=@swc _ _ c41_10.eq_1
def c41_11:SC:=(.seq (.reg [SO.mk (some 3) (.move (.const (Value.slice none 0 0))) none]) (.keep [0,3] c41_10))
theorem u41_11:type_of% (@swc _ _ c41_11.eq_1):=@swc _ _ c41_11.eq_1
def c41:SC:=(.seq (.reg [SO.mk (some 2) (.move (.const (Value.slice none 0 0))) none]) (.keep [0] c41_11))
theorem c41_eq:annC Try.f41 = some c41:=by kernel_rfl
theorem r41:Try.f41.results.toList = [.tmp 2]:=by kernel_rfl
theorem e41:enters Try.prog 41 = true:=by kernel_rfl
def o33_1:List SO:=((SO.mk (some 13) (.call 29 [(.tmp 12),(.const (Value.int .i64 4))]) none) :: (SO.mk (some 14) (.bin .sub 3 (.tmp 13) (.const (Value.int .i64 1))) none) :: (SO.mk (some 15) (.build 45 [(0 ,(.tmp 9)),(1 ,(.tmp 11)),(2 ,(.tmp 14))]) none) :: (SO.mk none (.store 45 (.tmp 2) (.tmp 15)) none) :: [])
theorem v33_1:type_of% (@swl _ _ o33_1.eq_1):=@swl _ _ o33_1.eq_1
def c33_2:SC:=(.seq (.reg ((SO.mk (some 9) (.move (.tmp 3)) none) :: (SO.mk (some 10) (.move (.tmp 4)) none) :: (SO.mk (some 11) (.bin .sub 3 (.tmp 10) (.const (Value.int .i64 1))) none) :: (SO.mk (some 12) (.move (.tmp 0)) none) :: o33_1)) (.keep [2] .ret))
theorem u33_2:type_of% (@swc _ _ c33_2.eq_1):=@swc _ _ c33_2.eq_1
def c33_3:SC:=(.seq (.reg [SO.mk (some 7) (.move (.tmp 0)) none,SO.mk (some 8) (.call 29 [(.tmp 7),(.const (Value.int .i64 4))]) none,SO.mk (some 4) (.move (.tmp 8)) none]) (.keep [3,4,0,2] c33_2))
theorem u33_3:type_of% (@swc _ _ c33_3.eq_1):=@swc _ _ c33_3.eq_1
def c33_4:SC:=(.seq (.reg [SO.mk (some 5) (.move (.tmp 0)) none,SO.mk (some 6) (.call 32 [(.tmp 5)]) none,SO.mk (some 3) (.move (.tmp 6)) none]) (.keep [3,0,2] c33_3))
theorem u33_4:type_of% (@swc _ _ c33_4.eq_1):=@swc _ _ c33_4.eq_1
def c33:SC:=(.seq (.reg [SO.mk (some 2) (.alloc 45) none]) (.keep [0,2] c33_4))
theorem c33_eq:annC Try.f33 = some c33:=by kernel_rfl
theorem r33:Try.f33.results.toList = [.cell 2 45]:=by kernel_rfl
theorem e33:enters Try.prog 33 = true:=by kernel_rfl
def c40_1:SC:=(.seq (.reg [SO.mk (some 13) (.load 60 (.tmp 3)) none,SO.mk none (.store 60 (.tmp 2) (.tmp 13)) none]) (.keep [2] .ret))
theorem u40_1:type_of% (@swc _ _ c40_1.eq_1):=@swc _ _ c40_1.eq_1
def c40_2:SC:=(.seq (.reg [SO.mk (some 10) (.move (.tmp 0)) none,SO.mk (some 11) (.call 29 [(.tmp 10),(.const (Value.int .i64 1))]) none,SO.mk (some 12) (.faddr 60 (.tmp 3) 2) none,SO.mk none (.store 3 (.tmp 12) (.tmp 11)) none]) (.keep [3,2] c40_1))
theorem u40_2:type_of% (@swc _ _ c40_2.eq_1):=@swc _ _ c40_2.eq_1
def c40_3:SC:=(.seq (.reg [SO.mk (some 7) (.move (.tmp 0)) none,SO.mk (some 8) (.call 29 [(.tmp 7),(.const (Value.int .i64 2))]) none,SO.mk (some 9) (.faddr 60 (.tmp 3) 1) none,SO.mk none (.store 3 (.tmp 9) (.tmp 8)) none]) (.keep [0,3,2] c40_2))
theorem u40_3:type_of% (@swc _ _ c40_3.eq_1):=@swc _ _ c40_3.eq_1
def c40_4:SC:=(.seq (.reg [SO.mk (some 4) (.move (.tmp 0)) none,SO.mk (some 5) (.call 29 [(.tmp 4),(.const (Value.int .i64 3))]) none,SO.mk (some 6) (.faddr 60 (.tmp 3) 0) none,SO.mk none (.store 3 (.tmp 6) (.tmp 5)) none]) (.keep [0,3,2] c40_3))
theorem u40_4:type_of% (@swc _ _ c40_4.eq_1):=@swc _ _ c40_4.eq_1
def c40_5:SC:=(.seq (.reg [SO.mk (some 3) (.alloc 60) none]) (.keep [0,3,2] c40_4))
theorem u40_5:type_of% (@swc _ _ c40_5.eq_1):=@swc _ _ c40_5.eq_1
def c40:SC:=(.seq (.reg [SO.mk (some 2) (.alloc 60) none]) (.keep [0,2] c40_5))
theorem c40_eq:annC Try.f40 = some c40:=by kernel_rfl
theorem r40:Try.f40.results.toList = [.cell 2 60]:=by kernel_rfl
theorem e40:enters Try.prog 40 = true:=by kernel_rfl
def c38_1:SC:=(.seq (.reg [SO.mk (some 13) (.load 57 (.tmp 3)) none,SO.mk none (.store 57 (.tmp 2) (.tmp 13)) none]) (.keep [2] .ret))
theorem u38_1:type_of% (@swc _ _ c38_1.eq_1):=@swc _ _ c38_1.eq_1
def c38_2:SC:=(.seq (.reg [SO.mk (some 10) (.move (.tmp 0)) none,SO.mk (some 11) (.call 41 [(.tmp 10)]) none,SO.mk (some 12) (.faddr 57 (.tmp 3) 2) none,SO.mk none (.store 26 (.tmp 12) (.tmp 11)) none]) (.keep [3,2] c38_1))
theorem u38_2:type_of% (@swc _ _ c38_2.eq_1):=@swc _ _ c38_2.eq_1
def c38_3:SC:=(.seq (.reg [SO.mk (some 7) (.move (.tmp 0)) none,SO.mk (some 8) (.call 29 [(.tmp 7),(.const (Value.int .i64 2))]) none,SO.mk (some 9) (.faddr 57 (.tmp 3) 1) none,SO.mk none (.store 3 (.tmp 9) (.tmp 8)) none]) (.keep [0,3,2] c38_2))
theorem u38_3:type_of% (@swc _ _ c38_3.eq_1):=@swc _ _ c38_3.eq_1
def c38_4:SC:=(.seq (.reg [SO.mk (some 4) (.move (.tmp 0)) none,SO.mk (some 5) (.call 29 [(.tmp 4),(.const (Value.int .i64 1))]) none,SO.mk (some 6) (.faddr 57 (.tmp 3) 0) none,SO.mk none (.store 3 (.tmp 6) (.tmp 5)) none]) (.keep [0,3,2] c38_3))
theorem u38_4:type_of% (@swc _ _ c38_4.eq_1):=@swc _ _ c38_4.eq_1
def c38_5:SC:=(.seq (.reg [SO.mk (some 3) (.alloc 57) none]) (.keep [0,3,2] c38_4))
theorem u38_5:type_of% (@swc _ _ c38_5.eq_1):=@swc _ _ c38_5.eq_1
def c38:SC:=(.seq (.reg [SO.mk (some 2) (.alloc 57) none]) (.keep [0,2] c38_5))
theorem c38_eq:annC Try.f38 = some c38:=by kernel_rfl
theorem r38:Try.f38.results.toList = [.cell 2 57]:=by kernel_rfl
theorem e38:enters Try.prog 38 = true:=by kernel_rfl
end Go.Proofs.Ytijpmidnclbhpaa
namespace Go.Proofs.Ytijpmidnclbhpaa
open Go.RowKit
set_option maxHeartbeats 4000000
set_option maxRecDepth 20000
attribute [local irreducible] SW OSW SWL SWLn SWD SEcall SEcallv SDv SE SO1 SOg ACalls ACallv Wk EndV
set_option linter.unusedSimpArgs false
set_option linter.unusedVariables false
theorem bit_R :Reads Try.prog 68 [] (fun s=>Bo (bitN s)) (fun s=>bitS s) (fun s=>True):=by
  intro B σ n b e hn hσ hp
  refine own_ofL [(n,rdO b e)] (hid1_sto hσ) hid1_closed follows Try.func68 c68_eq r68 (Nat.le_of_ble_eq_true rfl) fun hcl hsz=>?_
  clear hsz
  have y1:∀ s,(n = B + s) = False:=fun s=>by simp;omega
  have y2:∀ s,(B + s = n) = False:=fun s=>by simp;omega
  have y3:(n < B) = True:=eq_true hn
  have y4:decide (n < B) = true:=by simpa using hn
  have y5:decide (n < B + 100000) = true:=by simp;omega
  have hb1:bitS (b,e) = bif decide (takN (b,e) 1 > 1) && (takS (b,e) 1).2 == 0 then ((takS (b,e) 1).1,4) else takS (b,e) 1:=rfl
  have hb2:bitN (b,e) = (takN (b,e) 1 == 1):=rfl
  clear hσ
  repeat' (first | (simp -implicitDefEqProofs only [*,Nat.reduceBEq,↓reduceIte,Nat.reduceEqDiff,Nat.reduceAdd,reduceCtorEq,AV.kill,Int.reduceLT,Int.reduceToNat,List.getElem?_nil,Nat.reduceMul,Nat.reducePow,Nat.reduceLeDiff,rowOf_mapD,rowOf_mapI,rowOf_mapA,List.getElem?_cons_zero,List.getElem?_cons_succ,take_map_len,take_map_app,List.getElem?_cons_zero,c68,r68,v68_1,v68_2,u68_3,u68_4,u68_5,u68_6,u68_7,ty3,ty73,ty30,aokB,aokD,aokA,↓rdO_allN,↓rdO_kill,y1,y2,y3,y4,y5,mvcgen_simp]) | (with_reducible refine And.intro ?_ ?_) | (refine call_r0 (d:=some 5) (by omega) e29 ( take_R 1) rfl ?_ ?_ ?_ ?_ ?_ ?_) | (refine call_r1 (d:=some 5) (by omega) e29 ( take_R 1) rfl ?_ ?_ ?_ ?_ ?_ ?_) | (refine call_r2 (d:=some 5) (by omega) e29 ( take_R 1) rfl ?_ ?_ ?_ ?_ ?_ ?_) | (refine EndX.plain ?_) | (refine nil_split (fun hn=>?_) (fun hn=>?_)) | (refine gcall_no not_false ?_) | (refine gdcall_no not_false ?_) | (refine GuardS_of _ _ _ _ _ _ (fun hg=>?_) (fun hg=>?_)) | (refine GuardD_of _ _ _ _ (fun hg=>?_) (fun hg=>?_)) | (refine CondB_of _ _ _ _ _ _ _ ?_ (fun hg=>?_) (fun hg=>?_)))
  repeat' (first | (simp -implicitDefEqProofs only [*,Nat.reduceBEq,↓reduceIte,Nat.reduceEqDiff,Nat.reduceAdd,reduceCtorEq,AV.kill,Int.reduceLT,Int.reduceToNat,List.getElem?_nil,Nat.reduceMul,Nat.reducePow,Nat.reduceLeDiff,rowOf_mapD,rowOf_mapI,rowOf_mapA,List.getElem?_cons_zero,List.getElem?_cons_succ,take_map_len,take_map_app,List.getElem?_cons_zero,c68,r68,v68_1,v68_2,u68_3,u68_4,u68_5,u68_6,u68_7,ty3,ty73,ty30,aokB,aokD,aokA,↓rdO_allN,↓rdO_kill,y1,y2,y3,y4,y5,rdO,mvcgen_simp]) | (with_reducible refine And.intro ?_ ?_) | (refine call_r0 (d:=some 5) (by omega) e29 ( take_R 1) rfl ?_ ?_ ?_ ?_ ?_ ?_) | (refine call_r1 (d:=some 5) (by omega) e29 ( take_R 1) rfl ?_ ?_ ?_ ?_ ?_ ?_) | (refine call_r2 (d:=some 5) (by omega) e29 ( take_R 1) rfl ?_ ?_ ?_ ?_ ?_ ?_) | (refine EndX.plain ?_) | (refine nil_split (fun hn=>?_) (fun hn=>?_)) | (refine gcall_no not_false ?_) | (refine gdcall_no not_false ?_) | (refine GuardS_of _ _ _ _ _ _ (fun hg=>?_) (fun hg=>?_)) | (refine GuardD_of _ _ _ _ (fun hg=>?_) (fun hg=>?_)) | (refine CondB_of _ _ _ _ _ _ _ ?_ (fun hg=>?_) (fun hg=>?_)))
  all_goals first
    | (intro p hp;simp only [List.mem_cons,List.not_mem_nil,or_false] at hp;rcases hp with rfl | rfl<;>simp [y2];done)
    | (intro p hp;simp only [List.mem_cons,List.not_mem_nil,or_false] at hp;subst hp;simp [y2];done)
    | (intro p hp;cases hp;done)
    | (exact .inl (by decide))
    | trivial
    | (unfold Fr.below;simp [Fr.allN,AV.allN,AV.allNL,y5];done)
    | (unfold Loc.below;simp only [List.all_cons,List.all_nil,rdO_allN,y5];simp [AO.allN,AV.allN,AV.allNL];done)
    | (refine rd_end ?_ ?_
       · simp [List.map_cons]
       · intro x z1;simp [z1,hid1])
theorem text_R :Reads Try.prog 32 [] (fun s=>.d (.v (.string (textN s)))) (fun s=>textS s) (fun s=>True):=by
  intro B σ n b e hn hσ hp
  refine own_ofL [(n,rdO b e)] (hid1_sto hσ) hid1_closed follows Try.func32 c32_eq r32 (Nat.le_of_ble_eq_true rfl) fun hcl hsz=>?_
  clear hsz
  have y1:∀ s,(n = B + s) = False:=fun s=>by simp;omega
  have y2:∀ s,(B + s = n) = False:=fun s=>by simp;omega
  have y3:(n < B) = True:=eq_true hn
  have y4:decide (n < B) = true:=by simpa using hn
  have y5:decide (n < B + 100000) = true:=by simp;omega
  have hx0:=(takN_1 (b,e)).1
  have hx1:=(takN_1 (b,e)).2
  clear hσ hp
  repeat' (first | (simp -implicitDefEqProofs only [*,Nat.reduceBEq,↓reduceIte,Nat.reduceEqDiff,Nat.reduceAdd,reduceCtorEq,AV.kill,Int.reduceLT,Int.reduceToNat,List.getElem?_nil,Nat.reduceMul,Nat.reducePow,Nat.reduceLeDiff,rowOf_mapD,rowOf_mapI,rowOf_mapA,List.getElem?_cons_zero,List.getElem?_cons_succ,take_map_len,take_map_app,List.getElem?_cons_zero,c32,r32,v32_1,u32_2,u32_3,u32_4,v32_5,v32_6,v32_7,u32_8,u32_9,u32_10,u32_11,u32_12,ty73,ty29,ty3,ty9,ty5,aokB,aokD,aokA,↓rdO_allN,↓rdO_kill,y1,y2,y3,y4,y5,prEta,mvcgen_simp]) | (with_reducible refine And.intro ?_ ?_) | (refine call_r0 (d:=some 6) (by omega) e29 ( take_R 1) rfl ?_ ?_ ?_ ?_ ?_ ?_) | (refine call_r1 (d:=some 6) (by omega) e29 ( take_R 1) rfl ?_ ?_ ?_ ?_ ?_ ?_) | (refine call_r2 (d:=some 6) (by omega) e29 ( take_R 1) rfl ?_ ?_ ?_ ?_ ?_ ?_) | (refine call_r0 (d:=some 16) (by omega) e29 ( take_Rn _ hx0) rfl ?_ ?_ ?_ ?_ ?_ ?_) | (refine call_r1 (d:=some 16) (by omega) e29 ( take_Rn _ hx0) rfl ?_ ?_ ?_ ?_ ?_ ?_) | (refine call_r2 (d:=some 16) (by omega) e29 ( take_Rn _ hx0) rfl ?_ ?_ ?_ ?_ ?_ ?_) | (refine EndX.plain ?_) | (refine nil_split (fun hn=>?_) (fun hn=>?_)) | (refine gcall_no not_false ?_) | (refine gdcall_no not_false ?_) | (refine GuardS_of _ _ _ _ _ _ (fun hg=>?_) (fun hg=>?_)) | (refine GuardD_of _ _ _ _ (fun hg=>?_) (fun hg=>?_)) | (refine CondB_of _ _ _ _ _ _ _ ?_ (fun hg=>?_) (fun hg=>?_)))
  repeat' (first | (simp -implicitDefEqProofs only [*,Nat.reduceBEq,↓reduceIte,Nat.reduceEqDiff,Nat.reduceAdd,reduceCtorEq,AV.kill,Int.reduceLT,Int.reduceToNat,List.getElem?_nil,Nat.reduceMul,Nat.reducePow,Nat.reduceLeDiff,rowOf_mapD,rowOf_mapI,rowOf_mapA,List.getElem?_cons_zero,List.getElem?_cons_succ,take_map_len,take_map_app,List.getElem?_cons_zero,c32,r32,v32_1,u32_2,u32_3,u32_4,v32_5,v32_6,v32_7,u32_8,u32_9,u32_10,u32_11,u32_12,ty73,ty29,ty3,ty9,ty5,aokB,aokD,aokA,↓rdO_allN,↓rdO_kill,y1,y2,y3,y4,y5,rdO,prEta,convV,txtW,isB_byR,bnd,sliceV,Option.getD_some,Option.getD_none,Rows_byQ,← List.map_take,← List.map_drop,Nat.sub_zero,mvcgen_simp]) | (with_reducible refine And.intro ?_ ?_) | (refine call_r0 (d:=some 6) (by omega) e29 ( take_R 1) rfl ?_ ?_ ?_ ?_ ?_ ?_) | (refine call_r1 (d:=some 6) (by omega) e29 ( take_R 1) rfl ?_ ?_ ?_ ?_ ?_ ?_) | (refine call_r2 (d:=some 6) (by omega) e29 ( take_R 1) rfl ?_ ?_ ?_ ?_ ?_ ?_) | (refine call_r0 (d:=some 16) (by omega) e29 ( take_Rn _ hx0) rfl ?_ ?_ ?_ ?_ ?_ ?_) | (refine call_r1 (d:=some 16) (by omega) e29 ( take_Rn _ hx0) rfl ?_ ?_ ?_ ?_ ?_ ?_) | (refine call_r2 (d:=some 16) (by omega) e29 ( take_Rn _ hx0) rfl ?_ ?_ ?_ ?_ ?_ ?_) | (refine EndX.plain ?_) | (refine nil_split (fun hn=>?_) (fun hn=>?_)) | (refine gcall_no not_false ?_) | (refine gdcall_no not_false ?_) | (refine GuardS_of _ _ _ _ _ _ (fun hg=>?_) (fun hg=>?_)) | (refine GuardD_of _ _ _ _ (fun hg=>?_) (fun hg=>?_)) | (refine CondB_of _ _ _ _ _ _ _ ?_ (fun hg=>?_) (fun hg=>?_)))
  all_goals first
    | (intro p hp;simp only [List.mem_cons,List.not_mem_nil,or_false] at hp;rcases hp with rfl | rfl<;>simp [y2];done)
    | (intro p hp;simp only [List.mem_cons,List.not_mem_nil,or_false] at hp;subst hp;simp [y2];done)
    | (intro p hp;cases hp;done)
    | (exact .inl (by decide))
    | trivial
    | (unfold Fr.below;simp [Fr.allN,AV.allN,AV.allNL,y5];done)
    | (unfold Loc.below;simp only [List.all_cons,List.all_nil,rdO_allN,y5];simp [AO.allN,AV.allN,AV.allNL];done)
    | (have hb:txBad (b,e) = true:=(by assumption:decide (takN (b,e) 1 > ((takS (b,e) 1).1.length:Int)) = true)
       have hb2:=of_decide_eq_true hb
       first
       | (right;show (takS (b,e) 1).1.length < _;omega)
       | (unfold textN;rw [hb];rfl)
       | (funext x
          by_cases z1:x = n
          · subst z1;simp only [if_true];unfold textS;rw [hb];rfl
          · simp only [if_neg z1];simp [hid1,z1]))
    | (have hb:txBad (b,e) = false:=(by assumption:decide (takN (b,e) 1 > ((takS (b,e) 1).1.length:Int)) = false)
       have hb2:=of_decide_eq_false hb
       first
       | omega
       | exact Int.le_refl _
       | (unfold textN;rw [hb];rfl)
       | (funext x
          by_cases z1:x = n
          · subst z1;simp only [if_true];unfold textS;rw [hb,List.take_of_length_le (by rw [List.length_drop];omega)];rfl
          · simp only [if_neg z1];simp [hid1,z1]))
    | (refine rd_end ?_ ?_
       · simp [textS,textN]
       · intro x z1;simp [z1,hid1])
theorem ints_R :Reads Try.prog 41 [] (fun s=>.d (ints (intsN s))) (fun s=>intsS s) (fun s=>True):=by
  intro B σ n b e hn hσ hp
  refine own_ofL [(n,rdO b e)] (hid1_sto hσ) hid1_closed follows Try.func41 c41_eq r41 (Nat.le_of_ble_eq_true rfl) fun hcl hsz=>?_
  clear hsz
  have y1:∀ s,(n = B + s) = False:=fun s=>by simp;omega
  have y2:∀ s,(B + s = n) = False:=fun s=>by simp;omega
  have y3:(n < B) = True:=eq_true hn
  have y4:decide (n < B) = true:=by simpa using hn
  have y5:decide (n < B + 100000) = true:=by simp;omega
  have hx0:=(takN_1 (b,e)).1
  have hx1:=(takN_1 (b,e)).2
  obtain ⟨M,hM⟩:∃ M,itC (b,e) ((takN (b,e) 1).toNat - 0) 0 = M:=⟨_,rfl⟩
  have hM2:itM (b,e) = M:=hM
  clear hσ hp
  repeat' (first | (simp -implicitDefEqProofs only [*,Nat.reduceBEq,↓reduceIte,Nat.reduceEqDiff,Nat.reduceAdd,reduceCtorEq,AV.kill,Int.reduceLT,Int.reduceToNat,List.getElem?_nil,Nat.reduceMul,Nat.reducePow,Nat.reduceLeDiff,rowOf_mapD,rowOf_mapI,rowOf_mapA,List.getElem?_cons_zero,List.getElem?_cons_succ,take_map_len,take_map_app,List.getElem?_cons_zero,c41,r41,v41_1,v41_2,u41_3,v41_4,u41_5,u41_6,u41_7,u41_8,u41_9,u41_10,u41_11,ty3,ty73,ty30,ty26,aokB,aokD,aokA,↓rdO_allN,↓rdO_kill,y1,y2,y3,y4,y5,prEta,mvcgen_simp]) | (with_reducible refine And.intro ?_ ?_) | (refine call_r0 (d:=some 6) (by omega) e29 ( take_R 1) rfl ?_ ?_ ?_ ?_ ?_ ?_) | (refine call_r1 (d:=some 6) (by omega) e29 ( take_R 1) rfl ?_ ?_ ?_ ?_ ?_ ?_) | (refine call_r2 (d:=some 6) (by omega) e29 ( take_R 1) rfl ?_ ?_ ?_ ?_ ?_ ?_) | (refine call_r0 (d:=some 20) (by omega) e29 ( take_R 1) rfl ?_ ?_ ?_ ?_ ?_ ?_) | (refine call_r1 (d:=some 20) (by omega) e29 ( take_R 1) rfl ?_ ?_ ?_ ?_ ?_ ?_) | (refine call_r2 (d:=some 20) (by omega) e29 ( take_R 1) rfl ?_ ?_ ?_ ?_ ?_ ?_) | (refine loop_nat ((takN (b,e) 1).toNat) (fun k=>itC (b,e) ((takN (b,e) 1).toNat - k) k = M) (fun k=>[(0,.lp n 0),(4,I (takN (b,e) 1 - k)),(3,.os (B + 22) (itL (b,e) k).length)]) (fun k=>[(B + 22,.arr 1 3 ((itL (b,e) k).map int_)),(n,rdO (itS (b,e) k).1 (itS (b,e) k).2)]) ?_ (Wk.trans (Wk.nameF (s:=3) (n:=B + 22) (k:=1) (E:=3) rfl (by omega) (.inl (by omega)) (fun m=>AO.kill_below (q:=fun m=>decide (m < B)) (by simp) _ (hcl m).1)) (Wk.keep hcl ?_ ?_ ?_)) fun k hk hF=>?_;rotate_left 1;(focus (simp [Fr.get,newF,Fr.map,AV.kill,AV.mapN,aokB,aokD,aokA,↓rdO_allN,↓rdO_kill,y1,y2,y3,y4,y5,prEta]<;>fail));(focus (simp [sto,newL,Loc.kill,Loc.set,AO.kill,AV.kill,AV.mapN,aokB,aokD,aokA,↓rdO_allN,↓rdO_kill,y1,y2,y3,y4,y5,prEta]<;>fail));(focus (simp [newL,Loc.kill,Loc.set,aokB,aokD,aokA,↓rdO_allN,↓rdO_kill,y1,y2,y3,y4,y5,prEta]<;>fail));(try have hw:IntKind.i64.wrap ((k:Int) + 1) = (k:Int) + 1:=IntWalk.i64_in _ (by omega))) | (refine EndX.plain ?_) | (refine nil_split (fun hn=>?_) (fun hn=>?_)) | (refine gcall_no not_false ?_) | (refine gdcall_no not_false ?_) | (refine GuardS_of _ _ _ _ _ _ (fun hg=>?_) (fun hg=>?_)) | (refine GuardD_of _ _ _ _ (fun hg=>?_) (fun hg=>?_)) | (refine CondB_of _ _ _ _ _ _ _ ?_ (fun hg=>?_) (fun hg=>?_)))
  repeat' (first | (simp -implicitDefEqProofs only [*,Nat.reduceBEq,↓reduceIte,Nat.reduceEqDiff,Nat.reduceAdd,reduceCtorEq,AV.kill,Int.reduceLT,Int.reduceToNat,List.getElem?_nil,Nat.reduceMul,Nat.reducePow,Nat.reduceLeDiff,rowOf_mapD,rowOf_mapI,rowOf_mapA,List.getElem?_cons_zero,List.getElem?_cons_succ,take_map_len,take_map_app,List.getElem?_cons_zero,c41,r41,v41_1,v41_2,u41_3,v41_4,u41_5,u41_6,u41_7,u41_8,u41_9,u41_10,u41_11,ty3,ty73,ty30,ty26,aokB,aokD,aokA,↓rdO_allN,↓rdO_kill,y1,y2,y3,y4,y5,rdO,prEta,ints,int_,itS_0,itL_0,mvcgen_simp]) | (with_reducible refine And.intro ?_ ?_) | (refine call_r0 (d:=some 6) (by omega) e29 ( take_R 1) rfl ?_ ?_ ?_ ?_ ?_ ?_) | (refine call_r1 (d:=some 6) (by omega) e29 ( take_R 1) rfl ?_ ?_ ?_ ?_ ?_ ?_) | (refine call_r2 (d:=some 6) (by omega) e29 ( take_R 1) rfl ?_ ?_ ?_ ?_ ?_ ?_) | (refine call_r0 (d:=some 20) (by omega) e29 ( take_R 1) rfl ?_ ?_ ?_ ?_ ?_ ?_) | (refine call_r1 (d:=some 20) (by omega) e29 ( take_R 1) rfl ?_ ?_ ?_ ?_ ?_ ?_) | (refine call_r2 (d:=some 20) (by omega) e29 ( take_R 1) rfl ?_ ?_ ?_ ?_ ?_ ?_) | (refine loop_nat ((takN (b,e) 1).toNat) (fun k=>itC (b,e) ((takN (b,e) 1).toNat - k) k = M) (fun k=>[(0,.lp n 0),(4,I (takN (b,e) 1 - k)),(3,.os (B + 22) (itL (b,e) k).length)]) (fun k=>[(B + 22,.arr 1 3 ((itL (b,e) k).map int_)),(n,rdO (itS (b,e) k).1 (itS (b,e) k).2)]) ?_ (Wk.trans (Wk.nameF (s:=3) (n:=B + 22) (k:=1) (E:=3) rfl (by omega) (.inl (by omega)) (fun m=>AO.kill_below (q:=fun m=>decide (m < B)) (by simp) _ (hcl m).1)) (Wk.keep hcl ?_ ?_ ?_)) fun k hk hF=>?_;rotate_left 1;(focus (simp [Fr.get,newF,Fr.map,AV.kill,AV.mapN,aokB,aokD,aokA,↓rdO_allN,↓rdO_kill,y1,y2,y3,y4,y5,rdO,prEta,ints,int_,itS_0,itL_0]<;>fail));(focus (simp [sto,newL,Loc.kill,Loc.set,AO.kill,AV.kill,AV.mapN,aokB,aokD,aokA,↓rdO_allN,↓rdO_kill,y1,y2,y3,y4,y5,rdO,prEta,ints,int_,itS_0,itL_0]<;>fail));(focus (simp [newL,Loc.kill,Loc.set,aokB,aokD,aokA,↓rdO_allN,↓rdO_kill,y1,y2,y3,y4,y5,rdO,prEta,ints,int_,itS_0,itL_0]<;>fail));(try have hw:IntKind.i64.wrap ((k:Int) + 1) = (k:Int) + 1:=IntWalk.i64_in _ (by omega))) | (refine EndX.plain ?_) | (refine nil_split (fun hn=>?_) (fun hn=>?_)) | (refine gcall_no not_false ?_) | (refine gdcall_no not_false ?_) | (refine GuardS_of _ _ _ _ _ _ (fun hg=>?_) (fun hg=>?_)) | (refine GuardD_of _ _ _ _ (fun hg=>?_) (fun hg=>?_)) | (refine CondB_of _ _ _ _ _ _ _ ?_ (fun hg=>?_) (fun hg=>?_)))
  all_goals first
    | (intro p hp;simp only [List.mem_cons,List.not_mem_nil,or_false] at hp;rcases hp with rfl | rfl<;>simp [y2];done)
    | (intro p hp;simp only [List.mem_cons,List.not_mem_nil,or_false] at hp;subst hp;simp [y2];done)
    | (intro p hp;cases hp;done)
    | (exact .inl (by decide))
    | trivial
    | (unfold Fr.below;simp [Fr.allN,AV.allN,AV.allNL,y5];done)
    | (unfold Loc.below;simp only [List.all_cons,List.all_nil,rdO_allN,y5];simp [AO.allN,AV.allN,AV.allNL];done)
    | (have hgt:=of_decide_eq_true (by assumption:decide (takN (b,e) 1 - (k:Int) > 0) = true)
       have h0:=(by assumption:((itS (b,e) k).2 == 0) = true)
       have hlt:k < (takN (b,e) 1).toNat:=by omega
       first
       | exact hlt
       | exact itC_go hF hlt h0
       | (rw [itL_len];omega)
       | (rw [IntWalk.i64_in (takN (b,e) 1 - (k:Int) - 1) (by omega),show takN (b,e) 1 - (k:Int) - 1 = takN (b,e) 1 - ((k + 1:Nat):Int) by omega,← itS_next,← itL_next,List.map_append,List.length_append]
          refine Wk.keep hcl ?_ ?_ ?_<;>simp [Fr.get,sto,rdO,int_,y1,y2]))
    | (have hk3:k = M:=by
         first
         | (have hle:=of_decide_eq_false (by assumption:decide (takN (b,e) 1 - (k:Int) > 0) = false)
            exact itC_end hF (by omega))
         | exact itC_no hF (by assumption)
       first
       | (unfold intsN;rw [hM2,← hk3])
       | (funext x
          by_cases z1:x = n
          · subst z1;simp only [if_true];unfold intsS;rw [hM2,← hk3]
          · simp only [if_neg z1];simp [hid1,z1]))
    | (refine rd_end ?_ ?_
       · simp [intsS,intsN]
       · intro x z1;simp [z1,hid1])
theorem rule_R :Reads Try.prog 33 [] (fun s=>(ruleN s).av) (fun s=>ruleS s) (fun s=>True):=by
  intro B σ n b e hn hσ hp
  refine own_ofL [(n,rdO b e)] (hid1_sto hσ) hid1_closed follows Try.func33 c33_eq r33 (Nat.le_of_ble_eq_true rfl) fun hcl hsz=>?_
  clear hsz
  have y1:∀ s,(n = B + s) = False:=fun s=>by simp;omega
  have y2:∀ s,(B + s = n) = False:=fun s=>by simp;omega
  have y3:(n < B) = True:=eq_true hn
  have y4:decide (n < B) = true:=by simpa using hn
  have y5:decide (n < B + 100000) = true:=by simp;omega
  repeat' (first | (simp -implicitDefEqProofs only [*,Nat.reduceBEq,↓reduceIte,Nat.reduceEqDiff,Nat.reduceAdd,reduceCtorEq,AV.kill,Int.reduceLT,Int.reduceToNat,List.getElem?_nil,Nat.reduceMul,Nat.reducePow,Nat.reduceLeDiff,rowOf_mapD,rowOf_mapI,rowOf_mapA,List.getElem?_cons_zero,List.getElem?_cons_succ,take_map_len,take_map_app,List.getElem?_cons_zero,c33,r33,v33_1,u33_2,u33_3,u33_4,ty45,ty3,aokB,aokD,aokA,↓rdO_allN,↓rdO_kill,y1,y2,y3,y4,y5,RulD.av,ruleN,prEta,mvcgen_simp]) | (with_reducible refine And.intro ?_ ?_) | (refine call_r0 (d:=some 6) (by omega) e32 ( text_R) rfl ?_ ?_ ?_ ?_ ?_ ?_) | (refine call_r1 (d:=some 6) (by omega) e32 ( text_R) rfl ?_ ?_ ?_ ?_ ?_ ?_) | (refine call_r2 (d:=some 6) (by omega) e32 ( text_R) rfl ?_ ?_ ?_ ?_ ?_ ?_) | (refine call_r0 (d:=some 8) (by omega) e29 ( take_R 4) rfl ?_ ?_ ?_ ?_ ?_ ?_) | (refine call_r1 (d:=some 8) (by omega) e29 ( take_R 4) rfl ?_ ?_ ?_ ?_ ?_ ?_) | (refine call_r2 (d:=some 8) (by omega) e29 ( take_R 4) rfl ?_ ?_ ?_ ?_ ?_ ?_) | (refine call_r0 (d:=some 13) (by omega) e29 ( take_R 4) rfl ?_ ?_ ?_ ?_ ?_ ?_) | (refine call_r1 (d:=some 13) (by omega) e29 ( take_R 4) rfl ?_ ?_ ?_ ?_ ?_ ?_) | (refine call_r2 (d:=some 13) (by omega) e29 ( take_R 4) rfl ?_ ?_ ?_ ?_ ?_ ?_) | (refine EndX.plain ?_) | (refine nil_split (fun hn=>?_) (fun hn=>?_)) | (refine gcall_no not_false ?_) | (refine gdcall_no not_false ?_) | (refine GuardS_of _ _ _ _ _ _ (fun hg=>?_) (fun hg=>?_)) | (refine GuardD_of _ _ _ _ (fun hg=>?_) (fun hg=>?_)) | (refine CondB_of _ _ _ _ _ _ _ ?_ (fun hg=>?_) (fun hg=>?_)))
  all_goals first
    | (intro p hp;simp only [List.mem_cons,List.not_mem_nil,or_false] at hp;rcases hp with rfl | rfl<;>simp [y2];done)
    | (intro p hp;simp only [List.mem_cons,List.not_mem_nil,or_false] at hp;subst hp;simp [y2];done)
    | (intro p hp;cases hp;done)
    | (exact .inl (by decide))
    | trivial
    | (unfold Fr.below;simp [Fr.allN,AV.allN,AV.allNL,y5];done)
    | (unfold Loc.below;simp only [List.all_cons,List.all_nil,rdO_allN,y5];simp [AO.allN,AV.allN,AV.allNL];done)
    | rfl
    | (refine rd_end ?_ ?_
       · simp only [if_true];rfl
       · intro x z1;simp [z1,hid1])
    | (refine rd_end ?_ ?_
       · simp [ruleS,rul2]
       · intro x z1;simp [z1,hid1])
theorem ask_R :Reads Try.prog 40 [] (fun s=>askV (askN s)) (fun s=>askS s) (fun s=>True):=by
  intro B σ n b e hn hσ hp
  refine own_ofL [(n,rdO b e)] (hid1_sto hσ) hid1_closed follows Try.func40 c40_eq r40 (Nat.le_of_ble_eq_true rfl) fun hcl hsz=>?_
  clear hsz
  have y1:∀ s,(n = B + s) = False:=fun s=>by simp;omega
  have y2:∀ s,(B + s = n) = False:=fun s=>by simp;omega
  have y3:(n < B) = True:=eq_true hn
  have y4:decide (n < B) = true:=by simpa using hn
  have y5:decide (n < B + 100000) = true:=by simp;omega
  repeat' (first | (simp -implicitDefEqProofs only [*,Nat.reduceBEq,↓reduceIte,Nat.reduceEqDiff,Nat.reduceAdd,reduceCtorEq,AV.kill,Int.reduceLT,Int.reduceToNat,List.getElem?_nil,Nat.reduceMul,Nat.reducePow,Nat.reduceLeDiff,rowOf_mapD,rowOf_mapI,rowOf_mapA,List.getElem?_cons_zero,List.getElem?_cons_succ,take_map_len,take_map_app,List.getElem?_cons_zero,c40,r40,u40_1,u40_2,u40_3,u40_4,u40_5,ty60,ty3,aokB,aokD,aokA,↓rdO_allN,↓rdO_kill,y1,y2,y3,y4,y5,askV,AskD.row,askN,prEta,mvcgen_simp]) | (with_reducible refine And.intro ?_ ?_) | (refine call_r0 (d:=some 5) (by omega) e29 ( take_R 3) rfl ?_ ?_ ?_ ?_ ?_ ?_) | (refine call_r1 (d:=some 5) (by omega) e29 ( take_R 3) rfl ?_ ?_ ?_ ?_ ?_ ?_) | (refine call_r2 (d:=some 5) (by omega) e29 ( take_R 3) rfl ?_ ?_ ?_ ?_ ?_ ?_) | (refine call_r0 (d:=some 8) (by omega) e29 ( take_R 2) rfl ?_ ?_ ?_ ?_ ?_ ?_) | (refine call_r1 (d:=some 8) (by omega) e29 ( take_R 2) rfl ?_ ?_ ?_ ?_ ?_ ?_) | (refine call_r2 (d:=some 8) (by omega) e29 ( take_R 2) rfl ?_ ?_ ?_ ?_ ?_ ?_) | (refine call_r0 (d:=some 11) (by omega) e29 ( take_R 1) rfl ?_ ?_ ?_ ?_ ?_ ?_) | (refine call_r1 (d:=some 11) (by omega) e29 ( take_R 1) rfl ?_ ?_ ?_ ?_ ?_ ?_) | (refine call_r2 (d:=some 11) (by omega) e29 ( take_R 1) rfl ?_ ?_ ?_ ?_ ?_ ?_) | (refine EndX.plain ?_) | (refine nil_split (fun hn=>?_) (fun hn=>?_)) | (refine gcall_no not_false ?_) | (refine gdcall_no not_false ?_) | (refine GuardS_of _ _ _ _ _ _ (fun hg=>?_) (fun hg=>?_)) | (refine GuardD_of _ _ _ _ (fun hg=>?_) (fun hg=>?_)) | (refine CondB_of _ _ _ _ _ _ _ ?_ (fun hg=>?_) (fun hg=>?_)))
  all_goals first
    | (intro p hp;simp only [List.mem_cons,List.not_mem_nil,or_false] at hp;rcases hp with rfl | rfl<;>simp [y2];done)
    | (intro p hp;simp only [List.mem_cons,List.not_mem_nil,or_false] at hp;subst hp;simp [y2];done)
    | (intro p hp;cases hp;done)
    | (exact .inl (by decide))
    | trivial
    | (unfold Fr.below;simp [Fr.allN,AV.allN,AV.allNL,y5];done)
    | (unfold Loc.below;simp only [List.all_cons,List.all_nil,rdO_allN,y5];simp [AO.allN,AV.allN,AV.allNL];done)
    | rfl
    | (refine rd_end ?_ ?_
       · simp only [if_true];rfl
       · intro x z1;simp [z1,hid1])
    | (refine rd_end ?_ ?_
       · simp [askS,ask2]
       · intro x z1;simp [z1,hid1])
theorem part_R :Reads Try.prog 38 [] (fun s=>partV (partN s)) (fun s=>partS s) (fun s=>True):=by
  intro B σ n b e hn hσ hp
  refine own_ofL [(n,rdO b e)] (hid1_sto hσ) hid1_closed follows Try.func38 c38_eq r38 (Nat.le_of_ble_eq_true rfl) fun hcl hsz=>?_
  clear hsz
  have y1:∀ s,(n = B + s) = False:=fun s=>by simp;omega
  have y2:∀ s,(B + s = n) = False:=fun s=>by simp;omega
  have y3:(n < B) = True:=eq_true hn
  have y4:decide (n < B) = true:=by simpa using hn
  have y5:decide (n < B + 100000) = true:=by simp;omega
  repeat' (first | (simp -implicitDefEqProofs only [*,Nat.reduceBEq,↓reduceIte,Nat.reduceEqDiff,Nat.reduceAdd,reduceCtorEq,AV.kill,Int.reduceLT,Int.reduceToNat,List.getElem?_nil,Nat.reduceMul,Nat.reducePow,Nat.reduceLeDiff,rowOf_mapD,rowOf_mapI,rowOf_mapA,List.getElem?_cons_zero,List.getElem?_cons_succ,take_map_len,take_map_app,List.getElem?_cons_zero,c38,r38,u38_1,u38_2,u38_3,u38_4,u38_5,ty57,ty3,ty26,aokB,aokD,aokA,↓rdO_allN,↓rdO_kill,y1,y2,y3,y4,y5,partV,PartD.row,partN,ints,prEta,mvcgen_simp]) | (with_reducible refine And.intro ?_ ?_) | (refine call_r0 (d:=some 5) (by omega) e29 ( take_R 1) rfl ?_ ?_ ?_ ?_ ?_ ?_) | (refine call_r1 (d:=some 5) (by omega) e29 ( take_R 1) rfl ?_ ?_ ?_ ?_ ?_ ?_) | (refine call_r2 (d:=some 5) (by omega) e29 ( take_R 1) rfl ?_ ?_ ?_ ?_ ?_ ?_) | (refine call_r0 (d:=some 8) (by omega) e29 ( take_R 2) rfl ?_ ?_ ?_ ?_ ?_ ?_) | (refine call_r1 (d:=some 8) (by omega) e29 ( take_R 2) rfl ?_ ?_ ?_ ?_ ?_ ?_) | (refine call_r2 (d:=some 8) (by omega) e29 ( take_R 2) rfl ?_ ?_ ?_ ?_ ?_ ?_) | (refine call_r0 (d:=some 11) (by omega) e41 ( ints_R) rfl ?_ ?_ ?_ ?_ ?_ ?_) | (refine call_r1 (d:=some 11) (by omega) e41 ( ints_R) rfl ?_ ?_ ?_ ?_ ?_ ?_) | (refine call_r2 (d:=some 11) (by omega) e41 ( ints_R) rfl ?_ ?_ ?_ ?_ ?_ ?_) | (refine EndX.plain ?_) | (refine nil_split (fun hn=>?_) (fun hn=>?_)) | (refine gcall_no not_false ?_) | (refine gdcall_no not_false ?_) | (refine GuardS_of _ _ _ _ _ _ (fun hg=>?_) (fun hg=>?_)) | (refine GuardD_of _ _ _ _ (fun hg=>?_) (fun hg=>?_)) | (refine CondB_of _ _ _ _ _ _ _ ?_ (fun hg=>?_) (fun hg=>?_)))
  all_goals first
    | (intro p hp;simp only [List.mem_cons,List.not_mem_nil,or_false] at hp;rcases hp with rfl | rfl<;>simp [y2];done)
    | (intro p hp;simp only [List.mem_cons,List.not_mem_nil,or_false] at hp;subst hp;simp [y2];done)
    | (intro p hp;cases hp;done)
    | (exact .inl (by decide))
    | trivial
    | (unfold Fr.below;simp [Fr.allN,AV.allN,AV.allNL,y5];done)
    | (unfold Loc.below;simp only [List.all_cons,List.all_nil,rdO_allN,y5];simp [AO.allN,AV.allN,AV.allNL];done)
    | rfl
    | (refine rd_end ?_ ?_
       · simp only [if_true];rfl
       · intro x z1;simp [z1,hid1])
    | (refine rd_end ?_ ?_
       · simp [partS,part2]
       · intro x z1;simp [z1,hid1])
end Go.Proofs.Ytijpmidnclbhpaa
