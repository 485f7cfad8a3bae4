/- The reference's eye: its calls. -/
import Derived.Test.YtijpmidnclbhpaaKE
import Derived.Test.YtijpmidnclbhpaaTypes
namespace Go.Proofs.Ytijpmidnclbhpaa
open Go.RowKit
set_option maxRecDepth 100000
def o44_1:List SO:=((SO.mk (some 14) (.faddr 85 (.tmp 13) 1) none) :: (SO.mk (some 15) (.load 3 (.tmp 14)) none) :: (SO.mk (some 16) (.bin .sub 3 (.tmp 11) (.tmp 15)) none) :: (SO.mk (some 17) (.bin .gtr 3 (.tmp 6) (.tmp 16)) none) :: [])
theorem v44_1:type_of% (@swd _ _ o44_1.eq_1):=@swd _ _ o44_1.eq_1
def o44_2:List SO:=((SO.mk (some 10) (.load 29 (.tmp 9)) none) :: (SO.mk (some 11) (.len 29 (.tmp 10)) none) :: (SO.mk (some 12) (.move (.tmp 0)) none) :: (SO.mk (some 13) (.nilCheck (.tmp 12)) none) :: o44_1)
theorem v44_2:type_of% (@swd _ _ o44_2.eq_1):=@swd _ _ o44_2.eq_1
def o44_3:List SO:=((SO.mk (some 6) (.move (.tmp 3)) none) :: (SO.mk (some 7) (.move (.tmp 0)) none) :: (SO.mk (some 8) (.nilCheck (.tmp 7)) none) :: (SO.mk (some 9) (.faddr 85 (.tmp 8) 0) none) :: o44_2)
theorem v44_3:type_of% (@swd _ _ o44_3.eq_1):=@swd _ _ o44_3.eq_1
theorem m44_3 (B:Nat):mkNames B o44_3 = []:=(rfl)
def c44_4:SC:=(.seq (.reg [SO.mk (some 2) (.move (.const (Value.string ⟨#[]⟩))) none]) (.keep [2] .ret))
theorem u44_4:type_of% (@swc _ _ c44_4.eq_1):=@swc _ _ c44_4.eq_1
def c44_5:SC:=(.seq (.reg [SO.mk (some 18) (.move (.tmp 0)) none,SO.mk (some 19) (.move (.tmp 3)) none,SO.mk (some 20) (.call 43 [(.tmp 18),(.tmp 19)]) none]) (.keep [] c44_4))
theorem u44_5:type_of% (@swc _ _ c44_5.eq_1):=@swc _ _ c44_5.eq_1
def c44_6:SC:=(.cond (.tmp 17) c44_5 .skip)
theorem u44_6:type_of% (@swc _ _ c44_6.eq_1):=@swc _ _ c44_6.eq_1
def o44_7:List SO:=((SO.mk (some 29) (.faddr 85 (.tmp 28) 1) none) :: (SO.mk none (.store 3 (.tmp 29) (.tmp 27)) none) :: [])
theorem v44_7:type_of% (@swl _ _ o44_7.eq_1):=@swl _ _ o44_7.eq_1
def o44_8:List SO:=((SO.mk (some 25) (.load 3 (.tmp 24)) none) :: (SO.mk (some 26) (.move (.tmp 3)) none) :: (SO.mk (some 27) (.bin .add 3 (.tmp 25) (.tmp 26)) none) :: (SO.mk (some 28) (.nilCheck (.tmp 21)) none) :: o44_7)
theorem v44_8:type_of% (@swl _ _ o44_8.eq_1):=@swl _ _ o44_8.eq_1
def o44_9:List SO:=((SO.mk (some 2) (.move (.tmp 45)) none) :: [])
theorem v44_9:type_of% (@swd _ _ o44_9.eq_1):=@swd _ _ o44_9.eq_1
def o44_10:List SO:=((SO.mk (some 42) (.faddr 85 (.tmp 41) 1) none) :: (SO.mk (some 43) (.load 3 (.tmp 42)) none) :: (SO.mk (some 44) (.slice 29 (.tmp 33) (some (.tmp 39)) (some (.tmp 43))) none) :: (SO.mk (some 45) (.conv 29 9 (.tmp 44)) none) :: o44_9)
theorem v44_10:type_of% (@swd _ _ o44_10.eq_1):=@swd _ _ o44_10.eq_1
def o44_11:List SO:=((SO.mk (some 38) (.move (.tmp 3)) none) :: (SO.mk (some 39) (.bin .sub 3 (.tmp 37) (.tmp 38)) none) :: (SO.mk (some 40) (.move (.tmp 0)) none) :: (SO.mk (some 41) (.nilCheck (.tmp 40)) none) :: o44_10)
theorem v44_11:type_of% (@swd _ _ o44_11.eq_1):=@swd _ _ o44_11.eq_1
def o44_12:List SO:=((SO.mk (some 34) (.move (.tmp 0)) none) :: (SO.mk (some 35) (.nilCheck (.tmp 34)) none) :: (SO.mk (some 36) (.faddr 85 (.tmp 35) 1) none) :: (SO.mk (some 37) (.load 3 (.tmp 36)) none) :: o44_11)
theorem v44_12:type_of% (@swd _ _ o44_12.eq_1):=@swd _ _ o44_12.eq_1
def o44_13:List SO:=((SO.mk (some 30) (.move (.tmp 0)) none) :: (SO.mk (some 31) (.nilCheck (.tmp 30)) none) :: (SO.mk (some 32) (.faddr 85 (.tmp 31) 0) none) :: (SO.mk (some 33) (.load 29 (.tmp 32)) none) :: o44_12)
theorem v44_13:type_of% (@swd _ _ o44_13.eq_1):=@swd _ _ o44_13.eq_1
theorem m44_13 (B:Nat):mkNames B o44_13 = []:=(rfl)
def c44_14:SC:=(.seq (.dreg false o44_13 []) (.keep [2] .ret))
theorem u44_14:type_of% (@swc _ _ c44_14.eq_1):=@swc _ _ c44_14.eq_1
def c44_15:SC:=(.seq (.reg ((SO.mk (some 21) (.move (.tmp 0)) none) :: (SO.mk (some 22) (.move (.tmp 0)) none) :: (SO.mk (some 23) (.nilCheck (.tmp 22)) none) :: (SO.mk (some 24) (.faddr 85 (.tmp 23) 1) none) :: o44_8)) (.keep [3,0] c44_14))
theorem u44_15:type_of% (@swc _ _ c44_15.eq_1):=@swc _ _ c44_15.eq_1
def c44_16:SC:=(.seq (.seq (.dreg false o44_3 []) (.keep [17,3,0] c44_6)) (.keep [3,0] c44_15))
theorem u44_16:type_of% (@swc _ _ c44_16.eq_1):=@swc _ _ c44_16.eq_1
def c44_17:SC:=(.seq (.reg [SO.mk (some 4) (.move (.tmp 0)) none,SO.mk (some 5) (.call 43 [(.tmp 4),(.const (Value.int .i64 1))]) none,SO.mk (some 3) (.move (.tmp 5)) none]) (.keep [3,0] c44_16))
theorem u44_17:type_of% (@swc _ _ c44_17.eq_1):=@swc _ _ c44_17.eq_1
def c44:SC:=(.seq (.reg [SO.mk (some 2) (.move (.const (Value.string ⟨#[]⟩))) none]) (.keep [0] c44_17))
theorem c44_eq:annC Try.f44 = some c44:=by kernel_rfl
theorem r44:Try.f44.results.toList = [.tmp 2]:=by kernel_rfl
theorem e44:enters Try.prog 44 = true:=by kernel_rfl
def o70_1:List SO:=((SO.mk (some 14) (.pick (.tmp 8) (.tmp 13) (.const (Value.bool false))) none) :: [])
theorem v70_1:type_of% (@swl _ _ o70_1.eq_1):=@swl _ _ o70_1.eq_1
def o70_2:List SO:=((SO.mk (some 10) (.nilCheck (.tmp 9)) (some (8 ,true))) :: (SO.mk (some 11) (.faddr 85 (.tmp 10) 2) (some (8 ,true))) :: (SO.mk (some 12) (.load 30 (.tmp 11)) (some (8 ,true))) :: (SO.mk (some 13) (.bin .eql 30 (.tmp 12) (.const (Value.int .i64 0))) (some (8 ,true))) :: o70_1)
theorem v70_2:type_of% (@swl _ _ o70_2.eq_1):=@swl _ _ o70_2.eq_1
def c70_3:SC:=(.reg [SO.mk (some 15) (.move (.tmp 0)) none,SO.mk (some 16) (.nilCheck (.tmp 15)) none,SO.mk (some 17) (.faddr 85 (.tmp 16) 2) none,SO.mk none (.store 30 (.tmp 17) (.const (Value.int .i64 4))) none])
theorem u70_3:type_of% (@swc _ _ c70_3.eq_1):=@swc _ _ c70_3.eq_1
def c70_4:SC:=(.cond (.tmp 14) c70_3 .skip)
theorem u70_4:type_of% (@swc _ _ c70_4.eq_1):=@swc _ _ c70_4.eq_1
def c70_5:SC:=(.seq (.reg [SO.mk (some 18) (.move (.tmp 3)) none,SO.mk (some 19) (.bin .eql 3 (.tmp 18) (.const (Value.int .i64 1))) none,SO.mk (some 2) (.move (.tmp 19)) none]) (.keep [2] .ret))
theorem u70_5:type_of% (@swc _ _ c70_5.eq_1):=@swc _ _ c70_5.eq_1
def c70_6:SC:=(.seq (.seq (.reg ((SO.mk (some 6) (.move (.tmp 3)) none) :: (SO.mk (some 7) (.bin .gtr 3 (.tmp 6) (.const (Value.int .i64 1))) none) :: (SO.mk (some 8) (.move (.tmp 7)) none) :: (SO.mk (some 9) (.move (.tmp 0)) (some (8 ,true))) :: o70_2)) (.keep [14,0,3] c70_4)) (.keep [3] c70_5))
theorem u70_6:type_of% (@swc _ _ c70_6.eq_1):=@swc _ _ c70_6.eq_1
def c70_7:SC:=(.seq (.reg [SO.mk (some 4) (.move (.tmp 0)) none,SO.mk (some 5) (.call 43 [(.tmp 4),(.const (Value.int .i64 1))]) none,SO.mk (some 3) (.move (.tmp 5)) none]) (.keep [0,3] c70_6))
theorem u70_7:type_of% (@swc _ _ c70_7.eq_1):=@swc _ _ c70_7.eq_1
def c70:SC:=(.seq (.reg [SO.mk (some 2) (.move (.const (Value.bool false))) none]) (.keep [0] c70_7))
theorem c70_eq:annC Try.f70 = some c70:=by kernel_rfl
theorem r70:Try.f70.results.toList = [.tmp 2]:=by kernel_rfl
theorem e70:enters Try.prog 70 = true:=by kernel_rfl
def o49_1:List SO:=((SO.mk (some 17) (.bin .eql 30 (.tmp 16) (.const (Value.int .i64 0))) (some (12 ,true))) :: (SO.mk (some 18) (.pick (.tmp 12) (.tmp 17) (.const (Value.bool false))) none) :: [])
theorem v49_1:type_of% (@swl _ _ o49_1.eq_1):=@swl _ _ o49_1.eq_1
def o49_2:List SO:=((SO.mk (some 13) (.move (.tmp 0)) (some (12 ,true))) :: (SO.mk (some 14) (.nilCheck (.tmp 13)) (some (12 ,true))) :: (SO.mk (some 15) (.faddr 85 (.tmp 14) 2) (some (12 ,true))) :: (SO.mk (some 16) (.load 30 (.tmp 15)) (some (12 ,true))) :: o49_1)
theorem v49_2:type_of% (@swl _ _ o49_2.eq_1):=@swl _ _ o49_2.eq_1
def c49_3:SC:=(.cond (.tmp 18) .skip (.exit 0))
theorem u49_3:type_of% (@swc _ _ c49_3.eq_1):=@swc _ _ c49_3.eq_1
def c49_4:SC:=(.reg [SO.mk (some 23) (.move (.tmp 4)) none,SO.mk (some 24) (.move (.tmp 6)) none,SO.mk (some 25) (.bslice 26 1 [(0 ,(.tmp 24))]) none,SO.mk (some 26) (.app 26 26 (.tmp 23) (.tmp 25)) none,SO.mk (some 4) (.move (.tmp 26)) none])
theorem u49_4:type_of% (@swc _ _ c49_4.eq_1):=@swc _ _ c49_4.eq_1
def c49_5:SC:=(.reg [SO.mk (some 19) (.move (.tmp 5)) none,SO.mk (some 20) (.bin .add 3 (.tmp 19) (.const (Value.int .i64 1))) none,SO.mk (some 5) (.move (.tmp 20)) none])
theorem u49_5:type_of% (@swc _ _ c49_5.eq_1):=@swc _ _ c49_5.eq_1
def c49_6:SC:=(.seq (.block 1 (.seq (.reg [SO.mk (some 21) (.move (.tmp 0)) none,SO.mk (some 22) (.call 43 [(.tmp 21),(.const (Value.int .i64 1))]) none,SO.mk (some 6) (.move (.tmp 22)) none]) (.keep [4,6,5,3,0] c49_4))) (.keep [5,3,0,4] c49_5))
theorem u49_6:type_of% (@swc _ _ c49_6.eq_1):=@swc _ _ c49_6.eq_1
def c49_7:SC:=(.seq (.seq (.reg ((SO.mk (some 9) (.move (.tmp 5)) none) :: (SO.mk (some 10) (.move (.tmp 3)) none) :: (SO.mk (some 11) (.bin .lss 3 (.tmp 9) (.tmp 10)) none) :: (SO.mk (some 12) (.move (.tmp 11)) none) :: o49_2)) (.keep [18,0,3,5,4] c49_3)) (.keep [4,5,3,0] c49_6))
theorem u49_7:type_of% (@swc _ _ c49_7.eq_1):=@swc _ _ c49_7.eq_1
def c49_8:SC:=(.block 0 (.loop (.keep [0,3,5,4] c49_7)))
theorem u49_8:type_of% (@swc _ _ c49_8.eq_1):=@swc _ _ c49_8.eq_1
def c49_9:SC:=(.seq (.reg [SO.mk (some 27) (.move (.tmp 4)) none,SO.mk (some 2) (.move (.tmp 27)) none]) (.keep [2] .ret))
theorem u49_9:type_of% (@swc _ _ c49_9.eq_1):=@swc _ _ c49_9.eq_1
def c49_10:SC:=(.seq (.seq (.reg [SO.mk (some 5) (.move (.const (Value.int .i64 0))) none]) (.keep [0,3,5,4] c49_8)) (.keep [4] c49_9))
theorem u49_10:type_of% (@swc _ _ c49_10.eq_1):=@swc _ _ c49_10.eq_1
def c49_11:SC:=(.seq (.reg [SO.mk (some 4) (.move (.const (Value.slice none 0 0))) none]) (.keep [0,3,4] c49_10))
theorem u49_11:type_of% (@swc _ _ c49_11.eq_1):=@swc _ _ c49_11.eq_1
def c49_12:SC:=(.seq (.reg [SO.mk (some 7) (.move (.tmp 0)) none,SO.mk (some 8) (.call 43 [(.tmp 7),(.const (Value.int .i64 1))]) none,SO.mk (some 3) (.move (.tmp 8)) none]) (.keep [0,3] c49_11))
theorem u49_12:type_of% (@swc _ _ c49_12.eq_1):=@swc _ _ c49_12.eq_1
def c49:SC:=(.seq (.reg [SO.mk (some 2) (.move (.const (Value.slice none 0 0))) none]) (.keep [0] c49_12))
theorem c49_eq:annC Try.f49 = some c49:=by kernel_rfl
theorem r49:Try.f49.results.toList = [.tmp 2]:=by kernel_rfl
theorem e49:enters Try.prog 49 = true:=by kernel_rfl
end Go.Proofs.Ytijpmidnclbhpaa
namespace Go.Proofs.Ytijpmidnclbhpaa
open Go.RowKit
set_option maxHeartbeats 4000000
set_option maxRecDepth 20000
attribute [local irreducible] SW OSW SWL SWLn SWD SEcall SEcallv SDv SE SO1 SOg ACalls ACallv Wk EndV
set_option linter.unusedSimpArgs false
set_option linter.unusedVariables false
theorem num_Ln (x:Int) (h:0 ≤ x) (h8:x < 256):Looks Try.prog 43 [I x] (fun s=>I (takN s x.toNat)) (fun s=>takS s x.toNat) (fun s=>x.toNat ≤ 4 ∨ s.1.length < x.toNat):=by
  have:=num_L x.toNat (by omega)
  rwa [show ((x.toNat:Nat):Int) = x by omega] at this
theorem str_L :Looks Try.prog 44 [] (fun s=>.d (.v (.string (textN s)))) (fun s=>textS s) (fun s=>True):=by
  intro B σ n bb b e hn hσ hx hbb hp
  refine own_ofL [(n,eyO bb b e)] (hid1_sto hσ) hid1_closed follows Try.func44 c44_eq r44 (Nat.le_of_ble_eq_true rfl) fun hcl hsz=>?_
  clear hsz
  have y1:∀ s,(n = B + s) = False:=fun s=>by simp;omega
  have y2:∀ s,(B + s = n) = False:=fun s=>by simp;omega
  have y3:(n < B) = True:=eq_true hn
  have y4:decide (n < B) = true:=by simpa using hn
  have y5:decide (n < B + 100000) = true:=by simp;omega
  have hx0:=(takN_1 (b,e)).1
  have hx1:=(takN_1 (b,e)).2
  have hs1:(takS (b,e) 1).1 <:+ bb:=(takS_suf (b,e) 1).trans hx
  have hbl:(takS (b,e) 1).1.length ≤ bb.length:=hs1.length_le
  have hd:=suf_drop hs1
  have w1:IntKind.i64.wrap ((bb.length:Int) - ((bb.length:Int) - (takS (b,e) 1).1.length)) = (takS (b,e) 1).1.length:=by rw [IntWalk.i64_in _ (by omega)];omega
  have w2:IntKind.i64.wrap ((bb.length:Int) - (takS (b,e) 1).1.length + takN (b,e) 1) = (bb.length:Int) - (takS (b,e) 1).1.length + takN (b,e) 1:=IntWalk.i64_in _ (by omega)
  have w4:IntKind.i64.wrap ((bb.length:Int) - (takS (b,e) 1).1.length + takN (b,e) 1 - takN (b,e) 1) = (bb.length:Int) - (takS (b,e) 1).1.length:=by rw [IntWalk.i64_in _ (by omega)];omega
  have w3:((bb.length:Int) - (takS (b,e) 1).1.length + takN (b,e) 1).toNat - ((bb.length:Int) - (takS (b,e) 1).1.length).toNat = (takN (b,e) 1).toNat:=by omega
  clear hσ hp
  repeat' (first | (simp -implicitDefEqProofs only [*,Nat.reduceBEq,↓reduceIte,Nat.reduceEqDiff,Nat.reduceAdd,reduceCtorEq,AV.kill,Int.reduceLT,Int.reduceToNat,List.getElem?_nil,Nat.reduceMul,Nat.reducePow,Nat.reduceLeDiff,rowOf_mapD,rowOf_mapI,rowOf_mapA,List.getElem?_cons_zero,List.getElem?_cons_succ,take_map_len,take_map_app,List.getElem?_cons_zero,c44,r44,v44_1,v44_2,v44_3,m44_3,u44_4,u44_5,u44_6,v44_7,v44_8,v44_9,v44_10,v44_11,v44_12,v44_13,m44_13,u44_14,u44_15,u44_16,u44_17,ty85,ty29,ty3,ty9,ty5,aokB,aokD,aokA,↓eyO_allN,↓eyO_kill,y1,y2,y3,y4,y5,prEta,mvcgen_simp]) | (with_reducible refine And.intro ?_ ?_) | (refine call_e0 (d:=some 5) (by omega) e43 ( num_L 1 (by decide)) rfl ?_ ?_ hbb ?_ ?_ ?_ ?_ ?_) | (refine call_e1 (d:=some 5) (by omega) e43 ( num_L 1 (by decide)) rfl ?_ ?_ hbb ?_ ?_ ?_ ?_ ?_) | (refine call_e2 (d:=some 5) (by omega) e43 ( num_L 1 (by decide)) rfl ?_ ?_ hbb ?_ ?_ ?_ ?_ ?_) | (refine call_e0 (d:=some 20) (by omega) e43 ( num_Ln _ hx0 hx1) rfl ?_ ?_ hbb ?_ ?_ ?_ ?_ ?_) | (refine call_e1 (d:=some 20) (by omega) e43 ( num_Ln _ hx0 hx1) rfl ?_ ?_ hbb ?_ ?_ ?_ ?_ ?_) | (refine call_e2 (d:=some 20) (by omega) e43 ( num_Ln _ hx0 hx1) rfl ?_ ?_ hbb ?_ ?_ ?_ ?_ ?_) | (refine EndX.plain ?_) | (refine nil_split (fun hn=>?_) (fun hn=>?_)) | (refine gcall_no not_false ?_) | (refine gdcall_no not_false ?_) | (refine GuardS_of _ _ _ _ _ _ (fun hg=>?_) (fun hg=>?_)) | (refine GuardD_of _ _ _ _ (fun hg=>?_) (fun hg=>?_)) | (refine CondB_of _ _ _ _ _ _ _ ?_ (fun hg=>?_) (fun hg=>?_)))
  repeat' (first | (simp -implicitDefEqProofs only [*,Nat.reduceBEq,↓reduceIte,Nat.reduceEqDiff,Nat.reduceAdd,reduceCtorEq,AV.kill,Int.reduceLT,Int.reduceToNat,List.getElem?_nil,Nat.reduceMul,Nat.reducePow,Nat.reduceLeDiff,rowOf_mapD,rowOf_mapI,rowOf_mapA,List.getElem?_cons_zero,List.getElem?_cons_succ,take_map_len,take_map_app,List.getElem?_cons_zero,c44,r44,v44_1,v44_2,v44_3,m44_3,u44_4,u44_5,u44_6,v44_7,v44_8,v44_9,v44_10,v44_11,v44_12,v44_13,m44_13,u44_14,u44_15,u44_16,u44_17,ty85,ty29,ty3,ty9,ty5,aokB,aokD,aokA,↓eyO_allN,↓eyO_kill,y1,y2,y3,y4,y5,eyO,prEta,convV,txtW,isB_byR,bnd,sliceV,Option.getD_some,Option.getD_none,Rows_byQ,bytes,← List.map_take,← List.map_drop,Nat.sub_zero,mvcgen_simp]) | (with_reducible refine And.intro ?_ ?_) | (refine call_e0 (d:=some 5) (by omega) e43 ( num_L 1 (by decide)) rfl ?_ ?_ hbb ?_ ?_ ?_ ?_ ?_) | (refine call_e1 (d:=some 5) (by omega) e43 ( num_L 1 (by decide)) rfl ?_ ?_ hbb ?_ ?_ ?_ ?_ ?_) | (refine call_e2 (d:=some 5) (by omega) e43 ( num_L 1 (by decide)) rfl ?_ ?_ hbb ?_ ?_ ?_ ?_ ?_) | (refine call_e0 (d:=some 20) (by omega) e43 ( num_Ln _ hx0 hx1) rfl ?_ ?_ hbb ?_ ?_ ?_ ?_ ?_) | (refine call_e1 (d:=some 20) (by omega) e43 ( num_Ln _ hx0 hx1) rfl ?_ ?_ hbb ?_ ?_ ?_ ?_ ?_) | (refine call_e2 (d:=some 20) (by omega) e43 ( num_Ln _ hx0 hx1) rfl ?_ ?_ hbb ?_ ?_ ?_ ?_ ?_) | (refine EndX.plain ?_) | (refine nil_split (fun hn=>?_) (fun hn=>?_)) | (refine gcall_no not_false ?_) | (refine gdcall_no not_false ?_) | (refine GuardS_of _ _ _ _ _ _ (fun hg=>?_) (fun hg=>?_)) | (refine GuardD_of _ _ _ _ (fun hg=>?_) (fun hg=>?_)) | (refine CondB_of _ _ _ _ _ _ _ ?_ (fun hg=>?_) (fun hg=>?_)))
  all_goals first
    | (intro p hp;simp only [List.mem_cons,List.not_mem_nil,or_false] at hp;rcases hp with rfl | rfl<;>simp [y2];done)
    | (intro p hp;simp only [List.mem_cons,List.not_mem_nil,or_false] at hp;subst hp;simp [y2];done)
    | (intro p hp;cases hp;done)
    | (exact .inl (by decide))
    | (show List.IsSuffix _ bb;repeat' (first | assumption | refine (takS_suf _ _).trans ?_ | refine (textS_suf _).trans ?_ | refine (bitS_suf _).trans ?_ | refine (intsS_suf _).trans ?_ | refine (itS_suf _ _).trans ?_))
    | trivial
    | (unfold Fr.below;simp [Fr.allN,AV.allN,AV.allNL,y5];done)
    | (unfold noN;simp [Fr.allN,AV.allN,AV.allNL,AO.allN];done)
    | (unfold Loc.below;simp [AO.allN,AV.allN,AV.allNL,y5];done)
    | (unfold Loc.below;simp only [List.all_cons,List.all_nil,eyO_allN,y5];simp [AO.allN,AV.allN,AV.allNL];done)
    | (have hb:txBad (b,e) = true:=(by assumption:decide (takN (b,e) 1 > ((takS (b,e) 1).1.length:Int)) = true)
       have hb2:=of_decide_eq_true hb
       first
       | (right;show (takS (b,e) 1).1.length < _;omega)
       | (unfold textN;rw [hb];rfl)
       | (funext x
          by_cases z1:x = n
          · subst z1;simp only [if_true];unfold textS;rw [hb];rfl
          · simp only [if_neg z1];simp [hid1,z1]))
    | (have hb:txBad (b,e) = false:=(by assumption:decide (takN (b,e) 1 > ((takS (b,e) 1).1.length:Int)) = false)
       have hb2:=of_decide_eq_false hb
       first
       | omega
       | exact Int.le_refl _
       | (unfold textN;rw [hb];rfl)
       | (funext x
          by_cases z1:x = n
          · subst z1;simp only [if_true];unfold textS;rw [hb];simp only [cond_false,eyO,List.length_drop];simp;omega
          · simp only [if_neg z1];simp [hid1,z1]))
    | (refine rd_end ?_ ?_
       · simp [textS,textN]
       · intro x z1;simp [z1,hid1])
theorem yes_L :Looks Try.prog 70 [] (fun s=>Bo (bitN s)) (fun s=>bitS s) (fun s=>True):=by
  intro B σ n bb b e hn hσ hx hbb hp
  refine own_ofL [(n,eyO bb b e)] (hid1_sto hσ) hid1_closed follows Try.func70 c70_eq r70 (Nat.le_of_ble_eq_true rfl) fun hcl hsz=>?_
  clear hsz
  have y1:∀ s,(n = B + s) = False:=fun s=>by simp;omega
  have y2:∀ s,(B + s = n) = False:=fun s=>by simp;omega
  have y3:(n < B) = True:=eq_true hn
  have y4:decide (n < B) = true:=by simpa using hn
  have y5:decide (n < B + 100000) = true:=by simp;omega
  have hb1:bitS (b,e) = bif decide (takN (b,e) 1 > 1) && (takS (b,e) 1).2 == 0 then ((takS (b,e) 1).1,4) else takS (b,e) 1:=rfl
  have hb2:bitN (b,e) = (takN (b,e) 1 == 1):=rfl
  clear hσ
  repeat' (first | (simp -implicitDefEqProofs only [*,Nat.reduceBEq,↓reduceIte,Nat.reduceEqDiff,Nat.reduceAdd,reduceCtorEq,AV.kill,Int.reduceLT,Int.reduceToNat,List.getElem?_nil,Nat.reduceMul,Nat.reducePow,Nat.reduceLeDiff,rowOf_mapD,rowOf_mapI,rowOf_mapA,List.getElem?_cons_zero,List.getElem?_cons_succ,take_map_len,take_map_app,List.getElem?_cons_zero,c70,r70,v70_1,v70_2,u70_3,u70_4,u70_5,u70_6,u70_7,ty3,ty85,ty30,aokB,aokD,aokA,↓eyO_allN,↓eyO_kill,y1,y2,y3,y4,y5,prEta,mvcgen_simp]) | (with_reducible refine And.intro ?_ ?_) | (refine call_e0 (d:=some 5) (by omega) e43 ( num_L 1 (by decide)) rfl ?_ ?_ hbb ?_ ?_ ?_ ?_ ?_) | (refine call_e1 (d:=some 5) (by omega) e43 ( num_L 1 (by decide)) rfl ?_ ?_ hbb ?_ ?_ ?_ ?_ ?_) | (refine call_e2 (d:=some 5) (by omega) e43 ( num_L 1 (by decide)) rfl ?_ ?_ hbb ?_ ?_ ?_ ?_ ?_) | (refine EndX.plain ?_) | (refine nil_split (fun hn=>?_) (fun hn=>?_)) | (refine gcall_no not_false ?_) | (refine gdcall_no not_false ?_) | (refine GuardS_of _ _ _ _ _ _ (fun hg=>?_) (fun hg=>?_)) | (refine GuardD_of _ _ _ _ (fun hg=>?_) (fun hg=>?_)) | (refine CondB_of _ _ _ _ _ _ _ ?_ (fun hg=>?_) (fun hg=>?_)))
  repeat' (first | (simp -implicitDefEqProofs only [*,Nat.reduceBEq,↓reduceIte,Nat.reduceEqDiff,Nat.reduceAdd,reduceCtorEq,AV.kill,Int.reduceLT,Int.reduceToNat,List.getElem?_nil,Nat.reduceMul,Nat.reducePow,Nat.reduceLeDiff,rowOf_mapD,rowOf_mapI,rowOf_mapA,List.getElem?_cons_zero,List.getElem?_cons_succ,take_map_len,take_map_app,List.getElem?_cons_zero,c70,r70,v70_1,v70_2,u70_3,u70_4,u70_5,u70_6,u70_7,ty3,ty85,ty30,aokB,aokD,aokA,↓eyO_allN,↓eyO_kill,y1,y2,y3,y4,y5,eyO,prEta,mvcgen_simp]) | (with_reducible refine And.intro ?_ ?_) | (refine call_e0 (d:=some 5) (by omega) e43 ( num_L 1 (by decide)) rfl ?_ ?_ hbb ?_ ?_ ?_ ?_ ?_) | (refine call_e1 (d:=some 5) (by omega) e43 ( num_L 1 (by decide)) rfl ?_ ?_ hbb ?_ ?_ ?_ ?_ ?_) | (refine call_e2 (d:=some 5) (by omega) e43 ( num_L 1 (by decide)) rfl ?_ ?_ hbb ?_ ?_ ?_ ?_ ?_) | (refine EndX.plain ?_) | (refine nil_split (fun hn=>?_) (fun hn=>?_)) | (refine gcall_no not_false ?_) | (refine gdcall_no not_false ?_) | (refine GuardS_of _ _ _ _ _ _ (fun hg=>?_) (fun hg=>?_)) | (refine GuardD_of _ _ _ _ (fun hg=>?_) (fun hg=>?_)) | (refine CondB_of _ _ _ _ _ _ _ ?_ (fun hg=>?_) (fun hg=>?_)))
  all_goals first
    | (intro p hp;simp only [List.mem_cons,List.not_mem_nil,or_false] at hp;rcases hp with rfl | rfl<;>simp [y2];done)
    | (intro p hp;simp only [List.mem_cons,List.not_mem_nil,or_false] at hp;subst hp;simp [y2];done)
    | (intro p hp;cases hp;done)
    | (exact .inl (by decide))
    | (show List.IsSuffix _ bb;repeat' (first | assumption | refine (takS_suf _ _).trans ?_ | refine (textS_suf _).trans ?_ | refine (bitS_suf _).trans ?_ | refine (intsS_suf _).trans ?_ | refine (itS_suf _ _).trans ?_))
    | trivial
    | (unfold Fr.below;simp [Fr.allN,AV.allN,AV.allNL,y5];done)
    | (unfold noN;simp [Fr.allN,AV.allN,AV.allNL,AO.allN];done)
    | (unfold Loc.below;simp [AO.allN,AV.allN,AV.allNL,y5];done)
    | (unfold Loc.below;simp only [List.all_cons,List.all_nil,eyO_allN,y5];simp [AO.allN,AV.allN,AV.allNL];done)
    | (refine rd_end ?_ ?_
       · simp [List.map_cons]
       · intro x z1;simp [z1,hid1])
theorem list_L :Looks Try.prog 49 [] (fun s=>.d (ints (intsN s))) (fun s=>intsS s) (fun s=>True):=by
  intro B σ n bb b e hn hσ hx hbb hp
  refine own_ofL [(n,eyO bb b e)] (hid1_sto hσ) hid1_closed follows Try.func49 c49_eq r49 (Nat.le_of_ble_eq_true rfl) fun hcl hsz=>?_
  clear hsz
  have y1:∀ s,(n = B + s) = False:=fun s=>by simp;omega
  have y2:∀ s,(B + s = n) = False:=fun s=>by simp;omega
  have y3:(n < B) = True:=eq_true hn
  have y4:decide (n < B) = true:=by simpa using hn
  have y5:decide (n < B + 100000) = true:=by simp;omega
  have hx0:=(takN_1 (b,e)).1
  have hx1:=(takN_1 (b,e)).2
  obtain ⟨M,hM⟩:∃ M,itC (b,e) ((takN (b,e) 1).toNat - 0) 0 = M:=⟨_,rfl⟩
  have hM2:itM (b,e) = M:=hM
  clear hσ hp
  repeat' (first | (simp -implicitDefEqProofs only [*,Nat.reduceBEq,↓reduceIte,Nat.reduceEqDiff,Nat.reduceAdd,reduceCtorEq,AV.kill,Int.reduceLT,Int.reduceToNat,List.getElem?_nil,Nat.reduceMul,Nat.reducePow,Nat.reduceLeDiff,rowOf_mapD,rowOf_mapI,rowOf_mapA,List.getElem?_cons_zero,List.getElem?_cons_succ,take_map_len,take_map_app,List.getElem?_cons_zero,c49,r49,v49_1,v49_2,u49_3,u49_4,u49_5,u49_6,u49_7,u49_8,u49_9,u49_10,u49_11,u49_12,ty3,ty85,ty30,ty26,aokB,aokD,aokA,↓eyO_allN,↓eyO_kill,y1,y2,y3,y4,y5,prEta,mvcgen_simp]) | (with_reducible refine And.intro ?_ ?_) | (refine call_e0 (d:=some 8) (by omega) e43 ( num_L 1 (by decide)) rfl ?_ ?_ hbb ?_ ?_ ?_ ?_ ?_) | (refine call_e1 (d:=some 8) (by omega) e43 ( num_L 1 (by decide)) rfl ?_ ?_ hbb ?_ ?_ ?_ ?_ ?_) | (refine call_e2 (d:=some 8) (by omega) e43 ( num_L 1 (by decide)) rfl ?_ ?_ hbb ?_ ?_ ?_ ?_ ?_) | (refine call_e0 (d:=some 22) (by omega) e43 ( num_L 1 (by decide)) rfl ?_ ?_ hbb ?_ ?_ ?_ ?_ ?_) | (refine call_e1 (d:=some 22) (by omega) e43 ( num_L 1 (by decide)) rfl ?_ ?_ hbb ?_ ?_ ?_ ?_ ?_) | (refine call_e2 (d:=some 22) (by omega) e43 ( num_L 1 (by decide)) rfl ?_ ?_ hbb ?_ ?_ ?_ ?_ ?_) | (refine loop_nat ((takN (b,e) 1).toNat) (fun k=>itC (b,e) ((takN (b,e) 1).toNat - k) k = M) (fun k=>[(0,.lp n 0),(3,I (takN (b,e) 1)),(5,I k),(4,.os (B + 28) (itL (b,e) k).length)]) (fun k=>[(B + 28,.arr 1 3 ((itL (b,e) k).map int_)),(n,eyO bb (itS (b,e) k).1 (itS (b,e) k).2)]) ?_ (Wk.trans (Wk.nameF (s:=4) (n:=B + 28) (k:=1) (E:=3) rfl (by omega) (.inl (by omega)) (fun m=>AO.kill_below (q:=fun m=>decide (m < B)) (by simp) _ (hcl m).1)) (Wk.keep hcl ?_ ?_ ?_)) fun k hk hF=>?_;rotate_left 1;(focus (simp [Fr.get,newF,Fr.map,AV.kill,AV.mapN,aokB,aokD,aokA,↓eyO_allN,↓eyO_kill,y1,y2,y3,y4,y5,prEta]<;>fail));(focus (simp [sto,newL,Loc.kill,Loc.set,AO.kill,AV.kill,AV.mapN,aokB,aokD,aokA,↓eyO_allN,↓eyO_kill,y1,y2,y3,y4,y5,prEta]<;>fail));(focus (simp [newL,Loc.kill,Loc.set,aokB,aokD,aokA,↓eyO_allN,↓eyO_kill,y1,y2,y3,y4,y5,prEta]<;>fail));(try have hw:IntKind.i64.wrap ((k:Int) + 1) = (k:Int) + 1:=IntWalk.i64_in _ (by omega))) | (refine EndX.plain ?_) | (refine nil_split (fun hn=>?_) (fun hn=>?_)) | (refine gcall_no not_false ?_) | (refine gdcall_no not_false ?_) | (refine GuardS_of _ _ _ _ _ _ (fun hg=>?_) (fun hg=>?_)) | (refine GuardD_of _ _ _ _ (fun hg=>?_) (fun hg=>?_)) | (refine CondB_of _ _ _ _ _ _ _ ?_ (fun hg=>?_) (fun hg=>?_)))
  repeat' (first | (simp -implicitDefEqProofs only [*,Nat.reduceBEq,↓reduceIte,Nat.reduceEqDiff,Nat.reduceAdd,reduceCtorEq,AV.kill,Int.reduceLT,Int.reduceToNat,List.getElem?_nil,Nat.reduceMul,Nat.reducePow,Nat.reduceLeDiff,rowOf_mapD,rowOf_mapI,rowOf_mapA,List.getElem?_cons_zero,List.getElem?_cons_succ,take_map_len,take_map_app,List.getElem?_cons_zero,c49,r49,v49_1,v49_2,u49_3,u49_4,u49_5,u49_6,u49_7,u49_8,u49_9,u49_10,u49_11,u49_12,ty3,ty85,ty30,ty26,aokB,aokD,aokA,↓eyO_allN,↓eyO_kill,y1,y2,y3,y4,y5,eyO,prEta,ints,int_,itS_0,itL_0,mvcgen_simp]) | (with_reducible refine And.intro ?_ ?_) | (refine call_e0 (d:=some 8) (by omega) e43 ( num_L 1 (by decide)) rfl ?_ ?_ hbb ?_ ?_ ?_ ?_ ?_) | (refine call_e1 (d:=some 8) (by omega) e43 ( num_L 1 (by decide)) rfl ?_ ?_ hbb ?_ ?_ ?_ ?_ ?_) | (refine call_e2 (d:=some 8) (by omega) e43 ( num_L 1 (by decide)) rfl ?_ ?_ hbb ?_ ?_ ?_ ?_ ?_) | (refine call_e0 (d:=some 22) (by omega) e43 ( num_L 1 (by decide)) rfl ?_ ?_ hbb ?_ ?_ ?_ ?_ ?_) | (refine call_e1 (d:=some 22) (by omega) e43 ( num_L 1 (by decide)) rfl ?_ ?_ hbb ?_ ?_ ?_ ?_ ?_) | (refine call_e2 (d:=some 22) (by omega) e43 ( num_L 1 (by decide)) rfl ?_ ?_ hbb ?_ ?_ ?_ ?_ ?_) | (refine loop_nat ((takN (b,e) 1).toNat) (fun k=>itC (b,e) ((takN (b,e) 1).toNat - k) k = M) (fun k=>[(0,.lp n 0),(3,I (takN (b,e) 1)),(5,I k),(4,.os (B + 28) (itL (b,e) k).length)]) (fun k=>[(B + 28,.arr 1 3 ((itL (b,e) k).map int_)),(n,eyO bb (itS (b,e) k).1 (itS (b,e) k).2)]) ?_ (Wk.trans (Wk.nameF (s:=4) (n:=B + 28) (k:=1) (E:=3) rfl (by omega) (.inl (by omega)) (fun m=>AO.kill_below (q:=fun m=>decide (m < B)) (by simp) _ (hcl m).1)) (Wk.keep hcl ?_ ?_ ?_)) fun k hk hF=>?_;rotate_left 1;(focus (simp [Fr.get,newF,Fr.map,AV.kill,AV.mapN,aokB,aokD,aokA,↓eyO_allN,↓eyO_kill,y1,y2,y3,y4,y5,eyO,prEta,ints,int_,itS_0,itL_0]<;>fail));(focus (simp [sto,newL,Loc.kill,Loc.set,AO.kill,AV.kill,AV.mapN,aokB,aokD,aokA,↓eyO_allN,↓eyO_kill,y1,y2,y3,y4,y5,eyO,prEta,ints,int_,itS_0,itL_0]<;>fail));(focus (simp [newL,Loc.kill,Loc.set,aokB,aokD,aokA,↓eyO_allN,↓eyO_kill,y1,y2,y3,y4,y5,eyO,prEta,ints,int_,itS_0,itL_0]<;>fail));(try have hw:IntKind.i64.wrap ((k:Int) + 1) = (k:Int) + 1:=IntWalk.i64_in _ (by omega))) | (refine EndX.plain ?_) | (refine nil_split (fun hn=>?_) (fun hn=>?_)) | (refine gcall_no not_false ?_) | (refine gdcall_no not_false ?_) | (refine GuardS_of _ _ _ _ _ _ (fun hg=>?_) (fun hg=>?_)) | (refine GuardD_of _ _ _ _ (fun hg=>?_) (fun hg=>?_)) | (refine CondB_of _ _ _ _ _ _ _ ?_ (fun hg=>?_) (fun hg=>?_)))
  all_goals first
    | (intro p hp;simp only [List.mem_cons,List.not_mem_nil,or_false] at hp;rcases hp with rfl | rfl<;>simp [y2];done)
    | (intro p hp;simp only [List.mem_cons,List.not_mem_nil,or_false] at hp;subst hp;simp [y2];done)
    | (intro p hp;cases hp;done)
    | (exact .inl (by decide))
    | (show List.IsSuffix _ bb;repeat' (first | assumption | refine (takS_suf _ _).trans ?_ | refine (textS_suf _).trans ?_ | refine (bitS_suf _).trans ?_ | refine (intsS_suf _).trans ?_ | refine (itS_suf _ _).trans ?_))
    | trivial
    | (unfold Fr.below;simp [Fr.allN,AV.allN,AV.allNL,y5];done)
    | (unfold noN;simp [Fr.allN,AV.allN,AV.allNL,AO.allN];done)
    | (unfold Loc.below;simp [AO.allN,AV.allN,AV.allNL,y5];done)
    | (unfold Loc.below;simp only [List.all_cons,List.all_nil,eyO_allN,y5];simp [AO.allN,AV.allN,AV.allNL];done)
    | (have hlt:=of_decide_eq_true (by assumption:decide ((k:Int) < takN (b,e) 1) = true)
       have h0:=(by assumption:((itS (b,e) k).2 == 0) = true)
       have hlt:k < (takN (b,e) 1).toNat:=by omega
       first
       | exact hlt
       | exact itC_go hF hlt h0
       | (rw [itL_len];omega)
       | (rw [show (k:Int) + 1 = ((k + 1:Nat):Int) by omega,← itS_next,← itL_next,List.map_append,List.length_append]
          refine Wk.keep hcl ?_ ?_ ?_<;>simp [Fr.get,sto,eyO,int_,y1,y2]))
    | (have hk3:k = M:=by
         first
         | (have hle:=of_decide_eq_false (by assumption:decide ((k:Int) < takN (b,e) 1) = false)
            exact itC_end hF (by omega))
         | exact itC_no hF (by assumption)
       first
       | (unfold intsN;rw [hM2,← hk3])
       | (funext x
          by_cases z1:x = n
          · subst z1;simp only [if_true];unfold intsS;rw [hM2,← hk3]
          · simp only [if_neg z1];simp [hid1,z1]))
    | (refine rd_end ?_ ?_
       · simp [intsS,intsN]
       · intro x z1;simp [z1,hid1])
end Go.Proofs.Ytijpmidnclbhpaa
