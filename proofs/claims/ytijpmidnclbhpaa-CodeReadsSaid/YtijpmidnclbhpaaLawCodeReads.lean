/- CodeReads: the call answers as the reference does,at every argument;no condition. -/
import Derived.Test.YtijpmidnclbhpaaKM6
import Derived.Test.YtijpmidnclbhpaaKM7
import Derived.Test.YtijpmidnclbhpaaStSelf
import Derived.Test.YtijpmidnclbhpaaOpenSt
import Derived.Test.YtijpmidnclbhpaaTypes
import Derived.Test.YtijpmidnclbhpaaRows
import Derived.JoinedOf
import Derived.OpenShut

/- The law CodeReads,walked. -/
namespace Go.Proofs.Ytijpmidnclbhpaa
open Go.RowKit
set_option maxRecDepth 100000
def c8_1:SC:=(.seq (.reg [SO.mk (some 3) (.move (.tmp 0)) none,SO.mk (some 4) (.app 29 29 (.const (Value.slice none 0 0)) (.tmp 3)) none,SO.mk (some 2) (.move (.tmp 4)) none]) (.keep [2] .ret))
theorem u8_1:type_of% (@swc _ _ c8_1.eq_1):=@swc _ _ c8_1.eq_1
def c8:SC:=(.seq (.reg [SO.mk (some 2) (.move (.const (Value.slice none 0 0))) none]) (.keep [0] c8_1))
theorem c8_eq:annC Try.f8 = some c8:=by kernel_rfl
theorem r8:Try.f8.results.toList = [.tmp 2]:=by kernel_rfl
theorem e8:enters Try.prog 8 = true:=by kernel_rfl
def o4_1:List SO:=((SO.mk (some 4) (.move (.tmp 12)) none) :: [])
theorem v4_1:type_of% (@swl _ _ o4_1.eq_1):=@swl _ _ o4_1.eq_1
def o4_2:List SO:=((SO.mk (some 11) (.extract (.tmp 7) 0) none) :: (SO.mk (some 12) (.extract (.tmp 7) 1) none) :: (SO.mk (some 3) (.alloc 28) none) :: (SO.mk none (.store 28 (.tmp 3) (.tmp 11)) none) :: o4_1)
theorem v4_2:type_of% (@swl _ _ o4_2.eq_1):=@swl _ _ o4_2.eq_1
def o4_3:List SO:=((SO.mk (some 17) (.extract (.tmp 13) 1) none) :: (SO.mk (some 5) (.alloc 28) none) :: (SO.mk none (.store 28 (.tmp 5) (.tmp 16)) none) :: (SO.mk (some 6) (.move (.tmp 17)) none) :: [])
theorem v4_3:type_of% (@swl _ _ o4_3.eq_1):=@swl _ _ o4_3.eq_1
def o4_4:List SO:=((SO.mk (some 2) (.move (.tmp 25)) none) :: [])
theorem v4_4:type_of% (@swl _ _ o4_4.eq_1):=@swl _ _ o4_4.eq_1
def o4_5:List SO:=((SO.mk (some 22) (.load 28 (.tmp 3)) (some (21 ,true))) :: (SO.mk (some 23) (.load 28 (.tmp 5)) (some (21 ,true))) :: (SO.mk (some 24) (.call 10 [(.tmp 22),(.tmp 23)]) (some (21 ,true))) :: (SO.mk (some 25) (.pick (.tmp 21) (.tmp 24) (.const (Value.bool false))) none) :: o4_4)
theorem v4_5:type_of% (@swl _ _ o4_5.eq_1):=@swl _ _ o4_5.eq_1
def c4_6:SC:=(.seq (.reg ((SO.mk (some 18) (.move (.tmp 4)) none) :: (SO.mk (some 19) (.move (.tmp 6)) none) :: (SO.mk (some 20) (.bin .eql 30 (.tmp 18) (.tmp 19)) none) :: (SO.mk (some 21) (.move (.tmp 20)) none) :: o4_5)) (.keep [2] .ret))
theorem u4_6:type_of% (@swc _ _ c4_6.eq_1):=@swc _ _ c4_6.eq_1
def c4_7:SC:=(.seq (.reg ((SO.mk (some 14) (.move (.tmp 0)) none) :: (SO.mk (some 15) (.call 9 [(.tmp 14)]) none) :: (SO.mk (some 13) (.move (.tmp 15)) none) :: (SO.mk (some 16) (.extract (.tmp 13) 0) none) :: o4_3)) (.keep [4,6,3,5] c4_6))
theorem u4_7:type_of% (@swc _ _ c4_7.eq_1):=@swc _ _ c4_7.eq_1
def c4_8:SC:=(.seq (.reg ((SO.mk (some 8) (.move (.tmp 0)) none) :: (SO.mk (some 9) (.call 8 [(.tmp 8)]) none) :: (SO.mk (some 10) (.call 7 [(.tmp 9)]) none) :: (SO.mk (some 7) (.move (.tmp 10)) none) :: o4_2)) (.keep [0,4,3] c4_7))
theorem u4_8:type_of% (@swc _ _ c4_8.eq_1):=@swc _ _ c4_8.eq_1
def c4:SC:=(.seq (.reg [SO.mk (some 2) (.move (.const (Value.bool false))) none]) (.keep [0] c4_8))
theorem c4_eq:annC Try.f4 = some c4:=by kernel_rfl
theorem r4:Try.f4.results.toList = [.tmp 2]:=by kernel_rfl
theorem e4:enters Try.prog 4 = true:=by kernel_rfl
end Go.Proofs.Ytijpmidnclbhpaa
namespace Go.Proofs.Ytijpmidnclbhpaa
open Go.RowKit
set_option maxHeartbeats 4000000
set_option maxRecDepth 20000
attribute [local irreducible] SW OSW SWL SWLn SWD SEcall SEcallv SDv SE SO1 SOg ACalls ACallv Wk EndV
set_option linter.unusedSimpArgs false
set_option linter.unusedVariables false
theorem rdT_wf (b:List UInt8):(rdT b).wf:=by
  unfold rdT
  cases rdE b == 0
  · unfold stZ0 SttD.wf;simp [inI]
  · exact stN_wf b
attribute [local irreducible] rdT rdE
theorem octets_p (b:List UInt8):Pure Try.prog 8 [.d (bytes b)] (.d (bytes b)):=by
  refine pureZ_of follows Try.func8 c8_eq r8 (Nat.le_of_ble_eq_true rfl) fun B σ hcl hsz=>?_
  have hlen:b.length ≤ 2 ^ 47:=by simpa using (show Sized (bytes b) from hsz (.d (bytes b)) (by simp)).len
  clear hsz
  repeat' (first | (simp -implicitDefEqProofs only [*,Nat.reduceBEq,↓reduceIte,Nat.reduceEqDiff,Nat.reduceAdd,reduceCtorEq,AO.kill,AV.kill,Int.reduceLT,Int.reduceToNat,List.getElem?_nil,Nat.reduceMul,Nat.reducePow,Nat.reduceLeDiff,rowOf_mapD,rowOf_mapI,rowOf_mapA,List.getElem?_cons_zero,List.getElem?_cons_succ,take_map_len,take_map_app,List.getElem?_cons_zero,c8,r8,u8_1,ty29,ty5,bytes,mvcgen_simp]) | (with_reducible refine And.intro ?_ ?_) | (refine EndX.plain ?_) | (refine nil_split (fun hn=>?_) (fun hn=>?_)) | (refine gcall_no not_false ?_) | (refine gdcall_no not_false ?_) | (refine GuardS_of _ _ _ _ _ _ (fun hg=>?_) (fun hg=>?_)) | (refine GuardD_of _ _ _ _ (fun hg=>?_) (fun hg=>?_)) | (refine CondB_of _ _ _ _ _ _ _ ?_ (fun hg=>?_) (fun hg=>?_)))
  all_goals (try (first | ((first | unfold noN | unfold Fr.below | unfold Loc.below);simp [Fr.allN,AV.allN,AV.allNL,AO.allN];done) | rfl | trivial | assumption | (intro row hrow;simp only [List.mem_map] at hrow;obtain ⟨x,_,rfl⟩:=hrow;rfl) | (refine Wk.keep hcl ?_ ?_ ?_;(focus (simp [Fr.get,bytes]<;>fail));(focus (simp [sto,bytes]<;>fail));(focus (simp<;>fail))) | (simp [allP,opd,Fr.get,Fr.below,Fr.allN,AV.allN,AV.allNL,Loc.below,AO.allN,noN,killO,killT,killD,mkNames,AO.kill,AV.kill,AV.mapN,AV.mapNL];done) | (with_reducible exact ltD (by assumption)) | omega | (simp only [decide_eq_true_eq,decide_eq_false_iff_not] at *;omega)))
theorem codeReads_p (b:List UInt8):Pure Try.prog 4 [.d (bytes b)] (Bo true):=by
  refine pure_of follows Try.func4 c4_eq r4 (Nat.le_of_ble_eq_true rfl) fun B σ hcl hsz=>?_
  clear hsz
  have hd:=decSt_p b
  have hr:=stOf_p b
  have hs:=sameState_self (rdT b) (st_fit (rdT_wf b))
  unfold rdV at hd hr
  generalize rdT b = s at hd hr hs
  generalize rdE b = e at hd hr
  repeat' (first | (simp -implicitDefEqProofs only [*,Nat.reduceBEq,↓reduceIte,Nat.reduceEqDiff,Nat.reduceAdd,reduceCtorEq,AO.kill,AV.kill,Int.reduceLT,Int.reduceToNat,List.getElem?_nil,Nat.reduceMul,Nat.reducePow,Nat.reduceLeDiff,rowOf_mapD,rowOf_mapI,rowOf_mapA,List.getElem?_cons_zero,List.getElem?_cons_succ,take_map_len,take_map_app,List.getElem?_cons_zero,c4,r4,v4_1,v4_2,v4_3,v4_4,v4_5,u4_6,u4_7,u4_8,ty28,ty30,bytes,SttD.av,SttD.cells,ints,beq_self_eq_true,bne_self_eq_false,mvcgen_simp]) | (with_reducible refine And.intro ?_ ?_) | (refine call_ro e8 ( octets_p b) rfl ?_ ?_ ?_ ?_) | (refine gcall_ro e8 ( octets_p b) rfl ?_ ?_ ?_ ?_) | (refine dcall_ro e8 ( octets_p b) rfl ?_ ?_ ?_ ?_) | (refine gdcall_ro rfl e8 ( octets_p b) rfl ?_ ?_ ?_ ?_) | (refine call_ro e7 ( hd) rfl ?_ ?_ ?_ ?_) | (refine gcall_ro e7 ( hd) rfl ?_ ?_ ?_ ?_) | (refine dcall_ro e7 ( hd) rfl ?_ ?_ ?_ ?_) | (refine gdcall_ro rfl e7 ( hd) rfl ?_ ?_ ?_ ?_) | (refine call_ro e9 ( hr) rfl ?_ ?_ ?_ ?_) | (refine gcall_ro e9 ( hr) rfl ?_ ?_ ?_ ?_) | (refine dcall_ro e9 ( hr) rfl ?_ ?_ ?_ ?_) | (refine gdcall_ro rfl e9 ( hr) rfl ?_ ?_ ?_ ?_) | (refine call_ro e10 ( hs) rfl ?_ ?_ ?_ ?_) | (refine gcall_ro e10 ( hs) rfl ?_ ?_ ?_ ?_) | (refine dcall_ro e10 ( hs) rfl ?_ ?_ ?_ ?_) | (refine gdcall_ro rfl e10 ( hs) rfl ?_ ?_ ?_ ?_) | (refine EndX.plain ?_) | (refine nil_split (fun hn=>?_) (fun hn=>?_)) | (refine gcall_no not_false ?_) | (refine gdcall_no not_false ?_) | (refine GuardS_of _ _ _ _ _ _ (fun hg=>?_) (fun hg=>?_)) | (refine GuardD_of _ _ _ _ (fun hg=>?_) (fun hg=>?_)) | (refine CondB_of _ _ _ _ _ _ _ ?_ (fun hg=>?_) (fun hg=>?_)))
  all_goals (try (first | ((first | unfold noN | unfold Fr.below | unfold Loc.below);simp [Fr.allN,AV.allN,AV.allNL,AO.allN];done) | rfl | trivial | assumption | (intro row hrow;simp only [List.mem_map] at hrow;obtain ⟨x,_,rfl⟩:=hrow;rfl) | (refine Wk.keep hcl ?_ ?_ ?_;(focus (simp [Fr.get,bytes,SttD.av,SttD.cells,ints,beq_self_eq_true,bne_self_eq_false]<;>fail));(focus (simp [sto,bytes,SttD.av,SttD.cells,ints,beq_self_eq_true,bne_self_eq_false]<;>fail));(focus (simp<;>fail))) | (simp [allP,opd,Fr.get,Fr.below,Fr.allN,AV.allN,AV.allNL,Loc.below,AO.allN,noN,killO,killT,killD,mkNames,AO.kill,AV.kill,AV.mapN,AV.mapNL];done) | (with_reducible exact ltD (by assumption)) | omega | (simp only [decide_eq_true_eq,decide_eq_false_iff_not] at *;omega)))
end Go.Proofs.Ytijpmidnclbhpaa

/- What is true of the program as a whole,each fact by itself. -/
namespace Go.Proofs.Ytijpmidnclbhpaa
open Go.ChangeShapes Go.WideShapes
set_option linter.unusedSimpArgs false
set_option linter.unusedVariables false
theorem and_i {a b:Bool} (h:a = true) (k:b = true):(a && b) = true:=by rw [h,k];rfl
theorem fLaid:laidOutB Try.pinned.checked.prog = true:=by kernel_rfl
theorem fMaps:mapsRowed Try.pinned.checked.prog = true:=by kernel_rfl
theorem fHeard:Try.pinned.checked.prog.stopsHeard = true:=by kernel_rfl
theorem fEnter:Try.pinned.checked.prog.mayEnter = true:=by kernel_rfl
theorem fLifts:Try.pinned.checked.prog.liftsFinal = false:=by kernel_rfl
end Go.Proofs.Ytijpmidnclbhpaa
namespace Go.Proofs.Ytijpmidnclbhpaa.lawCodeReads
open Go.ChangeShapes Go.WideShapes Go.ChangeAt Go.RowKit
set_option linter.unusedSimpArgs false
set_option linter.unusedVariables false

theorem own:ownKnob Try.prog.godebug = none:=by kernel_rfl
theorem laidOut:laidOutB Try.prog = true:=by kernel_rfl
theorem readable:∀ t ∈ Try.f4.params.toList,Try.prog.readableRec t = true ∧ t < Try.prog.types.size:=by
  rw [Try.params4]
  intro t ht
  simp at ht
  subst ht
  exact ⟨by kernel_rfl,of_decide_eq_true (by kernel_rfl)⟩

set_option maxRecDepth 100000 in
theorem contract (H:Type) (enc:TypeId × Value → H) (W:World) (base:Nat) (args:Array Value) (ds gs:List (DataW H)) (before:List MemPlace)
    (hW:DataW.Whole enc Try.prog Try.f4.params.toList Rows.codeReadsSpec.vars false W args.toList ds gs before)
    (hval:∀ (j:Nat) t v,Try.f4.params[j]? = some t → args[j]? = some v → Value.okWide Try.prog W .any base t v)
    (hz:(DataW.weightsEach Try.prog (Try.f4.params.toList ++ Rows.codeReadsSpec.plain.varTypes Try.prog) (ds ++ gs)).all (· ≤ reachBytes) = true) :
    Calls Try.prog 4 args W fun e W'=>∃ v,e = .returned v ∧ Rows.codeReadsSpec.post enc Try.prog Try.f4 false true false false W args v W':=by
  have hW':=hW
  obtain ⟨p,q,hA0,hV,rfl,hfz,hnd⟩:=hW
  have hA:DataW.TrodAll enc Try.prog W 0 (fun _=>true) true Try.f4.params.toList args.toList ds p:=hA0
  rw [Try.params4] at hA
  obtain ⟨v0,vs0,d0,ds0,p0,q0,hargs,rfl,rfl,h0,r0⟩:=trodAll_cons hA
  obtain ⟨rfl,rfl,rfl⟩:=trodAll_nil r0
  obtain rfl:args = #[v0]:=by cases args;simp_all
  obtain rfl:=trodVars_nil rfl hV
  rw [Try.params4] at hz hval
  obtain ⟨s0,t0,e0⟩:=open_any (n:=7) (shBytes) (by kernel_rfl) (hval 0 _ _ (by simp) (by simp)) h0 (fits_arg hz (j:=0) (by simp) (by simp))
  obtain ⟨x0,w0,rfl⟩:=bytes_of t0
  refine (law_calls rfl (codeReads_p x0) rfl (reps_cons e0 reps_nil)).mono fun e W' ⟨he,hg⟩=>⟨_,he,?_⟩
  exact law_post laidOut rfl readable (by kernel_rfl) Try.underlying4 rfl hW' hg

set_option maxRecDepth 100000 in
theorem lifted (os:Os) (started:os.Started) (H:Type) (enc:TypeId × Value → H) :
    ReturnsInHanded {} Try.checked os 4 .any (Rows.codeReadsSpec.pre6 enc Try.prog Try.f4 [] false) (Rows.codeReadsSpec.post enc Try.prog Try.f4 false true false false):=by
  refine returnsInHanded_of_change_sized (C:=Try.checked) own started (by kernel_rfl) Try.func4
    (ChangeSpec.witness6 (enc:=enc) (C:=Try.checked) false ⟨#[],#[.slice none 0 0],[]⟩ 8 (by kernel_rfl) (by kernel_rfl) (by kernel_rfl) (by kernel_rfl)) ?_
  intro W base args ds gs before hval hW _ hz _
  exact contract H enc W base args ds gs before hW hval hz

set_option maxRecDepth 100000 in
theorem named:Try.pinned.checked.prog.funcNamed Rows.codeReadsRow.func = some 4:=by kernel_rfl
set_option maxHeartbeats 4000000 in
set_option maxRecDepth 100000 in
theorem closed:joinedFacts Try.pinned.checked.prog 4 Try.f4 Rows.codeReadsSpec Rows.codeReadsRow = true:=by
  unfold joinedFacts
  repeat' (with_reducible refine and_i ?_ ?_)
  all_goals (first | with_reducible exact fLaid | with_reducible exact fMaps | with_reducible exact fHeard | with_reducible exact fEnter | (rw [fLifts];as_aux_lemma=>kernel_rfl) | as_aux_lemma=>kernel_rfl)
theorem instance':Try.f4.isInstance Try.pinned.checked.prog Rows.codeReadsRow.origin Rows.codeReadsRow.targs:=of_decide_eq_true (by kernel_rfl)
theorem wrapper:Try.f4.isWrapper Try.pinned.checked.prog Rows.codeReadsRow.wrapper Rows.codeReadsRow.mainSum:=by
  unfold Func.isWrapper
  rw [if_neg (of_decide_eq_false (by kernel_rfl))]
  exact ⟨rfl,rfl⟩
theorem proved:Rows.CodeReadsSaid :=
  OpenClaim.holds_of_wide 4 Try.f4 rfl rfl rfl rfl rfl rfl rfl ⟨rfl,rfl,rfl,rfl,rfl⟩ rfl rfl rfl rfl rfl named Try.func4 closed instance' wrapper
    (fun os started H enc _=>lifted os started H enc)
end Go.Proofs.Ytijpmidnclbhpaa.lawCodeReads
