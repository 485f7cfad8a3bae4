/- ListKeys: the call answers as the reference does,at every argument;no condition. -/
import Derived.Test.YtikgiadbkjmabaaPlC
import Derived.Test.YtikgiadbkjmabaaOpenSt
import Derived.Test.YtikgiadbkjmabaaLkW
import Derived.Test.YtikgiadbkjmabaaTypes
import Derived.Test.YtikgiadbkjmabaaLkN
import Derived.Test.YtikgiadbkjmabaaRows
import Derived.JoinedOf
import Derived.OpenShut
import Derived.Test.YtikgiadbkjmabaaMayP

/- The law ListKeys,walked. -/

/- The law ListVersions,walked. -/

/- state.Check answers what the document says. -/
namespace Go.Proofs.Ytikgiadbkjmabaa
open Go.RowKit
set_option maxHeartbeats 4000000
set_option maxRecDepth 20000
attribute [local irreducible] SW OSW SWL SWLn SWD SEcall SEcallv SDv SE SO1 SOg ACalls ACallv Wk EndV
set_option linter.unusedSimpArgs false
set_option linter.unusedVariables false
theorem fit_key {s:SttD} (h:s.wf):∀ k,k < s.vers.length → (KV.s2 s.vers[k]!.bkt s.vers[k]!.key).ok true:=fun k hk=>by
  have hm:s.vers[k]! ∈ s.vers:=by simp [hk]
  have hv:(s.vers[k]!).wf:=h.2.2.2.1.2 _ hm
  have e:maxLen = 2 ^ 63 - 1:=by unfold maxLen;rfl
  exact ⟨rfl,by show _ ≤ maxLen ∧ _ ≤ maxLen;rw [e];have h1:=hv.2.1;have h2:=hv.2.2.1;omega⟩
theorem fit_pts {s:SttD} (h:s.fit):∀ k:Nat,(s.ups[k]!).parts.length ≤ 2 ^ 47:=fun k=>by
  rcases Nat.lt_or_ge k s.ups.length with hk | hk
  · have:=h.us k hk;omega
  · rw [getElem!_neg s.ups k (by omega)];exact Nat.zero_le _
theorem check9_p (s:SttD) (hw:s.wf):Pure Try.prog 18 [s.av] (I (bif mayF s then 0 else 9)):=by
  rw [← check_eq]
  exact check_p s (fit_key hw) (fit_pts (st_fit hw))
end Go.Proofs.Ytikgiadbkjmabaa
namespace Go.Proofs.Ytikgiadbkjmabaa
open Go.RowKit
set_option maxRecDepth 100000
def o3_1:List SO:=((SO.mk (some 23) (.extract (.tmp 15) 2) none) :: (SO.mk (some 9) (.move (.tmp 21)) none) :: (SO.mk (some 10) (.move (.tmp 22)) none) :: (SO.mk (some 11) (.move (.tmp 23)) none) :: [])
def o3_2:List SO:=((SO.mk (some 20) (.call 5 [(.tmp 16),(.tmp 17),(.tmp 18),(.tmp 19)]) none) :: (SO.mk (some 15) (.move (.tmp 20)) none) :: (SO.mk (some 21) (.extract (.tmp 15) 0) none) :: (SO.mk (some 22) (.extract (.tmp 15) 1) none) :: o3_1)
def o3_3:List SO:=((SO.mk (some 32) (.extract (.tmp 24) 2) none) :: (SO.mk (some 12) (.move (.tmp 30)) none) :: (SO.mk (some 13) (.move (.tmp 31)) none) :: (SO.mk (some 14) (.move (.tmp 32)) none) :: [])
def o3_4:List SO:=((SO.mk (some 29) (.call 6 [(.tmp 25),(.tmp 26),(.tmp 27),(.tmp 28)]) none) :: (SO.mk (some 24) (.move (.tmp 29)) none) :: (SO.mk (some 30) (.extract (.tmp 24) 0) none) :: (SO.mk (some 31) (.extract (.tmp 24) 1) none) :: o3_3)
def o3_5:List SO:=((SO.mk (some 45) (.pick (.tmp 41) (.tmp 44) (.const (Value.bool false))) none) :: (SO.mk (some 8) (.move (.tmp 45)) none) :: [])
def o3_6:List SO:=((SO.mk (some 41) (.move (.tmp 40)) none) :: (SO.mk (some 42) (.move (.tmp 9)) (some (41 ,true))) :: (SO.mk (some 43) (.move (.tmp 12)) (some (41 ,true))) :: (SO.mk (some 44) (.call 7 [(.tmp 42),(.tmp 43)]) (some (41 ,true))) :: o3_5)
def o3_7:List SO:=((SO.mk (some 37) (.move (.tmp 10)) (some (36 ,true))) :: (SO.mk (some 38) (.move (.tmp 13)) (some (36 ,true))) :: (SO.mk (some 39) (.bin .eql 4 (.tmp 37) (.tmp 38)) (some (36 ,true))) :: (SO.mk (some 40) (.pick (.tmp 36) (.tmp 39) (.const (Value.bool false))) none) :: o3_6)
def c3_8:SC:=(.seq (.reg ((SO.mk (some 33) (.move (.tmp 11)) none) :: (SO.mk (some 34) (.move (.tmp 14)) none) :: (SO.mk (some 35) (.bin .eql 30 (.tmp 33) (.tmp 34)) none) :: (SO.mk (some 36) (.move (.tmp 35)) none) :: o3_7)) (.keep [8] .ret))
def c3_9:SC:=(.seq (.reg ((SO.mk (some 25) (.load 28 (.tmp 4)) none) :: (SO.mk (some 26) (.move (.tmp 1)) none) :: (SO.mk (some 27) (.move (.tmp 2)) none) :: (SO.mk (some 28) (.move (.tmp 3)) none) :: o3_4)) (.keep [11,14,10,13,9,12] c3_8))
def c3_10:SC:=(.seq (.reg ((SO.mk (some 16) (.load 28 (.tmp 4)) none) :: (SO.mk (some 17) (.move (.tmp 1)) none) :: (SO.mk (some 18) (.move (.tmp 2)) none) :: (SO.mk (some 19) (.move (.tmp 3)) none) :: o3_2)) (.keep [4,1,2,3,11,10,9] c3_9))
def c3:SC:=(.seq (.reg [SO.mk (some 4) (.box 28 (.tmp 0)) none,SO.mk (some 8) (.move (.const (Value.bool false))) none]) (.keep [4,1,2,3] c3_10))
theorem r3:Try.f3.results.toList = [.tmp 8]:=by kernel_rfl
theorem e3:enters Try.prog 3 = true:=by kernel_rfl
end Go.Proofs.Ytikgiadbkjmabaa
namespace Go.Proofs.Ytikgiadbkjmabaa
open Go.RowKit
set_option maxHeartbeats 4000000
set_option maxRecDepth 20000
attribute [local irreducible] SW OSW SWL SWLn SWD SEcall SEcallv SDv SE SO1 SOg ACalls ACallv Wk EndV
set_option linter.unusedSimpArgs false
set_option linter.unusedVariables false
theorem ids_up {s:SttD} (h:mayF s = true):s.vers.Pairwise (fun a b=>a.id < b.id):=by
  unfold mayF at h
  simp only [Bool.and_eq_true,none_iff,Bool.not_eq_true'] at h
  have hs:SortV s.vers:=sortV_of fun k hk h0=>by
    have hv:=h.2.2.2.1 k hk
    unfold mVer at hv
    simp only [Bool.or_eq_false_iff,Bool.not_eq_false'] at hv
    have:=hv.1.2
    simp only [Bool.and_eq_false_iff,decide_eq_false_iff_not] at this
    omega
  rw [List.pairwise_iff_getElem]
  intro i j hi hj hij
  have:=hs i j hij hj
  simpa [hi,hj] using this
theorem pgV_some (e:Int) (R:List RowD) (most:Int):∃ (l:List RowD) (b:Bool) (n:Int),pgV e R most = .tup [.d (.ro (l.map RowD.row)),Bo b,I n]:=by
  unfold pgV
  cases e == 0
  · exact ⟨[],false,e,rfl⟩
  · exact ⟨_,_,_,rfl⟩
theorem vers_b {s:SttD} (hw:s.wf):s.vers.length * 120 ≤ 2 ^ 47:=by
  have:=hw.2.2.2.1.1.2
  have e:shVer.by = 120:=by decide
  rw [e] at this;exact this
end Go.Proofs.Ytikgiadbkjmabaa
namespace Go.Proofs.Ytikgiadbkjmabaa
open Go.RowKit
set_option maxRecDepth 100000
def o4_1:List SO:=((SO.mk (some 14) (.move (.tmp 28)) none) :: (SO.mk (some 15) (.move (.tmp 29)) none) :: [])
theorem v4_1:type_of% (@swl _ _ o4_1.eq_1):=@swl _ _ o4_1.eq_1
def o4_2:List SO:=((SO.mk (some 27) (.extract (.tmp 19) 0) none) :: (SO.mk (some 28) (.extract (.tmp 19) 1) none) :: (SO.mk (some 29) (.extract (.tmp 19) 2) none) :: (SO.mk (some 13) (.move (.tmp 27)) none) :: o4_1)
theorem v4_2:type_of% (@swl _ _ o4_2.eq_1):=@swl _ _ o4_2.eq_1
def o4_3:List SO:=((SO.mk (some 24) (.move (.tmp 4)) none) :: (SO.mk (some 25) (.move (.tmp 5)) none) :: (SO.mk (some 26) (.call 8 [(.tmp 20),(.tmp 21),(.tmp 22),(.tmp 23),(.tmp 24),(.tmp 25)]) none) :: (SO.mk (some 19) (.move (.tmp 26)) none) :: o4_2)
theorem v4_3:type_of% (@swl _ _ o4_3.eq_1):=@swl _ _ o4_3.eq_1
def o4_4:List SO:=((SO.mk (some 17) (.move (.tmp 39)) none) :: (SO.mk (some 18) (.move (.tmp 40)) none) :: [])
theorem v4_4:type_of% (@swl _ _ o4_4.eq_1):=@swl _ _ o4_4.eq_1
def o4_5:List SO:=((SO.mk (some 38) (.extract (.tmp 30) 0) none) :: (SO.mk (some 39) (.extract (.tmp 30) 1) none) :: (SO.mk (some 40) (.extract (.tmp 30) 2) none) :: (SO.mk (some 16) (.move (.tmp 38)) none) :: o4_4)
theorem v4_5:type_of% (@swl _ _ o4_5.eq_1):=@swl _ _ o4_5.eq_1
def o4_6:List SO:=((SO.mk (some 35) (.move (.tmp 4)) none) :: (SO.mk (some 36) (.move (.tmp 5)) none) :: (SO.mk (some 37) (.call 9 [(.tmp 31),(.tmp 32),(.tmp 33),(.tmp 34),(.tmp 35),(.tmp 36)]) none) :: (SO.mk (some 30) (.move (.tmp 37)) none) :: o4_5)
theorem v4_6:type_of% (@swl _ _ o4_6.eq_1):=@swl _ _ o4_6.eq_1
def o4_7:List SO:=((SO.mk (some 53) (.pick (.tmp 49) (.tmp 52) (.const (Value.bool false))) none) :: (SO.mk (some 12) (.move (.tmp 53)) none) :: [])
theorem v4_7:type_of% (@swl _ _ o4_7.eq_1):=@swl _ _ o4_7.eq_1
def o4_8:List SO:=((SO.mk (some 49) (.move (.tmp 48)) none) :: (SO.mk (some 50) (.move (.tmp 13)) (some (49 ,true))) :: (SO.mk (some 51) (.move (.tmp 16)) (some (49 ,true))) :: (SO.mk (some 52) (.call 7 [(.tmp 50),(.tmp 51)]) (some (49 ,true))) :: o4_7)
theorem v4_8:type_of% (@swl _ _ o4_8.eq_1):=@swl _ _ o4_8.eq_1
def o4_9:List SO:=((SO.mk (some 45) (.move (.tmp 14)) (some (44 ,true))) :: (SO.mk (some 46) (.move (.tmp 17)) (some (44 ,true))) :: (SO.mk (some 47) (.bin .eql 4 (.tmp 45) (.tmp 46)) (some (44 ,true))) :: (SO.mk (some 48) (.pick (.tmp 44) (.tmp 47) (.const (Value.bool false))) none) :: o4_8)
theorem v4_9:type_of% (@swl _ _ o4_9.eq_1):=@swl _ _ o4_9.eq_1
def c4_10:SC:=(.seq (.reg ((SO.mk (some 41) (.move (.tmp 15)) none) :: (SO.mk (some 42) (.move (.tmp 18)) none) :: (SO.mk (some 43) (.bin .eql 30 (.tmp 41) (.tmp 42)) none) :: (SO.mk (some 44) (.move (.tmp 43)) none) :: o4_9)) (.keep [12] .ret))
theorem u4_10:type_of% (@swc _ _ c4_10.eq_1):=@swc _ _ c4_10.eq_1
def c4_11:SC:=(.seq (.reg ((SO.mk (some 31) (.load 28 (.tmp 6)) none) :: (SO.mk (some 32) (.move (.tmp 1)) none) :: (SO.mk (some 33) (.move (.tmp 2)) none) :: (SO.mk (some 34) (.move (.tmp 3)) none) :: o4_6)) (.keep [15,18,14,17,13,16] c4_10))
theorem u4_11:type_of% (@swc _ _ c4_11.eq_1):=@swc _ _ c4_11.eq_1
def c4_12:SC:=(.seq (.reg ((SO.mk (some 20) (.load 28 (.tmp 6)) none) :: (SO.mk (some 21) (.move (.tmp 1)) none) :: (SO.mk (some 22) (.move (.tmp 2)) none) :: (SO.mk (some 23) (.move (.tmp 3)) none) :: o4_3)) (.keep [6,1,2,3,4,5,15,14,13] c4_11))
theorem u4_12:type_of% (@swc _ _ c4_12.eq_1):=@swc _ _ c4_12.eq_1
def c4:SC:=(.seq (.reg [SO.mk (some 6) (.box 28 (.tmp 0)) none,SO.mk (some 12) (.move (.const (Value.bool false))) none]) (.keep [6,1,2,3,4,5] c4_12))
theorem c4_eq:annC Try.f4 = some c4:=by kernel_rfl
theorem r4:Try.f4.results.toList = [.tmp 12]:=by kernel_rfl
theorem e4:enters Try.prog 4 = true:=by kernel_rfl
end Go.Proofs.Ytikgiadbkjmabaa
namespace Go.Proofs.Ytikgiadbkjmabaa
open Go.RowKit
set_option maxHeartbeats 4000000
set_option maxRecDepth 20000
attribute [local irreducible] SW OSW SWL SWLn SWD SEcall SEcallv SDv SE SO1 SOg ACalls ACallv Wk EndV
set_option linter.unusedSimpArgs false
set_option linter.unusedVariables false
theorem vers_kz {s:SttD} (hw:s.wf):∀ v ∈ s.vers,v.key.size ≤ 2 ^ 47:=fun v hv=>(hw.2.2.2.1.2 v hv).2.2.1
theorem lawKeys_p (s:SttD) (hm:Pure Try.prog 31 [s.av] (Bo (mayF s))) (hw:s.wf) (name pre d after:ByteArray) (most:Int):Pure Try.prog 4 [s.av,.d (.v (.string name)),.d (.v (.string pre)),.d (.v (.string d)),.d (.v (.string after)),I most] (Bo true):=by
  refine pure_of follows Try.func4 c4_eq r4 (Nat.le_of_ble_eq_true rfl) fun B σ hcl hsz=>?_
  clear hsz
  have h1:=listKeys_p s (check9_p s hw) (vers_b hw) (vers_kz hw) ids_up name pre d after most
  have h2:=keysOf_p s hm (vers_b hw) (vers_kz hw) ids_up name pre d after most
  obtain ⟨l,b,n,e⟩:=pgV_some (kF (listF s name pre most) d) (oL pre d after (oK s.vers name pre s.vers.length) (oK s.vers name pre s.vers.length).length) most
  rw [e] at h1 h2
  repeat' (first | (simp -implicitDefEqProofs only [*,Nat.reduceBEq,↓reduceIte,Nat.reduceEqDiff,Nat.reduceAdd,reduceCtorEq,AO.kill,Int.reduceLT,Int.reduceToNat,List.getElem?_nil,Nat.reduceMul,Nat.reducePow,Nat.reduceLeDiff,rowOf_mapD,rowOf_mapI,rowOf_mapA,List.getElem?_cons_zero,List.getElem?_cons_succ,take_map_len,take_map_app,List.getElem?_cons_zero,c4,r4,v4_1,v4_2,v4_3,v4_4,v4_5,v4_6,v4_7,v4_8,v4_9,u4_10,u4_11,u4_12,ty28,ty30,ty4,SttD.av,SttD.cells,ints,bne_self_eq_false,beq_self_eq_true,mvcgen_simp]) | (with_reducible refine And.intro ?_ ?_) | (refine call_ro e8 ( h1) rfl ?_ ?_ ?_ ?_) | (refine gcall_ro e8 ( h1) rfl ?_ ?_ ?_ ?_) | (refine dcall_ro e8 ( h1) rfl ?_ ?_ ?_ ?_) | (refine gdcall_ro rfl e8 ( h1) rfl ?_ ?_ ?_ ?_) | (refine call_ro e9 ( h2) rfl ?_ ?_ ?_ ?_) | (refine gcall_ro e9 ( h2) rfl ?_ ?_ ?_ ?_) | (refine dcall_ro e9 ( h2) rfl ?_ ?_ ?_ ?_) | (refine gdcall_ro rfl e9 ( h2) rfl ?_ ?_ ?_ ?_) | (refine call_ro e7 ( sameRows_self l) rfl ?_ ?_ ?_ ?_) | (refine gcall_ro e7 ( sameRows_self l) rfl ?_ ?_ ?_ ?_) | (refine dcall_ro e7 ( sameRows_self l) rfl ?_ ?_ ?_ ?_) | (refine gdcall_ro rfl e7 ( sameRows_self l) rfl ?_ ?_ ?_ ?_) | (refine EndX.plain ?_) | (refine nil_split (fun hn=>?_) (fun hn=>?_)) | (refine gcall_no not_false ?_) | (refine gdcall_no not_false ?_) | (refine GuardS_of _ _ _ _ _ _ (fun hg=>?_) (fun hg=>?_)) | (refine GuardD_of _ _ _ _ (fun hg=>?_) (fun hg=>?_)) | (refine CondB_of _ _ _ _ _ _ _ ?_ (fun hg=>?_) (fun hg=>?_)))
  all_goals (try (first | ((first | unfold noN | unfold Fr.below | unfold Loc.below);simp [Fr.allN,AV.allN,AV.allNL,AO.allN];done) | rfl | trivial | assumption | (intro row hrow;simp only [List.mem_map] at hrow;obtain ⟨x,_,rfl⟩:=hrow;rfl) | (refine Wk.keep hcl ?_ ?_ ?_;(focus (simp [Fr.get,SttD.av,SttD.cells,ints,bne_self_eq_false,beq_self_eq_true]<;>fail));(focus (simp [sto,SttD.av,SttD.cells,ints,bne_self_eq_false,beq_self_eq_true]<;>fail));(focus (simp<;>fail))) | (simp [allP,opd,Fr.get,Fr.below,Fr.allN,AV.allN,AV.allNL,Loc.below,AO.allN,noN,killO,killT,killD,mkNames,AO.kill,AV.kill,AV.mapN,AV.mapNL];done) | (with_reducible exact ltD (by assumption)) | omega | (simp only [decide_eq_true_eq,decide_eq_false_iff_not] at *;omega)))
end Go.Proofs.Ytikgiadbkjmabaa

/- What is true of the program as a whole,each fact by itself. -/
namespace Go.Proofs.Ytikgiadbkjmabaa
open Go.ChangeShapes Go.WideShapes
set_option linter.unusedSimpArgs false
set_option linter.unusedVariables false
theorem and_i {a b:Bool} (h:a = true) (k:b = true):(a && b) = true:=by rw [h,k];rfl
theorem fLaid:laidOutB Try.pinned.checked.prog = true:=by kernel_rfl
theorem fMaps:mapsRowed Try.pinned.checked.prog = true:=by kernel_rfl
theorem fHeard:Try.pinned.checked.prog.stopsHeard = true:=by kernel_rfl
theorem fEnter:Try.pinned.checked.prog.mayEnter = true:=by kernel_rfl
theorem fLifts:Try.pinned.checked.prog.liftsFinal = false:=by kernel_rfl
end Go.Proofs.Ytikgiadbkjmabaa
namespace Go.Proofs.Ytikgiadbkjmabaa.lawListKeys
open Go.ChangeShapes Go.WideShapes Go.ChangeAt Go.RowKit
set_option linter.unusedSimpArgs false
set_option linter.unusedVariables false

theorem own:ownKnob Try.prog.godebug = none:=by kernel_rfl
theorem laidOut:laidOutB Try.prog = true:=by kernel_rfl
theorem readable:∀ t ∈ Try.f4.params.toList,Try.prog.readableRec t = true ∧ t < Try.prog.types.size:=by
  rw [Try.params4]
  intro t ht
  simp at ht
  first | (rcases ht with rfl | rfl | rfl) | (rcases ht with rfl | rfl | rfl | rfl | rfl | rfl)
  all_goals exact ⟨by kernel_rfl,of_decide_eq_true (by kernel_rfl)⟩

set_option maxRecDepth 100000 in
theorem contract (H:Type) (enc:TypeId × Value → H) (W:World) (base:Nat) (args:Array Value) (ds gs:List (DataW H)) (before:List MemPlace)
    (hW:DataW.Whole enc Try.prog Try.f4.params.toList Rows.listKeysSpec.vars false W args.toList ds gs before)
    (hval:∀ (j:Nat) t v,Try.f4.params[j]? = some t → args[j]? = some v → Value.okWide Try.prog W .any base t v)
    (hz:(DataW.weightsEach Try.prog (Try.f4.params.toList ++ Rows.listKeysSpec.plain.varTypes Try.prog) (ds ++ gs)).all (· ≤ reachBytes) = true) :
    Calls Try.prog 4 args W fun e W'=>∃ v,e = .returned v ∧ Rows.listKeysSpec.post enc Try.prog Try.f4 false true false false W args v W':=by
  have hW':=hW
  obtain ⟨p,q,hA0,hV,rfl,hfz,hnd⟩:=hW
  have hA:DataW.TrodAll enc Try.prog W 0 (fun _=>true) true Try.f4.params.toList args.toList ds p:=hA0
  rw [Try.params4] at hA
  obtain ⟨v0,vs0,d0,ds0,p0,q0,hargs,rfl,rfl,h0,r0⟩:=trodAll_cons hA
  obtain ⟨v1,vs1,d1,ds1,p1,q1,rfl,rfl,rfl,h1,r1⟩:=trodAll_cons r0
  obtain ⟨v2,vs2,d2,ds2,p2,q2,rfl,rfl,rfl,h2,r2⟩:=trodAll_cons r1
  obtain ⟨v3,vs3,d3,ds3,p3,q3,rfl,rfl,rfl,h3,r3⟩:=trodAll_cons r2
  obtain ⟨v4,vs4,d4,ds4,p4,q4,rfl,rfl,rfl,h4,r4⟩:=trodAll_cons r3
  obtain ⟨v5,vs5,d5,ds5,p5,q5,rfl,rfl,rfl,h5,r5⟩:=trodAll_cons r4
  obtain ⟨rfl,rfl,rfl⟩:=trodAll_nil r5
  obtain rfl:args = #[v0,v1,v2,v3,v4,v5]:=by cases args;simp_all
  obtain rfl:=trodVars_nil rfl hV
  rw [Try.params4] at hz hval
  obtain ⟨s0,t0,e0⟩:=open_any (n:=9) (shSt) (by kernel_rfl) (hval 0 _ _ (by simp) (by simp)) h0 (fits_arg hz (j:=0) (by simp) (by simp))
  obtain ⟨x0,w0,rfl⟩:=st_of t0
  obtain ⟨s1,t1,e1⟩:=open_any (n:=9) (.str) (by kernel_rfl) (hval 1 _ _ (by simp) (by simp)) h1 (fits_arg hz (j:=1) (by simp) (by simp))
  obtain ⟨x1,w1,rfl⟩:=shaped_str t1
  obtain ⟨s2,t2,e2⟩:=open_any (n:=9) (.str) (by kernel_rfl) (hval 2 _ _ (by simp) (by simp)) h2 (fits_arg hz (j:=2) (by simp) (by simp))
  obtain ⟨x2,w2,rfl⟩:=shaped_str t2
  obtain ⟨s3,t3,e3⟩:=open_any (n:=9) (.str) (by kernel_rfl) (hval 3 _ _ (by simp) (by simp)) h3 (fits_arg hz (j:=3) (by simp) (by simp))
  obtain ⟨x3,w3,rfl⟩:=shaped_str t3
  obtain ⟨s4,t4,e4⟩:=open_any (n:=9) (.str) (by kernel_rfl) (hval 4 _ _ (by simp) (by simp)) h4 (fits_arg hz (j:=4) (by simp) (by simp))
  obtain ⟨x4,w4,rfl⟩:=shaped_str t4
  obtain ⟨s5,t5,e5⟩:=open_any (n:=9) (.int .i64) (by kernel_rfl) (hval 5 _ _ (by simp) (by simp)) h5 (fits_arg hz (j:=5) (by simp) (by simp))
  obtain ⟨x5,w5,rfl⟩:=int_of t5
  refine (law_calls rfl (lawKeys_p x0 (may_p x0) w0 x1 x2 x3 x4 x5) rfl (reps_cons e0 (reps_cons e1 (reps_cons e2 (reps_cons e3 (reps_cons e4 (reps_cons e5 reps_nil))))))).mono fun e W' ⟨he,hg⟩=>⟨_,he,?_⟩
  exact law_post laidOut rfl readable (by kernel_rfl) Try.underlying4 rfl hW' hg

set_option maxRecDepth 100000 in
theorem lifted (os:Os) (started:os.Started) (H:Type) (enc:TypeId × Value → H) :
    ReturnsInHanded {} Try.checked os 4 .any (Rows.listKeysSpec.pre6 enc Try.prog Try.f4 [] false) (Rows.listKeysSpec.post enc Try.prog Try.f4 false true false false):=by
  refine returnsInHanded_of_change_sized (C:=Try.checked) own started (by kernel_rfl) Try.func4
    (ChangeSpec.witness6 (enc:=enc) (C:=Try.checked) false ⟨#[],#[.agg #[.int .i64 0,.int .i64 0,.slice none 0 0,.slice none 0 0,.slice none 0 0,.slice none 0 0,.slice none 0 0],.string ByteArray.empty,.string ByteArray.empty,.string ByteArray.empty,.string ByteArray.empty,.int .i64 0],[]⟩ 8 (by kernel_rfl) (by kernel_rfl) (by kernel_rfl) (by kernel_rfl)) ?_
  intro W base args ds gs before hval hW _ hz _
  exact contract H enc W base args ds gs before hW hval hz

set_option maxRecDepth 100000 in
theorem named:Try.pinned.checked.prog.funcNamed Rows.listKeysRow.func = some 4:=by kernel_rfl
set_option maxHeartbeats 4000000 in
set_option maxRecDepth 100000 in
theorem closed:joinedFacts Try.pinned.checked.prog 4 Try.f4 Rows.listKeysSpec Rows.listKeysRow = true:=by
  unfold joinedFacts
  repeat' (with_reducible refine and_i ?_ ?_)
  all_goals (first | with_reducible exact fLaid | with_reducible exact fMaps | with_reducible exact fHeard | with_reducible exact fEnter | (rw [fLifts];as_aux_lemma=>kernel_rfl) | as_aux_lemma=>kernel_rfl)
theorem instance':Try.f4.isInstance Try.pinned.checked.prog Rows.listKeysRow.origin Rows.listKeysRow.targs:=of_decide_eq_true (by kernel_rfl)
theorem wrapper:Try.f4.isWrapper Try.pinned.checked.prog Rows.listKeysRow.wrapper Rows.listKeysRow.mainSum:=by
  unfold Func.isWrapper
  rw [if_neg (of_decide_eq_false (by kernel_rfl))]
  exact ⟨rfl,rfl⟩
theorem proved:Rows.ListKeysSaid :=
  OpenClaim.holds_of_wide 4 Try.f4 rfl rfl rfl rfl rfl rfl rfl ⟨rfl,rfl,rfl,rfl,rfl⟩ rfl rfl rfl rfl rfl named Try.func4 closed instance' wrapper
    (fun os started H enc _=>lifted os started H enc)
end Go.Proofs.Ytikgiadbkjmabaa.lawListKeys
