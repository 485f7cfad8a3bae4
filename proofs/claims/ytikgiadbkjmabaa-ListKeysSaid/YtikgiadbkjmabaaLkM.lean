/- list.Keys. -/
import Derived.Test.YtikgiadbkjmabaaLkJ
import Derived.Test.YtikgiadbkjmabaaTypes
namespace Go.Proofs.Ytikgiadbkjmabaa
open Go.RowKit
set_option maxRecDepth 100000
def o8_1:List SO:=((SO.mk (some 28) (.call 10 [(.tmp 24),(.tmp 25),(.tmp 26),(.tmp 27)]) none) :: (SO.mk (some 15) (.move (.tmp 28)) none) :: [])
theorem v8_1:type_of% (@swl _ _ o8_1.eq_1):=@swl _ _ o8_1.eq_1
def c8_2:SC:=(.seq (.reg [SO.mk (some 31) (.move (.tmp 15)) none,SO.mk (some 12) (.move (.const (Value.slice none 0 0))) none,SO.mk (some 13) (.move (.const (Value.bool false))) none,SO.mk (some 14) (.move (.tmp 31)) none]) (.keep [12,13,14] .ret))
theorem u8_2:type_of% (@swc _ _ c8_2.eq_1):=@swc _ _ c8_2.eq_1
def c8_3:SC:=(.cond (.tmp 30) c8_2 .skip)
theorem u8_3:type_of% (@swc _ _ c8_3.eq_1):=@swc _ _ c8_3.eq_1
def c8_4:SC:=(.seq (.reg [SO.mk (some 29) (.move (.tmp 15)) none,SO.mk (some 30) (.bin .neq 30 (.tmp 29) (.const (Value.int .i64 0))) none]) (.keep [30,15,6,1,3,2,4,5] c8_3))
theorem u8_4:type_of% (@swc _ _ c8_4.eq_1):=@swc _ _ c8_4.eq_1
def c8_5:SC:=(.seq (.reg [SO.mk (some 12) (.move (.const (Value.slice none 0 0))) none,SO.mk (some 13) (.move (.const (Value.bool false))) none,SO.mk (some 14) (.move (.const (Value.int .i64 1))) none]) (.keep [12,13,14] .ret))
theorem u8_5:type_of% (@swc _ _ c8_5.eq_1):=@swc _ _ c8_5.eq_1
def c8_6:SC:=(.cond (.tmp 34) c8_5 .skip)
theorem u8_6:type_of% (@swc _ _ c8_6.eq_1):=@swc _ _ c8_6.eq_1
def o8_7:List SO:=((SO.mk (some 39) (.len 38 (.tmp 38)) none) :: (SO.mk (some 40) (.move (.const (Value.int .i64 0))) none) :: [])
theorem v8_7:type_of% (@swl _ _ o8_7.eq_1):=@swl _ _ o8_7.eq_1
def c8_8:SC:=(.cond (.tmp 48) (.exit 1) .skip)
theorem u8_8:type_of% (@swc _ _ c8_8.eq_1):=@swc _ _ c8_8.eq_1
def o8_9:List SO:=((SO.mk (some 55) (.slice 9 (.tmp 52) (some (.tmp 54)) none) none) :: (SO.mk (some 56) (.move (.tmp 3)) none) :: (SO.mk (some 57) (.call 17 [(.tmp 55),(.tmp 56)]) none) :: (SO.mk (some 21) (.move (.tmp 57)) none) :: [])
theorem v8_9:type_of% (@swl _ _ o8_9.eq_1):=@swl _ _ o8_9.eq_1
def o8_10:List SO:=((SO.mk (some 62) (.bin .geq 3 (.tmp 61) (.const (Value.int .i64 0))) (some (60 ,true))) :: (SO.mk (some 63) (.pick (.tmp 60) (.tmp 62) (.const (Value.bool false))) none) :: [])
theorem v8_10:type_of% (@swl _ _ o8_10.eq_1):=@swl _ _ o8_10.eq_1
def o8_11:List SO:=((SO.mk (some 72) (.build 43 [(0 ,(.tmp 71)),(1 ,(.const (Value.bool true)))]) none) :: (SO.mk none (.store 43 (.tmp 20) (.tmp 72)) none) :: [])
theorem v8_11:type_of% (@swl _ _ o8_11.eq_1):=@swl _ _ o8_11.eq_1
def o8_12:List SO:=((SO.mk (some 68) (.move (.tmp 21)) none) :: (SO.mk (some 69) (.bin .add 3 (.tmp 67) (.tmp 68)) none) :: (SO.mk (some 70) (.bin .add 3 (.tmp 69) (.const (Value.int .i64 1))) none) :: (SO.mk (some 71) (.slice 9 (.tmp 65) none (some (.tmp 70))) none) :: o8_11)
theorem v8_12:type_of% (@swl _ _ o8_12.eq_1):=@swl _ _ o8_12.eq_1
def c8_13:SC:=(.reg ((SO.mk (some 64) (.faddr 41 (.tmp 19) 2) none) :: (SO.mk (some 65) (.load 9 (.tmp 64)) none) :: (SO.mk (some 66) (.move (.tmp 2)) none) :: (SO.mk (some 67) (.len 9 (.tmp 66)) none) :: o8_12))
theorem u8_13:type_of% (@swc _ _ c8_13.eq_1):=@swc _ _ c8_13.eq_1
def c8_14:SC:=(.cond (.tmp 63) c8_13 .skip)
theorem u8_14:type_of% (@swc _ _ c8_14.eq_1):=@swc _ _ c8_14.eq_1
def c8_15:SC:=(.seq (.reg ((SO.mk (some 58) (.move (.tmp 3)) none) :: (SO.mk (some 59) (.bin .neq 9 (.tmp 58) (.const (Value.string ⟨#[]⟩))) none) :: (SO.mk (some 60) (.move (.tmp 59)) none) :: (SO.mk (some 61) (.move (.tmp 21)) (some (60 ,true))) :: o8_10)) (.keep [63,21,19,16,20,40,39,4,2,3,38,5] c8_14))
theorem u8_15:type_of% (@swc _ _ c8_15.eq_1):=@swc _ _ c8_15.eq_1
def o8_16:List SO:=((SO.mk (some 89) (.bin .eql 43 (.tmp 87) (.tmp 88)) (some (81 ,true))) :: (SO.mk (some 90) (.pick (.tmp 81) (.tmp 89) (.const (Value.bool false))) (some (77 ,false))) :: (SO.mk (some 91) (.pick (.tmp 77) (.const (Value.bool true)) (.tmp 90)) none) :: [])
theorem v8_16:type_of% (@swd _ _ o8_16.eq_1):=@swd _ _ o8_16.eq_1
def o8_17:List SO:=((SO.mk (some 85) (.bin .sub 3 (.tmp 84) (.const (Value.int .i64 1))) (some (81 ,true))) :: (SO.mk (some 86) (.iaddr 29 (.tmp 82) (.tmp 85)) (some (81 ,true))) :: (SO.mk (some 87) (.load 43 (.tmp 86)) (some (81 ,true))) :: (SO.mk (some 88) (.load 43 (.tmp 20)) (some (81 ,true))) :: o8_16)
theorem v8_17:type_of% (@swd _ _ o8_17.eq_1):=@swd _ _ o8_17.eq_1
def o8_18:List SO:=((SO.mk (some 81) (.move (.tmp 80)) (some (77 ,false))) :: (SO.mk (some 82) (.move (.tmp 16)) (some (81 ,true))) :: (SO.mk (some 83) (.move (.tmp 16)) (some (81 ,true))) :: (SO.mk (some 84) (.len 29 (.tmp 83)) (some (81 ,true))) :: o8_17)
theorem v8_18:type_of% (@swd _ _ o8_18.eq_1):=@swd _ _ o8_18.eq_1
def o8_19:List SO:=((SO.mk (some 77) (.move (.tmp 76)) none) :: (SO.mk (some 78) (.move (.tmp 16)) (some (77 ,false))) :: (SO.mk (some 79) (.len 29 (.tmp 78)) (some (77 ,false))) :: (SO.mk (some 80) (.bin .gtr 3 (.tmp 79) (.const (Value.int .i64 0))) (some (77 ,false))) :: o8_18)
theorem v8_19:type_of% (@swd _ _ o8_19.eq_1):=@swd _ _ o8_19.eq_1
def o8_20:List SO:=((SO.mk (some 73) (.faddr 43 (.tmp 20) 0) none) :: (SO.mk (some 74) (.load 9 (.tmp 73)) none) :: (SO.mk (some 75) (.move (.tmp 4)) none) :: (SO.mk (some 76) (.bin .leq 9 (.tmp 74) (.tmp 75)) none) :: o8_19)
theorem v8_20:type_of% (@swd _ _ o8_20.eq_1):=@swd _ _ o8_20.eq_1
theorem m8_20 (B:Nat):mkNames B o8_20 = []:=(rfl)
def c8_21:SC:=(.cond (.tmp 91) (.exit 1) .skip)
theorem u8_21:type_of% (@swc _ _ c8_21.eq_1):=@swc _ _ c8_21.eq_1
def c8_22:SC:=(.reg [SO.mk (some 92) (.move (.tmp 16)) none,SO.mk (some 93) (.load 43 (.tmp 20)) none,SO.mk (some 94) (.bslice 29 1 [(0 ,(.tmp 93))]) none,SO.mk (some 95) (.app 29 29 (.tmp 92) (.tmp 94)) none,SO.mk (some 16) (.move (.tmp 95)) none])
theorem u8_22:type_of% (@swc _ _ c8_22.eq_1):=@swc _ _ c8_22.eq_1
def c8_23:SC:=(.seq (.seq (.dreg false o8_20 []) (.keep [91,16,20,40,39,4,2,3,38,5] c8_21)) (.keep [16,20,40,39,4,2,3,38,5] c8_22))
theorem u8_23:type_of% (@swc _ _ c8_23.eq_1):=@swc _ _ c8_23.eq_1
def c8_24:SC:=(.seq (.seq (.reg ((SO.mk (some 51) (.faddr 41 (.tmp 19) 2) none) :: (SO.mk (some 52) (.load 9 (.tmp 51)) none) :: (SO.mk (some 53) (.move (.tmp 2)) none) :: (SO.mk (some 54) (.len 9 (.tmp 53)) none) :: o8_9)) (.keep [21,19,16,20,40,39,4,2,3,38,5] c8_15)) (.keep [16,20,40,39,4,2,3,38,5] c8_23))
theorem u8_24:type_of% (@swc _ _ c8_24.eq_1):=@swc _ _ c8_24.eq_1
def c8_25:SC:=(.seq (.reg [SO.mk (some 49) (.load 41 (.tmp 19)) none,SO.mk (some 50) (.call 12 [(.tmp 49),(.const (Value.bool true))]) none,SO.mk (some 20) (.alloc 43) none,SO.mk none (.store 43 (.tmp 20) (.tmp 50)) none]) (.keep [19,16,20,40,39,4,2,3,38,5] c8_24))
theorem u8_25:type_of% (@swc _ _ c8_25.eq_1):=@swc _ _ c8_25.eq_1
def c8_26:SC:=(.seq (.seq (.reg [SO.mk (some 47) (.faddr 41 (.tmp 19) 4) none,SO.mk (some 48) (.load 4 (.tmp 47)) none]) (.keep [48,19,16,40,39,4,2,3,38,5] c8_8)) (.keep [19,16,40,39,4,2,3,38,5] c8_25))
theorem u8_26:type_of% (@swc _ _ c8_26.eq_1):=@swc _ _ c8_26.eq_1
def c8_27:SC:=(.seq (.reg [SO.mk (some 44) (.move (.tmp 18)) none,SO.mk (some 45) (.iaddr 23 (.tmp 44) (.const (Value.int .i64 0))) none,SO.mk (some 46) (.load 41 (.tmp 45)) none,SO.mk (some 19) (.alloc 41) none,SO.mk none (.store 41 (.tmp 19) (.tmp 46)) none]) (.keep [19,16,40,39,4,2,3,38,5] c8_26))
theorem u8_27:type_of% (@swc _ _ c8_27.eq_1):=@swc _ _ c8_27.eq_1
def c8_28:SC:=(.reg [SO.mk (some 96) (.bin .add 3 (.tmp 40) (.const (Value.int .i64 1))) none,SO.mk (some 40) (.move (.tmp 96)) none])
theorem u8_28:type_of% (@swc _ _ c8_28.eq_1):=@swc _ _ c8_28.eq_1
def c8_29:SC:=(.seq (.block 1 (.seq (.reg [SO.mk (some 42) (.iaddr 38 (.tmp 38) (.tmp 40)) none,SO.mk (some 43) (.load 23 (.tmp 42)) none,SO.mk (some 18) (.move (.tmp 43)) none]) (.keep [18,16,40,39,4,2,3,38,5] c8_27))) (.keep [40,39,4,2,3,38,16,5] c8_28))
theorem u8_29:type_of% (@swc _ _ c8_29.eq_1):=@swc _ _ c8_29.eq_1
def c8_30:SC:=(.seq (.cond (.tmp 41) .skip (.exit 0)) (.keep [16,40,39,4,2,3,38,5] c8_29))
theorem u8_30:type_of% (@swc _ _ c8_30.eq_1):=@swc _ _ c8_30.eq_1
def c8_31:SC:=(.seq (.reg [SO.mk (some 41) (.bin .lss 3 (.tmp 40) (.tmp 39)) none]) (.keep [41,38,3,2,4,39,40,16,5] c8_30))
theorem u8_31:type_of% (@swc _ _ c8_31.eq_1):=@swc _ _ c8_31.eq_1
def c8_32:SC:=(.block 0 (.loop (.keep [38,3,2,4,39,40,16,5] c8_31)))
theorem u8_32:type_of% (@swc _ _ c8_32.eq_1):=@swc _ _ c8_32.eq_1
def o8_33:List SO:=((SO.mk (some 101) (.extract (.tmp 97) 0) none) :: (SO.mk (some 102) (.extract (.tmp 97) 1) none) :: (SO.mk (some 22) (.move (.tmp 101)) none) :: (SO.mk (some 23) (.move (.tmp 102)) none) :: [])
theorem v8_33:type_of% (@swl _ _ o8_33.eq_1):=@swl _ _ o8_33.eq_1
def c8_34:SC:=(.seq (.reg [SO.mk (some 103) (.move (.tmp 22)) none,SO.mk (some 104) (.move (.tmp 23)) none,SO.mk (some 12) (.move (.tmp 103)) none,SO.mk (some 13) (.move (.tmp 104)) none,SO.mk (some 14) (.move (.const (Value.int .i64 0))) none]) (.keep [12,13,14] .ret))
theorem u8_34:type_of% (@swc _ _ c8_34.eq_1):=@swc _ _ c8_34.eq_1
def c8_35:SC:=(.seq (.reg ((SO.mk (some 98) (.move (.tmp 16)) none) :: (SO.mk (some 99) (.move (.tmp 5)) none) :: (SO.mk (some 100) (.call 13 [(.tmp 98),(.tmp 99)]) none) :: (SO.mk (some 97) (.move (.tmp 100)) none) :: o8_33)) (.keep [22,23] c8_34))
theorem u8_35:type_of% (@swc _ _ c8_35.eq_1):=@swc _ _ c8_35.eq_1
def c8_36:SC:=(.seq (.seq (.reg ((SO.mk (some 35) (.load 28 (.tmp 6)) none) :: (SO.mk (some 36) (.move (.tmp 1)) none) :: (SO.mk (some 37) (.move (.tmp 2)) none) :: (SO.mk (some 38) (.call 11 [(.tmp 35),(.tmp 36),(.tmp 37)]) none) :: o8_7)) (.keep [38,3,2,4,39,40,16,5] c8_32)) (.keep [16,5] c8_35))
theorem u8_36:type_of% (@swc _ _ c8_36.eq_1):=@swc _ _ c8_36.eq_1
def c8_37:SC:=(.seq (.reg [SO.mk (some 16) (.move (.const (Value.slice none 0 0))) none]) (.keep [6,1,3,2,4,16,5] c8_36))
theorem u8_37:type_of% (@swc _ _ c8_37.eq_1):=@swc _ _ c8_37.eq_1
def c8_38:SC:=(.seq (.seq (.reg [SO.mk (some 32) (.move (.tmp 3)) none,SO.mk (some 33) (.len 9 (.tmp 32)) none,SO.mk (some 34) (.bin .gtr 3 (.tmp 33) (.const (Value.int .i64 1))) none]) (.keep [34,6,1,3,2,4,5] c8_6)) (.keep [6,1,3,2,4,5] c8_37))
theorem u8_38:type_of% (@swc _ _ c8_38.eq_1):=@swc _ _ c8_38.eq_1
def c8_39:SC:=(.seq (.seq (.reg ((SO.mk (some 24) (.load 28 (.tmp 6)) none) :: (SO.mk (some 25) (.move (.tmp 1)) none) :: (SO.mk (some 26) (.move (.tmp 2)) none) :: (SO.mk (some 27) (.move (.tmp 5)) none) :: o8_1)) (.keep [15,6,1,3,2,4,5] c8_4)) (.keep [6,1,3,2,4,5] c8_38))
theorem u8_39:type_of% (@swc _ _ c8_39.eq_1):=@swc _ _ c8_39.eq_1
def c8:SC:=(.seq (.reg [SO.mk (some 6) (.box 28 (.tmp 0)) none,SO.mk (some 12) (.move (.const (Value.slice none 0 0))) none,SO.mk (some 13) (.move (.const (Value.bool false))) none,SO.mk (some 14) (.move (.const (Value.int .i64 0))) none]) (.keep [6,1,3,2,4,5] c8_39))
theorem c8_eq:annC Try.f8 = some c8:=by kernel_rfl
theorem r8:Try.f8.results.toList = [.tmp 12,.tmp 13,.tmp 14]:=by kernel_rfl
theorem e8:enters Try.prog 8 = true:=by kernel_rfl
end Go.Proofs.Ytikgiadbkjmabaa
namespace Go.Proofs.Ytikgiadbkjmabaa
open Go.RowKit
set_option maxHeartbeats 4000000
set_option maxRecDepth 20000
attribute [local irreducible] SW OSW SWL SWLn SWD SEcall SEcallv SDv SE SO1 SOg ACalls ACallv Wk EndV
set_option linter.unusedSimpArgs false
set_option linter.unusedVariables false
theorem str_ext0 (s:ByteArray) (n:Nat):s.extract (Int.toNat 0) n = s.extract 0 n:=rfl
theorem leB_c {k after:ByteArray} {b:Bool} (h:(Op.bytesLess k.toList after.toList || k.toList == after.toList) = b):leB k after = b:=h
theorem stO_1 {after:ByteArray} {o:List RowD} {r:RowD} (h:leB r.key after = true):stepO after o r = o:=by simp only [stepO,h,Bool.true_or,cond_true]
theorem stO_2 {after:ByteArray} {o:List RowD} {r:RowD} (h:leB r.key after = false) (h0:0 < o.length) (h2:eqR o[o.length - 1]! r = true):stepO after o r = o:=by
  simp only [stepO,h,h2,decide_eq_true h0,Bool.and_self,Bool.or_true,cond_true]
theorem stO_3 {after:ByteArray} {o:List RowD} {r:RowD} (h:leB r.key after = false) (h0:0 < o.length) (h2:eqR o[o.length - 1]! r = false):stepO after o r = o ++ [r]:=by
  simp only [stepO,h,h2,Bool.and_false,Bool.or_false,cond_false]
theorem stO_4 {after:ByteArray} {r:RowD} (h:leB r.key after = false):stepO after [] r = [r]:=by
  simp [stepO,h]
theorem listKeys_p (s:SttD) (hc:Pure Try.prog 18 [s.av] (I (bif mayF s then 0 else 9))) (hw:s.vers.length * 120 ≤ 2 ^ 47) (hkz:∀ v ∈ s.vers,v.key.size ≤ 2 ^ 47) (hup:mayF s = true → s.vers.Pairwise (fun a b=>a.id < b.id)) (name pre d after:ByteArray) (most:Int) :
    Pure Try.prog 8 [s.av,.d (.v (.string name)),.d (.v (.string pre)),.d (.v (.string d)),.d (.v (.string after)),I most] (pgV (kF (listF s name pre most) d) (oL pre d after (oK s.vers name pre s.vers.length) (oK s.vers name pre s.vers.length).length) most):=by
  refine pureZ_of follows Try.func8 c8_eq r8 (Nat.le_of_ble_eq_true rfl) fun B σ hcl hsz=>?_
  clear hsz
  have h1:=listChk_p s hc name pre most
  have h3:=oK_all s name pre
  have h4:=@listF_most s name pre most
  have hm:listF s name pre most = 0 → mayF s = true:=fun h=>by
    cases hb:mayF s
    · unfold listF at h;rw [hb] at h;cases h
    · rfl
  have hk:keptV s name pre = (s.vers.take s.vers.length).filter fun v=>!skipV name pre v:=by rw [List.take_length];rfl
  have h2:listF s name pre most = 0 → Pure Try.prog 11 [s.av,.d (.v (.string name)),.d (.v (.string pre))] (.d (.ro ((gA (oK s.vers name pre s.vers.length) (oK s.vers name pre s.vers.length).length).map gRow))):=fun h=>by
    have ho:=srtR_ok (keptV s name pre) ((hup (hm h)).filter _)
    rw [hk] at ho
    exact keys_p s hw name pre _ (by rw [hk];exact ho.1) ho.2
  have h8:listF s name pre most = 0 → ∀ v ∈ oK s.vers name pre s.vers.length,pre.size ≤ v.key.size ∧ v.key.size ≤ 2 ^ 47:=fun h=>oK_pre s.vers name pre hkz ((hup (hm h)).filter _)
  generalize listF s name pre most = e at h1 h2 h4 h8 ⊢
  clear hm hk
  generalize oK s.vers name pre s.vers.length = l at h2 h3 h8 ⊢
  have h5:=oG_oL pre d after l l.length (Nat.le_refl _)
  have h9:e = 0 → ∀ k,k < (gA l l.length).length → 0 < ((gA l l.length)[k]!).length ∧ pre.size ≤ (((gA l l.length)[k]!)[0]!).key.size ∧ (((gA l l.length)[k]!)[0]!).key.size ≤ 2 ^ 47:=fun h k hk=>gA_head l (fun v=>pre.size ≤ v.key.size ∧ v.key.size ≤ 2 ^ 47) (h8 h) k hk
  have h7:=(gP_len l l.length).2.2
  generalize gA l l.length = G at h2 h5 h7 h9
  rw [← h5]
  clear h5 h8
  unfold pgV kF
  cases he:(e == 0)
  · have he':(e != 0) = true:=by simp only [bne,he,Bool.not_false]
    have he2:¬ e = 0:=by simpa using he
    simp only [cond_false,he]
    repeat' (first | (simp -implicitDefEqProofs only [*,Nat.reduceBEq,↓reduceIte,Nat.reduceEqDiff,Nat.reduceAdd,reduceCtorEq,AO.kill,Int.reduceLT,Int.reduceToNat,List.getElem?_nil,Nat.reduceMul,Nat.reducePow,Nat.reduceLeDiff,rowOf_mapD,rowOf_mapI,rowOf_mapA,List.getElem?_cons_zero,List.getElem?_cons_succ,take_map_len,take_map_app,List.getElem?_cons_zero,c8,r8,v8_1,u8_2,u8_3,u8_4,u8_5,u8_6,v8_7,u8_8,v8_9,v8_10,v8_11,v8_12,u8_13,u8_14,u8_15,v8_16,v8_17,v8_18,v8_19,v8_20,m8_20,u8_21,u8_22,u8_23,u8_24,u8_25,u8_26,u8_27,u8_28,u8_29,u8_30,u8_31,u8_32,v8_33,u8_34,u8_35,u8_36,u8_37,u8_38,u8_39,ty28,ty30,ty9,ty3,ty38,ty23,ty41,ty4,ty43,ty29,SttD.av,SttD.cells,ints,mvcgen_simp]) | (with_reducible refine And.intro ?_ ?_) | (refine call_ro e10 ( h1) rfl ?_ ?_ ?_ ?_) | (refine gcall_ro e10 ( h1) rfl ?_ ?_ ?_ ?_) | (refine dcall_ro e10 ( h1) rfl ?_ ?_ ?_ ?_) | (refine gdcall_ro rfl e10 ( h1) rfl ?_ ?_ ?_ ?_) | (refine EndX.plain ?_) | (refine nil_split (fun hn=>?_) (fun hn=>?_)) | (refine gcall_no not_false ?_) | (refine gdcall_no not_false ?_) | (refine GuardS_of _ _ _ _ _ _ (fun hg=>?_) (fun hg=>?_)) | (refine GuardD_of _ _ _ _ (fun hg=>?_) (fun hg=>?_)) | (refine CondB_of _ _ _ _ _ _ _ ?_ (fun hg=>?_) (fun hg=>?_)))
    all_goals (try (first | ((first | unfold noN | unfold Fr.below | unfold Loc.below);simp [Fr.allN,AV.allN,AV.allNL,AO.allN];done) | rfl | trivial | assumption | (intro row hrow;simp only [List.mem_map] at hrow;obtain ⟨x,_,rfl⟩:=hrow;rfl) | (refine Wk.keep hcl ?_ ?_ ?_;(focus (simp [Fr.get,SttD.av,SttD.cells,ints]<;>fail));(focus (simp [sto,SttD.av,SttD.cells,ints]<;>fail));(focus (simp<;>fail))) | (simp [allP,opd,Fr.get,Fr.below,Fr.allN,AV.allN,AV.allNL,Loc.below,AO.allN,noN,killO,killT,killD,mkNames,AO.kill,AV.kill,AV.mapN,AV.mapNL];done) | (with_reducible exact ltD (by assumption)) | omega | (simp only [decide_eq_true_eq,decide_eq_false_iff_not] at *;omega)))
  have he':(e != 0) = false:=by simp only [bne,he,Bool.not_true]
  obtain rfl:e = 0:=eq_of_beq he
  simp only [cond_true,beq_self_eq_true]
  cases hd1:decide ((d.size:Int) > 1)
  rotate_left 1
  · simp only [cond_true]
    have q1:((1:Int) == 0) = false:=rfl
    simp only [q1,cond_false]
    repeat' (first | (simp -implicitDefEqProofs only [*,Nat.reduceBEq,↓reduceIte,Nat.reduceEqDiff,Nat.reduceAdd,reduceCtorEq,AO.kill,Int.reduceLT,Int.reduceToNat,List.getElem?_nil,Nat.reduceMul,Nat.reducePow,Nat.reduceLeDiff,rowOf_mapD,rowOf_mapI,rowOf_mapA,List.getElem?_cons_zero,List.getElem?_cons_succ,take_map_len,take_map_app,List.getElem?_cons_zero,c8,r8,v8_1,u8_2,u8_3,u8_4,u8_5,u8_6,v8_7,u8_8,v8_9,v8_10,v8_11,v8_12,u8_13,u8_14,u8_15,v8_16,v8_17,v8_18,v8_19,v8_20,m8_20,u8_21,u8_22,u8_23,u8_24,u8_25,u8_26,u8_27,u8_28,u8_29,u8_30,u8_31,u8_32,v8_33,u8_34,u8_35,u8_36,u8_37,u8_38,u8_39,ty28,ty30,ty9,ty3,ty38,ty23,ty41,ty4,ty43,ty29,SttD.av,SttD.cells,ints,mvcgen_simp]) | (with_reducible refine And.intro ?_ ?_) | (refine call_ro e10 ( h1) rfl ?_ ?_ ?_ ?_) | (refine gcall_ro e10 ( h1) rfl ?_ ?_ ?_ ?_) | (refine dcall_ro e10 ( h1) rfl ?_ ?_ ?_ ?_) | (refine gdcall_ro rfl e10 ( h1) rfl ?_ ?_ ?_ ?_) | (refine EndX.plain ?_) | (refine nil_split (fun hn=>?_) (fun hn=>?_)) | (refine gcall_no not_false ?_) | (refine gdcall_no not_false ?_) | (refine GuardS_of _ _ _ _ _ _ (fun hg=>?_) (fun hg=>?_)) | (refine GuardD_of _ _ _ _ (fun hg=>?_) (fun hg=>?_)) | (refine CondB_of _ _ _ _ _ _ _ ?_ (fun hg=>?_) (fun hg=>?_)))
    all_goals (try (first | ((first | unfold noN | unfold Fr.below | unfold Loc.below);simp [Fr.allN,AV.allN,AV.allNL,AO.allN];done) | rfl | trivial | assumption | (intro row hrow;simp only [List.mem_map] at hrow;obtain ⟨x,_,rfl⟩:=hrow;rfl) | (refine Wk.keep hcl ?_ ?_ ?_;(focus (simp [Fr.get,SttD.av,SttD.cells,ints]<;>fail));(focus (simp [sto,SttD.av,SttD.cells,ints]<;>fail));(focus (simp<;>fail))) | (simp [allP,opd,Fr.get,Fr.below,Fr.allN,AV.allN,AV.allNL,Loc.below,AO.allN,noN,killO,killT,killD,mkNames,AO.kill,AV.kill,AV.mapN,AV.mapNL];done) | (with_reducible exact ltD (by assumption)) | omega | (simp only [decide_eq_true_eq,decide_eq_false_iff_not] at *;omega)))
  simp only [cond_false,beq_self_eq_true,cond_true]
  obtain ⟨m1,m2⟩:=h4 rfl
  have h2:=h2 rfl
  have h9:=h9 rfl
  repeat' (first | (simp -implicitDefEqProofs only [*,Nat.reduceBEq,↓reduceIte,Nat.reduceEqDiff,Nat.reduceAdd,reduceCtorEq,AO.kill,Int.reduceLT,Int.reduceToNat,List.getElem?_nil,Nat.reduceMul,Nat.reducePow,Nat.reduceLeDiff,rowOf_mapD,rowOf_mapI,rowOf_mapA,List.getElem?_cons_zero,List.getElem?_cons_succ,take_map_len,take_map_app,List.getElem?_cons_zero,c8,r8,v8_1,u8_2,u8_3,u8_4,u8_5,u8_6,v8_7,u8_8,v8_9,v8_10,v8_11,v8_12,u8_13,u8_14,u8_15,v8_16,v8_17,v8_18,v8_19,v8_20,m8_20,u8_21,u8_22,u8_23,u8_24,u8_25,u8_26,u8_27,u8_28,u8_29,u8_30,u8_31,u8_32,v8_33,u8_34,u8_35,u8_36,u8_37,u8_38,u8_39,ty28,ty30,ty9,ty3,ty38,ty23,ty41,ty4,ty43,ty29,SttD.av,SttD.cells,ints,mvcgen_simp]) | (with_reducible refine And.intro ?_ ?_) | (refine call_ro e10 ( h1) rfl ?_ ?_ ?_ ?_) | (refine gcall_ro e10 ( h1) rfl ?_ ?_ ?_ ?_) | (refine dcall_ro e10 ( h1) rfl ?_ ?_ ?_ ?_) | (refine gdcall_ro rfl e10 ( h1) rfl ?_ ?_ ?_ ?_) | (refine call_ro e11 ( h2) rfl ?_ ?_ ?_ ?_) | (refine gcall_ro e11 ( h2) rfl ?_ ?_ ?_ ?_) | (refine dcall_ro e11 ( h2) rfl ?_ ?_ ?_ ?_) | (refine gdcall_ro rfl e11 ( h2) rfl ?_ ?_ ?_ ?_) | (refine EndX.plain ?_) | (refine nil_split (fun hn=>?_) (fun hn=>?_)) | (refine gcall_no not_false ?_) | (refine gdcall_no not_false ?_) | (refine GuardS_of _ _ _ _ _ _ (fun hg=>?_) (fun hg=>?_)) | (refine GuardD_of _ _ _ _ (fun hg=>?_) (fun hg=>?_)) | (refine CondB_of _ _ _ _ _ _ _ ?_ (fun hg=>?_) (fun hg=>?_)))
  all_goals (try (first | ((first | unfold noN | unfold Fr.below | unfold Loc.below);simp [Fr.allN,AV.allN,AV.allNL,AO.allN];done) | rfl | trivial | assumption | (intro row hrow;simp only [List.mem_map] at hrow;obtain ⟨x,_,rfl⟩:=hrow;rfl) | (refine Wk.keep hcl ?_ ?_ ?_;(focus (simp [Fr.get,SttD.av,SttD.cells,ints]<;>fail));(focus (simp [sto,SttD.av,SttD.cells,ints]<;>fail));(focus (simp<;>fail))) | (simp [allP,opd,Fr.get,Fr.below,Fr.allN,AV.allN,AV.allNL,Loc.below,AO.allN,noN,killO,killT,killD,mkNames,AO.kill,AV.kill,AV.mapN,AV.mapNL];done) | (with_reducible exact ltD (by assumption)) | omega | (simp only [decide_eq_true_eq,decide_eq_false_iff_not] at *;omega)))
  refine loop_nat G.length (fun _=>True) (fun k=>[(38,.d (.ro (G.map gRow))),(3,.d (.v (.string d))),(2,.d (.v (.string pre))),(4,.d (.v (.string after))),(39,I G.length),(40,I k),(16,.os (B + 16) (oG pre d after (G.take k)).length),(5,I most)]) (fun k=>[(B + 16,.arr 7 43 ((oG pre d after (G.take k)).map RowD.row))]) trivial (Wk.trans (Wk.nameF (s:=16) (n:=B + 16) (k:=7) (E:=43) rfl (by omega) (.inl (by omega)) (fun m=>AO.kill_below (q:=fun m=>decide (m < B)) (by simp) _ (hcl m).1)) (Wk.keep hcl ?_ ?_ ?_)) fun k hk _=>?_
  · simp [Fr.get,newF,Fr.map,AV.kill,AV.mapN,oG_0]
  · simp [sto,newL,Loc.kill,Loc.set,AO.kill,AV.kill,AV.mapN,oG_0]
  · simp [newL,Loc.kill,Loc.set]
  clear h1 h2 hc hup
  have hol:=oG_len pre d after G k hk
  rcases Nat.lt_or_eq_of_le hk with hlt | rfl
  rotate_left 1
  · have hdk:decide ((G.length:Int) < (G.length:Int)) = false:=by simp
    rw [List.take_length] at hol ⊢
    repeat' (first | (simp -implicitDefEqProofs only [*,Nat.reduceBEq,↓reduceIte,Nat.reduceEqDiff,Nat.reduceAdd,reduceCtorEq,AO.kill,Int.reduceLT,Int.reduceToNat,List.getElem?_nil,Nat.reduceMul,Nat.reducePow,Nat.reduceLeDiff,rowOf_mapD,rowOf_mapI,rowOf_mapA,List.getElem?_cons_zero,List.getElem?_cons_succ,take_map_len,take_map_app,List.getElem?_cons_zero,c8,r8,v8_1,u8_2,u8_3,u8_4,u8_5,u8_6,v8_7,u8_8,v8_9,v8_10,v8_11,v8_12,u8_13,u8_14,u8_15,v8_16,v8_17,v8_18,v8_19,v8_20,m8_20,u8_21,u8_22,u8_23,u8_24,u8_25,u8_26,u8_27,u8_28,u8_29,u8_30,u8_31,u8_32,v8_33,u8_34,u8_35,u8_36,u8_37,u8_38,u8_39,ty28,ty30,ty9,ty3,ty38,ty23,ty41,ty4,ty43,ty29,mvcgen_simp]) | (with_reducible refine And.intro ?_ ?_) | (refine call_fz (m:=B + 16) (k:=7) (E:=43) (rows:=(oG pre d after G).map RowD.row) hcl (by omega) (by simp [sto]) e13 (page_p (oG pre d after G) most m1) (by simp [opd,Fr.get,Fr.map,AV.fz1,AV.mapN,AV.mapNL,take_map_len]) ?_ ?_ ?_ ?_) | (refine EndX.plain ?_) | (refine nil_split (fun hn=>?_) (fun hn=>?_)) | (refine gcall_no not_false ?_) | (refine gdcall_no not_false ?_) | (refine GuardS_of _ _ _ _ _ _ (fun hg=>?_) (fun hg=>?_)) | (refine GuardD_of _ _ _ _ (fun hg=>?_) (fun hg=>?_)) | (refine CondB_of _ _ _ _ _ _ _ ?_ (fun hg=>?_) (fun hg=>?_)))
    all_goals (try (first | ((first | unfold noN | unfold Fr.below | unfold Loc.below);simp [Fr.allN,AV.allN,AV.allNL,AO.allN];done) | rfl | trivial | assumption | (intro row hrow;simp only [List.mem_map] at hrow;obtain ⟨x,_,rfl⟩:=hrow;rfl) | (refine Wk.keep hcl ?_ ?_ ?_;(focus (simp [Fr.get]<;>fail));(focus (simp [sto]<;>fail));(focus (simp<;>fail))) | (simp [allP,opd,Fr.get,Fr.below,Fr.allN,AV.allN,AV.allNL,Loc.below,AO.allN,noN,killO,killT,killD,mkNames,AO.kill,AV.kill,AV.mapN,AV.mapNL];done) | (with_reducible exact ltD (by assumption)) | omega | (simp only [decide_eq_true_eq,decide_eq_false_iff_not] at *;omega)))
  rw [show (oG pre d after (G.take (k + 1))) = stepV pre d after (oG pre d after (G.take k)) (G[k]!)[0]! from oG_s _ _ _ _ _ hlt]
  generalize oG pre d after (G.take k) = o at hol ⊢
  obtain ⟨g1,g2,g3⟩:=h9 k hlt
  have hdk:decide ((k:Int) < (G.length:Int)) = true:=by simpa using hlt
  have hwk:IntKind.i64.wrap ((k:Int) + 1) = ((k + 1:Nat):Int):=(IntWalk.i64_in _ (by omega)).trans (by omega)
  have hr1:rowOf (G.map gRow) k = gRow G[k]!:=rowOf_map _ _ _ hlt
  generalize G[k]! = g at g1 g2 g3 hr1 ⊢
  have hr2:rowOf (g.map VerD.row) 0 = VerD.row g[0]!:=rowOf_map _ _ _ g1
  have hg0:decide ((0:Int) < (g.length:Int)) = true:=by simpa using g1
  generalize g[0]! = u at g2 g3 hr2 ⊢
  have hto:List.take o.length (o.map RowD.row) = o.map RowD.row:=List.take_of_length_le (by simp)
  obtain ⟨uid,ubkt,ukey,unull,umark,usize,utime,utier,usecs,uvol,upos,util⟩:=u
  simp only at g2 g3
  cases umark
  rotate_left 1
  · have e1:stepV pre d after o ⟨uid,ubkt,ukey,unull,true,usize,utime,utier,usecs,uvol,upos,util⟩ = o:=rfl
    rw [e1]
    repeat' (first | (simp -implicitDefEqProofs only [*,Nat.reduceBEq,↓reduceIte,Nat.reduceEqDiff,Nat.reduceAdd,reduceCtorEq,AO.kill,Int.reduceLT,Int.reduceToNat,List.getElem?_nil,Nat.reduceMul,Nat.reducePow,Nat.reduceLeDiff,rowOf_mapD,rowOf_mapI,rowOf_mapA,List.getElem?_cons_zero,List.getElem?_cons_succ,take_map_len,take_map_app,List.getElem?_cons_zero,c8,r8,v8_1,u8_2,u8_3,u8_4,u8_5,u8_6,v8_7,u8_8,v8_9,v8_10,v8_11,v8_12,u8_13,u8_14,u8_15,v8_16,v8_17,v8_18,v8_19,v8_20,m8_20,u8_21,u8_22,u8_23,u8_24,u8_25,u8_26,u8_27,u8_28,u8_29,u8_30,u8_31,u8_32,v8_33,u8_34,u8_35,u8_36,u8_37,u8_38,u8_39,ty28,ty30,ty9,ty3,ty38,ty23,ty41,ty4,ty43,ty29,gRow,VerD.row,ints,mvcgen_simp]) | (with_reducible refine And.intro ?_ ?_) | (refine EndX.plain ?_) | (refine nil_split (fun hn=>?_) (fun hn=>?_)) | (refine gcall_no not_false ?_) | (refine gdcall_no not_false ?_) | (refine GuardS_of _ _ _ _ _ _ (fun hg=>?_) (fun hg=>?_)) | (refine GuardD_of _ _ _ _ (fun hg=>?_) (fun hg=>?_)) | (refine CondB_of _ _ _ _ _ _ _ ?_ (fun hg=>?_) (fun hg=>?_)))
    all_goals (try (first | ((first | unfold noN | unfold Fr.below | unfold Loc.below);simp [Fr.allN,AV.allN,AV.allNL,AO.allN];done) | rfl | trivial | assumption | (intro row hrow;simp only [List.mem_map] at hrow;obtain ⟨x,_,rfl⟩:=hrow;rfl) | (refine Wk.keep hcl ?_ ?_ ?_;(focus (simp [Fr.get,gRow,VerD.row,ints]<;>fail));(focus (simp [sto,gRow,VerD.row,ints]<;>fail));(focus (simp<;>fail))) | (simp [allP,opd,Fr.get,Fr.below,Fr.allN,AV.allN,AV.allNL,Loc.below,AO.allN,noN,killO,killT,killD,mkNames,AO.kill,AV.kill,AV.mapN,AV.mapNL];done) | (with_reducible exact ltD (by assumption)) | omega | (simp only [decide_eq_true_eq,decide_eq_false_iff_not] at *;omega)))
  have hrow:=listRow_p ⟨uid,ubkt,ukey,unull,false,usize,utime,utier,usecs,uvol,upos,util⟩ true
  have e1:stepV pre d after o ⟨uid,ubkt,ukey,unull,false,usize,utime,utier,usecs,uvol,upos,util⟩ = stepO after o (keyR pre d ⟨uid,ubkt,ukey,unull,false,usize,utime,utier,usecs,uvol,upos,util⟩):=rfl
  rw [e1]
  have hd:d.size ≤ 1:=by have:=of_decide_eq_false hd1;omega
  have hix:=index_s (ukey.extract pre.size ukey.size) d hd
  have hin:∀ n:Nat,d.size = 1 → ixF (ukey.extract pre.size ukey.size) d = n → pre.size + n < ukey.size:=fun n h1 h2=>ix_in h1 h2
  unfold keyR
  simp only
  generalize ixF (ukey.extract pre.size ukey.size) d = ix at hix hin ⊢
  have hlast:o = [] ∨ 0 < o.length:=by cases o<;>simp
  rcases hlast with rfl | hlast
  · have hl0:decide (((([]:List RowD).length:Nat):Int) > 0) = false:=rfl
    rcases Nat.lt_or_eq_of_le hd with hd0 | hd0
    · obtain rfl:=no_byte (d:=d) (by omega)
      have hq:(bif (ByteArray.mk #[]).size != 0 && decide (ix ≥ 0) then comR (ukey.extract 0 (pre.size + ix.toNat + 1)) else rowD ⟨uid,ubkt,ukey,unull,false,usize,utime,utier,usecs,uvol,upos,util⟩ true) = (⟨ukey,false,uid,false,true,usize,utier⟩:RowD):=rfl
      rw [hq]
      repeat' (first | (simp -implicitDefEqProofs only [*,Nat.reduceBEq,↓reduceIte,Nat.reduceEqDiff,Nat.reduceAdd,reduceCtorEq,AO.kill,Int.reduceLT,Int.reduceToNat,List.getElem?_nil,Nat.reduceMul,Nat.reducePow,Nat.reduceLeDiff,rowOf_mapD,rowOf_mapI,rowOf_mapA,List.getElem?_cons_zero,List.getElem?_cons_succ,take_map_len,take_map_app,List.getElem?_cons_zero,c8,r8,v8_1,u8_2,u8_3,u8_4,u8_5,u8_6,v8_7,u8_8,v8_9,v8_10,v8_11,v8_12,u8_13,u8_14,u8_15,v8_16,v8_17,v8_18,v8_19,v8_20,m8_20,u8_21,u8_22,u8_23,u8_24,u8_25,u8_26,u8_27,u8_28,u8_29,u8_30,u8_31,u8_32,v8_33,u8_34,u8_35,u8_36,u8_37,u8_38,u8_39,ty28,ty30,ty9,ty3,ty38,ty23,ty41,ty4,ty43,ty29,gRow,VerD.row,ints,RowD.row,rowD,comR,bnd,sliceV,Option.getD_some,Option.getD_none,beq_self_eq_true,feqE,str_ext0,mvcgen_simp]) | (with_reducible refine And.intro ?_ ?_) | (refine call_ro e12 ( hrow) rfl ?_ ?_ ?_ ?_) | (refine gcall_ro e12 ( hrow) rfl ?_ ?_ ?_ ?_) | (refine dcall_ro e12 ( hrow) rfl ?_ ?_ ?_ ?_) | (refine gdcall_ro rfl e12 ( hrow) rfl ?_ ?_ ?_ ?_) | (refine call_ro e17 ( hix) rfl ?_ ?_ ?_ ?_) | (refine gcall_ro e17 ( hix) rfl ?_ ?_ ?_ ?_) | (refine dcall_ro e17 ( hix) rfl ?_ ?_ ?_ ?_) | (refine gdcall_ro rfl e17 ( hix) rfl ?_ ?_ ?_ ?_) | (refine EndX.plain ?_) | (refine nil_split (fun hn=>?_) (fun hn=>?_)) | (refine gcall_no not_false ?_) | (refine gdcall_no not_false ?_) | (refine GuardS_of _ _ _ _ _ _ (fun hg=>?_) (fun hg=>?_)) | (refine GuardD_of _ _ _ _ (fun hg=>?_) (fun hg=>?_)) | (refine CondB_of _ _ _ _ _ _ _ ?_ (fun hg=>?_) (fun hg=>?_)))
      all_goals (try (first | ((first | unfold noN | unfold Fr.below | unfold Loc.below);simp [Fr.allN,AV.allN,AV.allNL,AO.allN];done) | rfl | trivial | assumption | (intro row hrow;simp only [List.mem_map] at hrow;obtain ⟨x,_,rfl⟩:=hrow;rfl) | (refine Wk.keep hcl ?_ ?_ ?_;(focus (simp [Fr.get,gRow,VerD.row,ints,RowD.row,rowD,comR,bnd,sliceV,Option.getD_some,Option.getD_none,beq_self_eq_true,feqE,str_ext0]<;>fail));(focus (simp [sto,gRow,VerD.row,ints,RowD.row,rowD,comR,bnd,sliceV,Option.getD_some,Option.getD_none,beq_self_eq_true,feqE,str_ext0]<;>fail));(focus (simp<;>fail))) | (simp [allP,opd,Fr.get,Fr.below,Fr.allN,AV.allN,AV.allNL,Loc.below,AO.allN,noN,killO,killT,killD,mkNames,AO.kill,AV.kill,AV.mapN,AV.mapNL];done) | (with_reducible exact ltD (by assumption)) | omega | (simp only [decide_eq_true_eq,decide_eq_false_iff_not] at *;omega)))
      all_goals (try (simp only [decide_eq_true_eq,decide_eq_false_iff_not] at *;omega))
      all_goals first
        | (have hle:leB ukey after = true:=leB_c (by assumption)
           rw [stO_1 (r:=(⟨ukey,false,uid,false,true,usize,utier⟩:RowD)) hle]
           refine Wk.keep hcl ?_ ?_ ?_<;>simp [Fr.get,sto]
           done)
        | (have hle:leB ukey after = false:=leB_c (by assumption)
           rw [stO_4 (r:=(⟨ukey,false,uid,false,true,usize,utier⟩:RowD)) hle]
           refine Wk.keep hcl ?_ ?_ ?_<;>simp [Fr.get,sto,RowD.row]
           done)
    have hdz:(d.size != 0) = true:=by rw [hd0];rfl
    have hdq:(d.toList == (ByteArray.mk #[]).toList) = false:=by
      obtain ⟨b,rfl⟩:=one_byte hd0
      rw [ByteArray.toList_eq,ByteArray.toList_eq];rfl
    rw [hdz,Bool.true_and]
    cases hi0:decide (ix ≥ 0)
    · rw [cond_false]
      unfold rowD
      simp only
      repeat' (first | (simp -implicitDefEqProofs only [*,Nat.reduceBEq,↓reduceIte,Nat.reduceEqDiff,Nat.reduceAdd,reduceCtorEq,AO.kill,Int.reduceLT,Int.reduceToNat,List.getElem?_nil,Nat.reduceMul,Nat.reducePow,Nat.reduceLeDiff,rowOf_mapD,rowOf_mapI,rowOf_mapA,List.getElem?_cons_zero,List.getElem?_cons_succ,take_map_len,take_map_app,List.getElem?_cons_zero,c8,r8,v8_1,u8_2,u8_3,u8_4,u8_5,u8_6,v8_7,u8_8,v8_9,v8_10,v8_11,v8_12,u8_13,u8_14,u8_15,v8_16,v8_17,v8_18,v8_19,v8_20,m8_20,u8_21,u8_22,u8_23,u8_24,u8_25,u8_26,u8_27,u8_28,u8_29,u8_30,u8_31,u8_32,v8_33,u8_34,u8_35,u8_36,u8_37,u8_38,u8_39,ty28,ty30,ty9,ty3,ty38,ty23,ty41,ty4,ty43,ty29,gRow,VerD.row,ints,RowD.row,rowD,comR,bnd,sliceV,Option.getD_some,Option.getD_none,beq_self_eq_true,feqE,str_ext0,mvcgen_simp]) | (with_reducible refine And.intro ?_ ?_) | (refine call_ro e12 ( hrow) rfl ?_ ?_ ?_ ?_) | (refine gcall_ro e12 ( hrow) rfl ?_ ?_ ?_ ?_) | (refine dcall_ro e12 ( hrow) rfl ?_ ?_ ?_ ?_) | (refine gdcall_ro rfl e12 ( hrow) rfl ?_ ?_ ?_ ?_) | (refine call_ro e17 ( hix) rfl ?_ ?_ ?_ ?_) | (refine gcall_ro e17 ( hix) rfl ?_ ?_ ?_ ?_) | (refine dcall_ro e17 ( hix) rfl ?_ ?_ ?_ ?_) | (refine gdcall_ro rfl e17 ( hix) rfl ?_ ?_ ?_ ?_) | (refine EndX.plain ?_) | (refine nil_split (fun hn=>?_) (fun hn=>?_)) | (refine gcall_no not_false ?_) | (refine gdcall_no not_false ?_) | (refine GuardS_of _ _ _ _ _ _ (fun hg=>?_) (fun hg=>?_)) | (refine GuardD_of _ _ _ _ (fun hg=>?_) (fun hg=>?_)) | (refine CondB_of _ _ _ _ _ _ _ ?_ (fun hg=>?_) (fun hg=>?_)))
      all_goals (try (first | ((first | unfold noN | unfold Fr.below | unfold Loc.below);simp [Fr.allN,AV.allN,AV.allNL,AO.allN];done) | rfl | trivial | assumption | (intro row hrow;simp only [List.mem_map] at hrow;obtain ⟨x,_,rfl⟩:=hrow;rfl) | (refine Wk.keep hcl ?_ ?_ ?_;(focus (simp [Fr.get,gRow,VerD.row,ints,RowD.row,rowD,comR,bnd,sliceV,Option.getD_some,Option.getD_none,beq_self_eq_true,feqE,str_ext0]<;>fail));(focus (simp [sto,gRow,VerD.row,ints,RowD.row,rowD,comR,bnd,sliceV,Option.getD_some,Option.getD_none,beq_self_eq_true,feqE,str_ext0]<;>fail));(focus (simp<;>fail))) | (simp [allP,opd,Fr.get,Fr.below,Fr.allN,AV.allN,AV.allNL,Loc.below,AO.allN,noN,killO,killT,killD,mkNames,AO.kill,AV.kill,AV.mapN,AV.mapNL];done) | (with_reducible exact ltD (by assumption)) | omega | (simp only [decide_eq_true_eq,decide_eq_false_iff_not] at *;omega)))
      all_goals (try (simp only [decide_eq_true_eq,decide_eq_false_iff_not] at *;omega))
      all_goals first
        | (have hle:leB ukey after = true:=leB_c (by assumption)
           rw [stO_1 (r:=(⟨ukey,false,uid,false,true,usize,utier⟩:RowD)) hle]
           refine Wk.keep hcl ?_ ?_ ?_<;>simp [Fr.get,sto]
           done)
        | (have hle:leB ukey after = false:=leB_c (by assumption)
           rw [stO_4 (r:=(⟨ukey,false,uid,false,true,usize,utier⟩:RowD)) hle]
           refine Wk.keep hcl ?_ ?_ ?_<;>simp [Fr.get,sto,RowD.row]
           done)
    rw [cond_true]
    obtain ⟨n,rfl⟩:=Int.eq_ofNat_of_zero_le (of_decide_eq_true hi0)
    have hn:=hin n hd0 rfl
    have hw5:IntKind.i64.wrap ((pre.size:Int) + (n:Int)) = ((pre.size + n:Nat):Int):=(IntWalk.i64_in _ (by omega)).trans (by omega)
    have hw6:IntKind.i64.wrap (((pre.size + n:Nat):Int) + 1) = ((pre.size + n + 1:Nat):Int):=(IntWalk.i64_in _ (by omega)).trans (by omega)
    unfold comR
    simp only [Int.toNat_natCast]
    repeat' (first | (simp -implicitDefEqProofs only [*,Nat.reduceBEq,↓reduceIte,Nat.reduceEqDiff,Nat.reduceAdd,reduceCtorEq,AO.kill,Int.reduceLT,Int.reduceToNat,List.getElem?_nil,Nat.reduceMul,Nat.reducePow,Nat.reduceLeDiff,rowOf_mapD,rowOf_mapI,rowOf_mapA,List.getElem?_cons_zero,List.getElem?_cons_succ,take_map_len,take_map_app,List.getElem?_cons_zero,c8,r8,v8_1,u8_2,u8_3,u8_4,u8_5,u8_6,v8_7,u8_8,v8_9,v8_10,v8_11,v8_12,u8_13,u8_14,u8_15,v8_16,v8_17,v8_18,v8_19,v8_20,m8_20,u8_21,u8_22,u8_23,u8_24,u8_25,u8_26,u8_27,u8_28,u8_29,u8_30,u8_31,u8_32,v8_33,u8_34,u8_35,u8_36,u8_37,u8_38,u8_39,ty28,ty30,ty9,ty3,ty38,ty23,ty41,ty4,ty43,ty29,gRow,VerD.row,ints,RowD.row,rowD,comR,bnd,sliceV,Option.getD_some,Option.getD_none,beq_self_eq_true,feqE,str_ext0,mvcgen_simp]) | (with_reducible refine And.intro ?_ ?_) | (refine call_ro e12 ( hrow) rfl ?_ ?_ ?_ ?_) | (refine gcall_ro e12 ( hrow) rfl ?_ ?_ ?_ ?_) | (refine dcall_ro e12 ( hrow) rfl ?_ ?_ ?_ ?_) | (refine gdcall_ro rfl e12 ( hrow) rfl ?_ ?_ ?_ ?_) | (refine call_ro e17 ( hix) rfl ?_ ?_ ?_ ?_) | (refine gcall_ro e17 ( hix) rfl ?_ ?_ ?_ ?_) | (refine dcall_ro e17 ( hix) rfl ?_ ?_ ?_ ?_) | (refine gdcall_ro rfl e17 ( hix) rfl ?_ ?_ ?_ ?_) | (refine EndX.plain ?_) | (refine nil_split (fun hn=>?_) (fun hn=>?_)) | (refine gcall_no not_false ?_) | (refine gdcall_no not_false ?_) | (refine GuardS_of _ _ _ _ _ _ (fun hg=>?_) (fun hg=>?_)) | (refine GuardD_of _ _ _ _ (fun hg=>?_) (fun hg=>?_)) | (refine CondB_of _ _ _ _ _ _ _ ?_ (fun hg=>?_) (fun hg=>?_)))
    all_goals (try (first | ((first | unfold noN | unfold Fr.below | unfold Loc.below);simp [Fr.allN,AV.allN,AV.allNL,AO.allN];done) | rfl | trivial | assumption | (intro row hrow;simp only [List.mem_map] at hrow;obtain ⟨x,_,rfl⟩:=hrow;rfl) | (refine Wk.keep hcl ?_ ?_ ?_;(focus (simp [Fr.get,gRow,VerD.row,ints,RowD.row,rowD,comR,bnd,sliceV,Option.getD_some,Option.getD_none,beq_self_eq_true,feqE,str_ext0]<;>fail));(focus (simp [sto,gRow,VerD.row,ints,RowD.row,rowD,comR,bnd,sliceV,Option.getD_some,Option.getD_none,beq_self_eq_true,feqE,str_ext0]<;>fail));(focus (simp<;>fail))) | (simp [allP,opd,Fr.get,Fr.below,Fr.allN,AV.allN,AV.allNL,Loc.below,AO.allN,noN,killO,killT,killD,mkNames,AO.kill,AV.kill,AV.mapN,AV.mapNL];done) | (with_reducible exact ltD (by assumption)) | omega | (simp only [decide_eq_true_eq,decide_eq_false_iff_not] at *;omega)))
    all_goals (try (simp only [decide_eq_true_eq,decide_eq_false_iff_not] at *;omega))
    all_goals first
      | (have hle:leB (ukey.extract 0 (pre.size + n + 1)) after = true:=leB_c (by assumption)
         rw [stO_1 (r:=(⟨ukey.extract 0 (pre.size + n + 1),true,0,false,false,0,0⟩:RowD)) hle]
         refine Wk.keep hcl ?_ ?_ ?_<;>simp [Fr.get,sto]
         done)
      | (have hle:leB (ukey.extract 0 (pre.size + n + 1)) after = false:=leB_c (by assumption)
         rw [stO_4 (r:=(⟨ukey.extract 0 (pre.size + n + 1),true,0,false,false,0,0⟩:RowD)) hle]
         refine Wk.keep hcl ?_ ?_ ?_<;>simp [Fr.get,sto,RowD.row]
         done)
  have hl1:decide ((o.length:Int) > 0) = true:=by simpa using hlast
  have hwl:IntKind.i64.wrap ((o.length:Int) - 1) = ((o.length - 1:Nat):Int):=(IntWalk.i64_in _ (by omega)).trans (by omega)
  have hrl:rowOf (o.map RowD.row) (o.length - 1) = RowD.row o[o.length - 1]!:=rowOf_map _ _ _ (by omega)
  generalize hwr:o[o.length - 1]! = wr at hrl
  obtain ⟨wk,wc,wi,wm,wl,ws,wt⟩:=wr
  rcases Nat.lt_or_eq_of_le hd with hd0 | hd0
  · obtain rfl:=no_byte (d:=d) (by omega)
    have hq:(bif (ByteArray.mk #[]).size != 0 && decide (ix ≥ 0) then comR (ukey.extract 0 (pre.size + ix.toNat + 1)) else rowD ⟨uid,ubkt,ukey,unull,false,usize,utime,utier,usecs,uvol,upos,util⟩ true) = (⟨ukey,false,uid,false,true,usize,utier⟩:RowD):=rfl
    rw [hq]
    repeat' (first | (simp -implicitDefEqProofs only [*,Nat.reduceBEq,↓reduceIte,Nat.reduceEqDiff,Nat.reduceAdd,reduceCtorEq,AO.kill,Int.reduceLT,Int.reduceToNat,List.getElem?_nil,Nat.reduceMul,Nat.reducePow,Nat.reduceLeDiff,rowOf_mapD,rowOf_mapI,rowOf_mapA,List.getElem?_cons_zero,List.getElem?_cons_succ,take_map_len,take_map_app,List.getElem?_cons_zero,c8,r8,v8_1,u8_2,u8_3,u8_4,u8_5,u8_6,v8_7,u8_8,v8_9,v8_10,v8_11,v8_12,u8_13,u8_14,u8_15,v8_16,v8_17,v8_18,v8_19,v8_20,m8_20,u8_21,u8_22,u8_23,u8_24,u8_25,u8_26,u8_27,u8_28,u8_29,u8_30,u8_31,u8_32,v8_33,u8_34,u8_35,u8_36,u8_37,u8_38,u8_39,ty28,ty30,ty9,ty3,ty38,ty23,ty41,ty4,ty43,ty29,gRow,VerD.row,ints,RowD.row,rowD,comR,bnd,sliceV,Option.getD_some,Option.getD_none,beq_self_eq_true,feqE,str_ext0,mvcgen_simp]) | (with_reducible refine And.intro ?_ ?_) | (refine call_ro e12 ( hrow) rfl ?_ ?_ ?_ ?_) | (refine gcall_ro e12 ( hrow) rfl ?_ ?_ ?_ ?_) | (refine dcall_ro e12 ( hrow) rfl ?_ ?_ ?_ ?_) | (refine gdcall_ro rfl e12 ( hrow) rfl ?_ ?_ ?_ ?_) | (refine call_ro e17 ( hix) rfl ?_ ?_ ?_ ?_) | (refine gcall_ro e17 ( hix) rfl ?_ ?_ ?_ ?_) | (refine dcall_ro e17 ( hix) rfl ?_ ?_ ?_ ?_) | (refine gdcall_ro rfl e17 ( hix) rfl ?_ ?_ ?_ ?_) | (refine EndX.plain ?_) | (refine nil_split (fun hn=>?_) (fun hn=>?_)) | (refine gcall_no not_false ?_) | (refine gdcall_no not_false ?_) | (refine GuardS_of _ _ _ _ _ _ (fun hg=>?_) (fun hg=>?_)) | (refine GuardD_of _ _ _ _ (fun hg=>?_) (fun hg=>?_)) | (refine CondB_of _ _ _ _ _ _ _ ?_ (fun hg=>?_) (fun hg=>?_)))
    all_goals (try (first | ((first | unfold noN | unfold Fr.below | unfold Loc.below);simp [Fr.allN,AV.allN,AV.allNL,AO.allN];done) | rfl | trivial | assumption | (intro row hrow;simp only [List.mem_map] at hrow;obtain ⟨x,_,rfl⟩:=hrow;rfl) | (refine Wk.keep hcl ?_ ?_ ?_;(focus (simp [Fr.get,gRow,VerD.row,ints,RowD.row,rowD,comR,bnd,sliceV,Option.getD_some,Option.getD_none,beq_self_eq_true,feqE,str_ext0]<;>fail));(focus (simp [sto,gRow,VerD.row,ints,RowD.row,rowD,comR,bnd,sliceV,Option.getD_some,Option.getD_none,beq_self_eq_true,feqE,str_ext0]<;>fail));(focus (simp<;>fail))) | (simp [allP,opd,Fr.get,Fr.below,Fr.allN,AV.allN,AV.allNL,Loc.below,AO.allN,noN,killO,killT,killD,mkNames,AO.kill,AV.kill,AV.mapN,AV.mapNL];done) | (with_reducible exact ltD (by assumption)) | omega | (simp only [decide_eq_true_eq,decide_eq_false_iff_not] at *;omega)))
    all_goals (try (simp only [List.length_map];omega))
    all_goals first
      | (have hle:leB ukey after = true:=leB_c (by assumption)
         rw [stO_1 (r:=(⟨ukey,false,uid,false,true,usize,utier⟩:RowD)) hle]
         refine Wk.keep hcl ?_ ?_ ?_<;>simp [Fr.get,sto]
         done)
      | (have hle:leB ukey after = false:=leB_c (by assumption)
         have hee:eqR ⟨wk,wc,wi,wm,wl,ws,wt⟩ (⟨ukey,false,uid,false,true,usize,utier⟩:RowD) = true:=by assumption
         rw [stO_2 (r:=(⟨ukey,false,uid,false,true,usize,utier⟩:RowD)) hle hlast (by rw [hwr];exact hee)]
         refine Wk.keep hcl ?_ ?_ ?_<;>simp [Fr.get,sto]
         done)
      | (have hle:leB ukey after = false:=leB_c (by assumption)
         have hee:eqR ⟨wk,wc,wi,wm,wl,ws,wt⟩ (⟨ukey,false,uid,false,true,usize,utier⟩:RowD) = false:=by assumption
         rw [stO_3 (r:=(⟨ukey,false,uid,false,true,usize,utier⟩:RowD)) hle hlast (by rw [hwr];exact hee)]
         refine Wk.keep hcl ?_ ?_ ?_<;>simp [Fr.get,sto,RowD.row]
         done)
  have hdz:(d.size != 0) = true:=by rw [hd0];rfl
  have hdq:(d.toList == (ByteArray.mk #[]).toList) = false:=by
    obtain ⟨b,rfl⟩:=one_byte hd0
    rw [ByteArray.toList_eq,ByteArray.toList_eq];rfl
  rw [hdz,Bool.true_and]
  cases hi0:decide (ix ≥ 0)
  · rw [cond_false]
    unfold rowD
    simp only
    repeat' (first | (simp -implicitDefEqProofs only [*,Nat.reduceBEq,↓reduceIte,Nat.reduceEqDiff,Nat.reduceAdd,reduceCtorEq,AO.kill,Int.reduceLT,Int.reduceToNat,List.getElem?_nil,Nat.reduceMul,Nat.reducePow,Nat.reduceLeDiff,rowOf_mapD,rowOf_mapI,rowOf_mapA,List.getElem?_cons_zero,List.getElem?_cons_succ,take_map_len,take_map_app,List.getElem?_cons_zero,c8,r8,v8_1,u8_2,u8_3,u8_4,u8_5,u8_6,v8_7,u8_8,v8_9,v8_10,v8_11,v8_12,u8_13,u8_14,u8_15,v8_16,v8_17,v8_18,v8_19,v8_20,m8_20,u8_21,u8_22,u8_23,u8_24,u8_25,u8_26,u8_27,u8_28,u8_29,u8_30,u8_31,u8_32,v8_33,u8_34,u8_35,u8_36,u8_37,u8_38,u8_39,ty28,ty30,ty9,ty3,ty38,ty23,ty41,ty4,ty43,ty29,gRow,VerD.row,ints,RowD.row,rowD,comR,bnd,sliceV,Option.getD_some,Option.getD_none,beq_self_eq_true,feqE,str_ext0,mvcgen_simp]) | (with_reducible refine And.intro ?_ ?_) | (refine call_ro e12 ( hrow) rfl ?_ ?_ ?_ ?_) | (refine gcall_ro e12 ( hrow) rfl ?_ ?_ ?_ ?_) | (refine dcall_ro e12 ( hrow) rfl ?_ ?_ ?_ ?_) | (refine gdcall_ro rfl e12 ( hrow) rfl ?_ ?_ ?_ ?_) | (refine call_ro e17 ( hix) rfl ?_ ?_ ?_ ?_) | (refine gcall_ro e17 ( hix) rfl ?_ ?_ ?_ ?_) | (refine dcall_ro e17 ( hix) rfl ?_ ?_ ?_ ?_) | (refine gdcall_ro rfl e17 ( hix) rfl ?_ ?_ ?_ ?_) | (refine EndX.plain ?_) | (refine nil_split (fun hn=>?_) (fun hn=>?_)) | (refine gcall_no not_false ?_) | (refine gdcall_no not_false ?_) | (refine GuardS_of _ _ _ _ _ _ (fun hg=>?_) (fun hg=>?_)) | (refine GuardD_of _ _ _ _ (fun hg=>?_) (fun hg=>?_)) | (refine CondB_of _ _ _ _ _ _ _ ?_ (fun hg=>?_) (fun hg=>?_)))
    all_goals (try (first | ((first | unfold noN | unfold Fr.below | unfold Loc.below);simp [Fr.allN,AV.allN,AV.allNL,AO.allN];done) | rfl | trivial | assumption | (intro row hrow;simp only [List.mem_map] at hrow;obtain ⟨x,_,rfl⟩:=hrow;rfl) | (refine Wk.keep hcl ?_ ?_ ?_;(focus (simp [Fr.get,gRow,VerD.row,ints,RowD.row,rowD,comR,bnd,sliceV,Option.getD_some,Option.getD_none,beq_self_eq_true,feqE,str_ext0]<;>fail));(focus (simp [sto,gRow,VerD.row,ints,RowD.row,rowD,comR,bnd,sliceV,Option.getD_some,Option.getD_none,beq_self_eq_true,feqE,str_ext0]<;>fail));(focus (simp<;>fail))) | (simp [allP,opd,Fr.get,Fr.below,Fr.allN,AV.allN,AV.allNL,Loc.below,AO.allN,noN,killO,killT,killD,mkNames,AO.kill,AV.kill,AV.mapN,AV.mapNL];done) | (with_reducible exact ltD (by assumption)) | omega | (simp only [decide_eq_true_eq,decide_eq_false_iff_not] at *;omega)))
    all_goals (try (simp only [List.length_map];omega))
    all_goals first
      | (have hle:leB ukey after = true:=leB_c (by assumption)
         rw [stO_1 (r:=(⟨ukey,false,uid,false,true,usize,utier⟩:RowD)) hle]
         refine Wk.keep hcl ?_ ?_ ?_<;>simp [Fr.get,sto]
         done)
      | (have hle:leB ukey after = false:=leB_c (by assumption)
         have hee:eqR ⟨wk,wc,wi,wm,wl,ws,wt⟩ (⟨ukey,false,uid,false,true,usize,utier⟩:RowD) = true:=by assumption
         rw [stO_2 (r:=(⟨ukey,false,uid,false,true,usize,utier⟩:RowD)) hle hlast (by rw [hwr];exact hee)]
         refine Wk.keep hcl ?_ ?_ ?_<;>simp [Fr.get,sto]
         done)
      | (have hle:leB ukey after = false:=leB_c (by assumption)
         have hee:eqR ⟨wk,wc,wi,wm,wl,ws,wt⟩ (⟨ukey,false,uid,false,true,usize,utier⟩:RowD) = false:=by assumption
         rw [stO_3 (r:=(⟨ukey,false,uid,false,true,usize,utier⟩:RowD)) hle hlast (by rw [hwr];exact hee)]
         refine Wk.keep hcl ?_ ?_ ?_<;>simp [Fr.get,sto,RowD.row]
         done)
  rw [cond_true]
  obtain ⟨n,rfl⟩:=Int.eq_ofNat_of_zero_le (of_decide_eq_true hi0)
  have hn:=hin n hd0 rfl
  have hw5:IntKind.i64.wrap ((pre.size:Int) + (n:Int)) = ((pre.size + n:Nat):Int):=(IntWalk.i64_in _ (by omega)).trans (by omega)
  have hw6:IntKind.i64.wrap (((pre.size + n:Nat):Int) + 1) = ((pre.size + n + 1:Nat):Int):=(IntWalk.i64_in _ (by omega)).trans (by omega)
  unfold comR
  simp only [Int.toNat_natCast]
  repeat' (first | (simp -implicitDefEqProofs only [*,Nat.reduceBEq,↓reduceIte,Nat.reduceEqDiff,Nat.reduceAdd,reduceCtorEq,AO.kill,Int.reduceLT,Int.reduceToNat,List.getElem?_nil,Nat.reduceMul,Nat.reducePow,Nat.reduceLeDiff,rowOf_mapD,rowOf_mapI,rowOf_mapA,List.getElem?_cons_zero,List.getElem?_cons_succ,take_map_len,take_map_app,List.getElem?_cons_zero,c8,r8,v8_1,u8_2,u8_3,u8_4,u8_5,u8_6,v8_7,u8_8,v8_9,v8_10,v8_11,v8_12,u8_13,u8_14,u8_15,v8_16,v8_17,v8_18,v8_19,v8_20,m8_20,u8_21,u8_22,u8_23,u8_24,u8_25,u8_26,u8_27,u8_28,u8_29,u8_30,u8_31,u8_32,v8_33,u8_34,u8_35,u8_36,u8_37,u8_38,u8_39,ty28,ty30,ty9,ty3,ty38,ty23,ty41,ty4,ty43,ty29,gRow,VerD.row,ints,RowD.row,rowD,comR,bnd,sliceV,Option.getD_some,Option.getD_none,beq_self_eq_true,feqE,str_ext0,mvcgen_simp]) | (with_reducible refine And.intro ?_ ?_) | (refine call_ro e12 ( hrow) rfl ?_ ?_ ?_ ?_) | (refine gcall_ro e12 ( hrow) rfl ?_ ?_ ?_ ?_) | (refine dcall_ro e12 ( hrow) rfl ?_ ?_ ?_ ?_) | (refine gdcall_ro rfl e12 ( hrow) rfl ?_ ?_ ?_ ?_) | (refine call_ro e17 ( hix) rfl ?_ ?_ ?_ ?_) | (refine gcall_ro e17 ( hix) rfl ?_ ?_ ?_ ?_) | (refine dcall_ro e17 ( hix) rfl ?_ ?_ ?_ ?_) | (refine gdcall_ro rfl e17 ( hix) rfl ?_ ?_ ?_ ?_) | (refine EndX.plain ?_) | (refine nil_split (fun hn=>?_) (fun hn=>?_)) | (refine gcall_no not_false ?_) | (refine gdcall_no not_false ?_) | (refine GuardS_of _ _ _ _ _ _ (fun hg=>?_) (fun hg=>?_)) | (refine GuardD_of _ _ _ _ (fun hg=>?_) (fun hg=>?_)) | (refine CondB_of _ _ _ _ _ _ _ ?_ (fun hg=>?_) (fun hg=>?_)))
  all_goals (try (first | ((first | unfold noN | unfold Fr.below | unfold Loc.below);simp [Fr.allN,AV.allN,AV.allNL,AO.allN];done) | rfl | trivial | assumption | (intro row hrow;simp only [List.mem_map] at hrow;obtain ⟨x,_,rfl⟩:=hrow;rfl) | (refine Wk.keep hcl ?_ ?_ ?_;(focus (simp [Fr.get,gRow,VerD.row,ints,RowD.row,rowD,comR,bnd,sliceV,Option.getD_some,Option.getD_none,beq_self_eq_true,feqE,str_ext0]<;>fail));(focus (simp [sto,gRow,VerD.row,ints,RowD.row,rowD,comR,bnd,sliceV,Option.getD_some,Option.getD_none,beq_self_eq_true,feqE,str_ext0]<;>fail));(focus (simp<;>fail))) | (simp [allP,opd,Fr.get,Fr.below,Fr.allN,AV.allN,AV.allNL,Loc.below,AO.allN,noN,killO,killT,killD,mkNames,AO.kill,AV.kill,AV.mapN,AV.mapNL];done) | (with_reducible exact ltD (by assumption)) | omega | (simp only [decide_eq_true_eq,decide_eq_false_iff_not] at *;omega)))
  all_goals (try (simp only [List.length_map];omega))
  all_goals first
    | (have hle:leB (ukey.extract 0 (pre.size + n + 1)) after = true:=leB_c (by assumption)
       rw [stO_1 (r:=(⟨ukey.extract 0 (pre.size + n + 1),true,0,false,false,0,0⟩:RowD)) hle]
       refine Wk.keep hcl ?_ ?_ ?_<;>simp [Fr.get,sto]
       done)
    | (have hle:leB (ukey.extract 0 (pre.size + n + 1)) after = false:=leB_c (by assumption)
       have hee:eqR ⟨wk,wc,wi,wm,wl,ws,wt⟩ (⟨ukey.extract 0 (pre.size + n + 1),true,0,false,false,0,0⟩:RowD) = true:=by assumption
       rw [stO_2 (r:=(⟨ukey.extract 0 (pre.size + n + 1),true,0,false,false,0,0⟩:RowD)) hle hlast (by rw [hwr];exact hee)]
       refine Wk.keep hcl ?_ ?_ ?_<;>simp [Fr.get,sto]
       done)
    | (have hle:leB (ukey.extract 0 (pre.size + n + 1)) after = false:=leB_c (by assumption)
       have hee:eqR ⟨wk,wc,wi,wm,wl,ws,wt⟩ (⟨ukey.extract 0 (pre.size + n + 1),true,0,false,false,0,0⟩:RowD) = false:=by assumption
       rw [stO_3 (r:=(⟨ukey.extract 0 (pre.size + n + 1),true,0,false,false,0,0⟩:RowD)) hle hlast (by rw [hwr];exact hee)]
       refine Wk.keep hcl ?_ ?_ ?_<;>simp [Fr.get,sto,RowD.row]
       done)
end Go.Proofs.Ytikgiadbkjmabaa
