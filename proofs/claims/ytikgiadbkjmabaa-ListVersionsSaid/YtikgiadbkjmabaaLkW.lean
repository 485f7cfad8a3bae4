/- list.Versions. -/
import Derived.Test.YtikgiadbkjmabaaLkV
import Derived.Test.YtikgiadbkjmabaaLkK
import Derived.Test.YtikgiadbkjmabaaCallFz
import Derived.Test.YtikgiadbkjmabaaTypes
namespace Go.Proofs.Ytikgiadbkjmabaa
open Go.RowKit
set_option maxRecDepth 100000
def o5_1:List SO:=((SO.mk (some 23) (.call 10 [(.tmp 19),(.tmp 20),(.tmp 21),(.tmp 22)]) none) :: (SO.mk (some 11) (.move (.tmp 23)) none) :: [])
theorem v5_1:type_of% (@swl _ _ o5_1.eq_1):=@swl _ _ o5_1.eq_1
def c5_2:SC:=(.seq (.reg [SO.mk (some 26) (.move (.tmp 11)) none,SO.mk (some 8) (.move (.const (Value.slice none 0 0))) none,SO.mk (some 9) (.move (.const (Value.bool false))) none,SO.mk (some 10) (.move (.tmp 26)) none]) (.keep [8,9,10] .ret))
theorem u5_2:type_of% (@swc _ _ c5_2.eq_1):=@swc _ _ c5_2.eq_1
def c5_3:SC:=(.cond (.tmp 25) c5_2 .skip)
theorem u5_3:type_of% (@swc _ _ c5_3.eq_1):=@swc _ _ c5_3.eq_1
def c5_4:SC:=(.seq (.reg [SO.mk (some 24) (.move (.tmp 11)) none,SO.mk (some 25) (.bin .neq 30 (.tmp 24) (.const (Value.int .i64 0))) none]) (.keep [25,11,4,1,2,3] c5_3))
theorem u5_4:type_of% (@swc _ _ c5_4.eq_1):=@swc _ _ c5_4.eq_1
def o5_5:List SO:=((SO.mk (some 31) (.len 38 (.tmp 30)) none) :: (SO.mk (some 32) (.move (.const (Value.int .i64 0))) none) :: [])
theorem v5_5:type_of% (@swl _ _ o5_5.eq_1):=@swl _ _ o5_5.eq_1
def o5_6:List SO:=((SO.mk (some 15) (.move (.tmp 40)) none) :: (SO.mk none (.store 41 (.tmp 16) (.tmp 42)) none) :: [])
theorem v5_6:type_of% (@swl _ _ o5_6.eq_1):=@swl _ _ o5_6.eq_1
def o5_7:List SO:=((SO.mk (some 47) (.call 12 [(.tmp 44),(.tmp 46)]) none) :: (SO.mk (some 48) (.bslice 29 1 [(0 ,(.tmp 47))]) none) :: (SO.mk (some 49) (.app 29 29 (.tmp 43) (.tmp 48)) none) :: (SO.mk (some 12) (.move (.tmp 49)) none) :: [])
theorem v5_7:type_of% (@swl _ _ o5_7.eq_1):=@swl _ _ o5_7.eq_1
def c5_8:SC:=(.reg ((SO.mk (some 43) (.move (.tmp 12)) none) :: (SO.mk (some 44) (.load 41 (.tmp 16)) none) :: (SO.mk (some 45) (.move (.tmp 15)) none) :: (SO.mk (some 46) (.bin .eql 3 (.tmp 45) (.const (Value.int .i64 0))) none) :: o5_7))
theorem u5_8:type_of% (@swc _ _ c5_8.eq_1):=@swc _ _ c5_8.eq_1
def c5_9:SC:=(.reg [SO.mk (some 50) (.bin .add 3 (.tmp 38) (.const (Value.int .i64 1))) none,SO.mk (some 38) (.move (.tmp 50)) none])
theorem u5_9:type_of% (@swc _ _ c5_9.eq_1):=@swc _ _ c5_9.eq_1
def c5_10:SC:=(.seq (.block 3 (.seq (.reg ((SO.mk (some 40) (.move (.tmp 38)) none) :: (SO.mk (some 41) (.iaddr 23 (.tmp 36) (.tmp 38)) none) :: (SO.mk (some 42) (.load 41 (.tmp 41)) none) :: (SO.mk (some 16) (.alloc 41) none) :: o5_6)) (.keep [12,16,15,38,37,36,32,31,30,3] c5_8))) (.keep [38,37,36,32,31,30,12,3] c5_9))
theorem u5_10:type_of% (@swc _ _ c5_10.eq_1):=@swc _ _ c5_10.eq_1
def c5_11:SC:=(.seq (.cond (.tmp 39) .skip (.exit 2)) (.keep [12,38,37,36,32,31,30,3] c5_10))
theorem u5_11:type_of% (@swc _ _ c5_11.eq_1):=@swc _ _ c5_11.eq_1
def c5_12:SC:=(.seq (.reg [SO.mk (some 39) (.bin .lss 3 (.tmp 38) (.tmp 37)) none]) (.keep [39,36,37,38,32,31,30,12,3] c5_11))
theorem u5_12:type_of% (@swc _ _ c5_12.eq_1):=@swc _ _ c5_12.eq_1
def c5_13:SC:=(.block 2 (.loop (.keep [36,37,38,32,31,30,12,3] c5_12)))
theorem u5_13:type_of% (@swc _ _ c5_13.eq_1):=@swc _ _ c5_13.eq_1
def c5_14:SC:=(.seq (.reg [SO.mk (some 36) (.move (.tmp 14)) none,SO.mk (some 37) (.len 23 (.tmp 36)) none,SO.mk (some 38) (.move (.const (Value.int .i64 0))) none]) (.keep [36,37,38,32,31,30,12,3] c5_13))
theorem u5_14:type_of% (@swc _ _ c5_14.eq_1):=@swc _ _ c5_14.eq_1
def c5_15:SC:=(.reg [SO.mk (some 51) (.bin .add 3 (.tmp 32) (.const (Value.int .i64 1))) none,SO.mk (some 32) (.move (.tmp 51)) none])
theorem u5_15:type_of% (@swc _ _ c5_15.eq_1):=@swc _ _ c5_15.eq_1
def c5_16:SC:=(.seq (.block 1 (.seq (.reg [SO.mk (some 34) (.iaddr 38 (.tmp 30) (.tmp 32)) none,SO.mk (some 35) (.load 23 (.tmp 34)) none,SO.mk (some 14) (.move (.tmp 35)) none]) (.keep [14,32,31,30,12,3] c5_14))) (.keep [32,31,30,12,3] c5_15))
theorem u5_16:type_of% (@swc _ _ c5_16.eq_1):=@swc _ _ c5_16.eq_1
def c5_17:SC:=(.seq (.cond (.tmp 33) .skip (.exit 0)) (.keep [32,31,30,12,3] c5_16))
theorem u5_17:type_of% (@swc _ _ c5_17.eq_1):=@swc _ _ c5_17.eq_1
def c5_18:SC:=(.seq (.reg [SO.mk (some 33) (.bin .lss 3 (.tmp 32) (.tmp 31)) none]) (.keep [33,30,31,32,12,3] c5_17))
theorem u5_18:type_of% (@swc _ _ c5_18.eq_1):=@swc _ _ c5_18.eq_1
def c5_19:SC:=(.block 0 (.loop (.keep [30,31,32,12,3] c5_18)))
theorem u5_19:type_of% (@swc _ _ c5_19.eq_1):=@swc _ _ c5_19.eq_1
def o5_20:List SO:=((SO.mk (some 56) (.extract (.tmp 52) 0) none) :: (SO.mk (some 57) (.extract (.tmp 52) 1) none) :: (SO.mk (some 17) (.move (.tmp 56)) none) :: (SO.mk (some 18) (.move (.tmp 57)) none) :: [])
theorem v5_20:type_of% (@swl _ _ o5_20.eq_1):=@swl _ _ o5_20.eq_1
def c5_21:SC:=(.seq (.reg [SO.mk (some 58) (.move (.tmp 17)) none,SO.mk (some 59) (.move (.tmp 18)) none,SO.mk (some 8) (.move (.tmp 58)) none,SO.mk (some 9) (.move (.tmp 59)) none,SO.mk (some 10) (.move (.const (Value.int .i64 0))) none]) (.keep [8,9,10] .ret))
theorem u5_21:type_of% (@swc _ _ c5_21.eq_1):=@swc _ _ c5_21.eq_1
def c5_22:SC:=(.seq (.reg ((SO.mk (some 53) (.move (.tmp 12)) none) :: (SO.mk (some 54) (.move (.tmp 3)) none) :: (SO.mk (some 55) (.call 13 [(.tmp 53),(.tmp 54)]) none) :: (SO.mk (some 52) (.move (.tmp 55)) none) :: o5_20)) (.keep [17,18] c5_21))
theorem u5_22:type_of% (@swc _ _ c5_22.eq_1):=@swc _ _ c5_22.eq_1
def c5_23:SC:=(.seq (.seq (.reg ((SO.mk (some 27) (.load 28 (.tmp 4)) none) :: (SO.mk (some 28) (.move (.tmp 1)) none) :: (SO.mk (some 29) (.move (.tmp 2)) none) :: (SO.mk (some 30) (.call 11 [(.tmp 27),(.tmp 28),(.tmp 29)]) none) :: o5_5)) (.keep [30,31,32,12,3] c5_19)) (.keep [12,3] c5_22))
theorem u5_23:type_of% (@swc _ _ c5_23.eq_1):=@swc _ _ c5_23.eq_1
def c5_24:SC:=(.seq (.reg [SO.mk (some 12) (.move (.const (Value.slice none 0 0))) none]) (.keep [4,1,2,12,3] c5_23))
theorem u5_24:type_of% (@swc _ _ c5_24.eq_1):=@swc _ _ c5_24.eq_1
def c5_25:SC:=(.seq (.seq (.reg ((SO.mk (some 19) (.load 28 (.tmp 4)) none) :: (SO.mk (some 20) (.move (.tmp 1)) none) :: (SO.mk (some 21) (.move (.tmp 2)) none) :: (SO.mk (some 22) (.move (.tmp 3)) none) :: o5_1)) (.keep [11,4,1,2,3] c5_4)) (.keep [4,1,2,3] c5_24))
theorem u5_25:type_of% (@swc _ _ c5_25.eq_1):=@swc _ _ c5_25.eq_1
def c5:SC:=(.seq (.reg [SO.mk (some 4) (.box 28 (.tmp 0)) none,SO.mk (some 8) (.move (.const (Value.slice none 0 0))) none,SO.mk (some 9) (.move (.const (Value.bool false))) none,SO.mk (some 10) (.move (.const (Value.int .i64 0))) none]) (.keep [4,1,2,3] c5_25))
theorem c5_eq:annC Try.f5 = some c5:=by kernel_rfl
theorem r5:Try.f5.results.toList = [.tmp 8,.tmp 9,.tmp 10]:=by kernel_rfl
theorem e5:enters Try.prog 5 = true:=by kernel_rfl
end Go.Proofs.Ytikgiadbkjmabaa
namespace Go.Proofs.Ytikgiadbkjmabaa
open Go.RowKit
set_option maxHeartbeats 4000000
set_option maxRecDepth 20000
attribute [local irreducible] SW OSW SWL SWLn SWD SEcall SEcallv SDv SE SO1 SOg ACalls ACallv Wk EndV
set_option linter.unusedSimpArgs false
set_option linter.unusedVariables false
def gR (g:List VerD) (j:Nat):List RowD:=(List.range j).map fun i=>rowD g[i]! (i == 0)
def flR (G:List (List VerD)):List RowD:=G.flatMap fun g=>gR g g.length
theorem flR_0:flR [] = []:=rfl
theorem gR_0 (g:List VerD):gR g 0 = []:=rfl
theorem gR_len (g:List VerD) (j:Nat):(gR g j).length = j:=by simp [gR]
theorem gR_s (g:List VerD) (j:Nat):gR g (j + 1) = gR g j ++ [rowD g[j]! (j == 0)]:=by simp [gR,List.range_succ]
theorem gR_app (g:List VerD) (v:VerD):gR (g ++ [v]) (g.length + 1) = gR g g.length ++ [rowD v (g.length == 0)]:=by
  rw [gR_s]
  congr 1
  · unfold gR
    apply List.map_congr_left
    intro i hi
    have:=List.mem_range.1 hi
    simp [List.getElem!_eq_getElem?_getD,List.getElem?_append_left this]
  · simp
theorem gP_ne (l:List VerD):∀ k,0 < k → (gP l k).2 ≠ []
  | 0,h=>absurd h (Nat.lt_irrefl _)
  | k + 1,_=>by
    cases h:sameK l k
    · rw [gP_n h];simp
    · rw [gP_s h];simp
theorem fl_rV (l:List VerD):∀ k,k ≤ l.length → flR (gA l k) = rV l k
  | 0,_=>rfl
  | k + 1,hk=>by
    have ih:=fl_rV l k (by omega)
    rw [gA_1,rV_s,← ih]
    cases h:sameK l k
    · rw [gP_n h]
      have hl:latB l k = true:=by
        unfold latB
        rcases Nat.eq_zero_or_pos k with rfl | h0
        · rfl
        · rw [same_no h h0 (by omega)];simp
      simp [flR,gR,hl]
    · rw [gP_s h]
      obtain ⟨h0,h1,h2⟩:=same_pos h
      have hl:latB l k = false:=by
        unfold latB
        rw [h2];simp;omega
      obtain ⟨j,rfl⟩:∃ j,k = j + 1:=⟨k - 1,by omega⟩
      have hne:=gP_ne l (j + 1) (by omega)
      rw [gA_1]
      simp only [flR,List.flatMap_append,List.flatMap_cons,List.flatMap_nil,List.append_nil,List.length_append,List.length_cons,List.length_nil,Nat.zero_add,gR_app,hl,List.append_assoc]
      have:((gP l (j + 1)).2.length == 0) = false:=by
        cases hg:(gP l (j + 1)).2 with
        | nil=>exact absurd hg hne
        | cons=>rfl
      rw [this]
theorem fl_take (G:List (List VerD)) (k:Nat) (h:k < G.length):flR (G.take (k + 1)) = flR (G.take k) ++ gR G[k]! (G[k]!).length:=by
  unfold flR
  rw [take_next h];simp
theorem fl_le (G:List (List VerD)) (k:Nat):(flR (G.take k)).length ≤ (flR G).length:=by
  have:flR G = flR (G.take k) ++ flR (G.drop k):=by unfold flR;rw [← List.flatMap_append,List.take_append_drop]
  rw [this];simp
theorem fl_in (G:List (List VerD)) (k j:Nat) (h:k < G.length) (hj:j ≤ (G[k]!).length):(flR (G.take k)).length + j ≤ (flR G).length:=by
  have:=fl_le G (k + 1)
  rw [fl_take G k h] at this
  simp only [List.length_append,gR_len] at this
  omega
theorem takeG (X:List (List VerD)) (g:List VerD) (j:Nat):List.take ((flR X).length + j) (List.map RowD.row (flR X) ++ List.map RowD.row (gR g j)) = List.map RowD.row (flR X) ++ List.map RowD.row (gR g j):=List.take_of_length_le (by simp [gR_len])
theorem listVersions_p (s:SttD) (hc:Pure Try.prog 18 [s.av] (I (bif mayF s then 0 else 9))) (hw:s.vers.length * 120 ≤ 2 ^ 47) (hup:mayF s = true → s.vers.Pairwise (fun a b=>a.id < b.id)) (name pre:ByteArray) (most:Int) :
    Pure Try.prog 5 [s.av,.d (.v (.string name)),.d (.v (.string pre)),I most] (pgV (listF s name pre most) (rV (oK s.vers name pre s.vers.length) (oK s.vers name pre s.vers.length).length) most):=by
  refine pureZ_of follows Try.func5 c5_eq r5 (Nat.le_of_ble_eq_true rfl) fun B σ hcl hsz=>?_
  clear hsz
  have h1:=listChk_p s hc name pre most
  have h3:=oK_all s name pre
  have h4:=@listF_most s name pre most
  have hm:listF s name pre most = 0 → mayF s = true:=fun h=>by
    cases hb:mayF s
    · unfold listF at h;rw [hb] at h;cases h
    · rfl
  have h2:listF s name pre most = 0 → Pure Try.prog 11 [s.av,.d (.v (.string name)),.d (.v (.string pre))] (.d (.ro ((gA (oK s.vers name pre s.vers.length) (oK s.vers name pre s.vers.length).length).map gRow))):=fun h=>by
    have hk:keptV s name pre = (s.vers.take s.vers.length).filter fun v=>!skipV name pre v:=by rw [List.take_length];rfl
    have ho:=srtR_ok (keptV s name pre) ((hup (hm h)).filter _)
    rw [hk] at ho
    exact keys_p s hw name pre _ (by rw [hk];exact ho.1) ho.2
  have h5:=fl_rV (oK s.vers name pre s.vers.length) _ (Nat.le_refl _)
  generalize listF s name pre most = e at h1 h2 h4 hm ⊢
  generalize oK s.vers name pre s.vers.length = l at h2 h3 h5 ⊢
  have h7:=(gP_len l l.length).2.2
  generalize gA l l.length = G at h2 h5 h7
  have h6:(flR G).length ≤ s.vers.length:=by rw [h5,rV_len];exact h3
  rw [← h5]
  unfold pgV
  cases he:(e == 0)
  · have he':(e != 0) = true:=by simp only [bne,he,Bool.not_false]
    repeat' (first | (simp -implicitDefEqProofs only [*,Nat.reduceBEq,↓reduceIte,Nat.reduceEqDiff,Nat.reduceAdd,reduceCtorEq,Int.reduceLT,Int.reduceToNat,List.getElem?_nil,Nat.reduceMul,Nat.reducePow,Nat.reduceLeDiff,rowOf_mapD,rowOf_mapI,rowOf_mapA,List.getElem?_cons_zero,List.getElem?_cons_succ,take_map_len,take_map_app,List.getElem?_cons_zero,c5,r5,v5_1,u5_2,u5_3,u5_4,v5_5,v5_6,v5_7,u5_8,u5_9,u5_10,u5_11,u5_12,u5_13,u5_14,u5_15,u5_16,u5_17,u5_18,u5_19,v5_20,u5_21,u5_22,u5_23,u5_24,u5_25,ty28,ty30,ty38,ty3,ty23,ty41,ty29,ty43,SttD.av,SttD.cells,ints,mvcgen_simp]) | (with_reducible refine And.intro ?_ ?_) | (refine call_ro e10 ( h1) rfl ?_ ?_ ?_ ?_) | (refine gcall_ro e10 ( h1) rfl ?_ ?_ ?_ ?_) | (refine dcall_ro e10 ( h1) rfl ?_ ?_ ?_ ?_) | (refine gdcall_ro rfl e10 ( h1) rfl ?_ ?_ ?_ ?_) | (refine EndX.plain ?_) | (refine nil_split (fun hn=>?_) (fun hn=>?_)) | (refine gcall_no not_false ?_) | (refine gdcall_no not_false ?_) | (refine GuardS_of _ _ _ _ _ _ (fun hg=>?_) (fun hg=>?_)) | (refine GuardD_of _ _ _ _ (fun hg=>?_) (fun hg=>?_)) | (refine CondB_of _ _ _ _ _ _ _ ?_ (fun hg=>?_) (fun hg=>?_)))
    all_goals (try (first | ((first | unfold noN | unfold Fr.below | unfold Loc.below);simp [Fr.allN,AV.allN,AV.allNL,AO.allN];done) | rfl | trivial | assumption | (intro row hrow;simp only [List.mem_map] at hrow;obtain ⟨x,_,rfl⟩:=hrow;rfl) | (refine Wk.keep hcl ?_ ?_ ?_;(focus (simp [Fr.get,SttD.av,SttD.cells,ints]<;>fail));(focus (simp [sto,SttD.av,SttD.cells,ints]<;>fail));(focus (simp<;>fail))) | (simp [allP,opd,Fr.get,Fr.below,Fr.allN,AV.allN,AV.allNL,Loc.below,AO.allN,noN,killO,killT,killD,mkNames,AO.kill,AV.kill,AV.mapN,AV.mapNL];done) | (with_reducible exact ltD (by assumption)) | omega | (simp only [decide_eq_true_eq,decide_eq_false_iff_not] at *;omega)))
  have he':(e != 0) = false:=by simp only [bne,he,Bool.not_true]
  obtain rfl:e = 0:=eq_of_beq he
  obtain ⟨m1,m2⟩:=h4 rfl
  have h2:=h2 rfl
  repeat' (first | (simp -implicitDefEqProofs only [*,Nat.reduceBEq,↓reduceIte,Nat.reduceEqDiff,Nat.reduceAdd,reduceCtorEq,Int.reduceLT,Int.reduceToNat,List.getElem?_nil,Nat.reduceMul,Nat.reducePow,Nat.reduceLeDiff,rowOf_mapD,rowOf_mapI,rowOf_mapA,List.getElem?_cons_zero,List.getElem?_cons_succ,take_map_len,take_map_app,List.getElem?_cons_zero,c5,r5,v5_1,u5_2,u5_3,u5_4,v5_5,v5_6,v5_7,u5_8,u5_9,u5_10,u5_11,u5_12,u5_13,u5_14,u5_15,u5_16,u5_17,u5_18,u5_19,v5_20,u5_21,u5_22,u5_23,u5_24,u5_25,ty28,ty30,ty38,ty3,ty23,ty41,ty29,ty43,SttD.av,SttD.cells,VerD.row,RowD.row,rowD,ints,gRow,flR_0,gR_0,takeG,gR_len,mvcgen_simp]) | (with_reducible refine And.intro ?_ ?_) | (refine call_ro e10 ( h1) rfl ?_ ?_ ?_ ?_) | (refine gcall_ro e10 ( h1) rfl ?_ ?_ ?_ ?_) | (refine dcall_ro e10 ( h1) rfl ?_ ?_ ?_ ?_) | (refine gdcall_ro rfl e10 ( h1) rfl ?_ ?_ ?_ ?_) | (refine call_ro e11 ( h2) rfl ?_ ?_ ?_ ?_) | (refine gcall_ro e11 ( h2) rfl ?_ ?_ ?_ ?_) | (refine dcall_ro e11 ( h2) rfl ?_ ?_ ?_ ?_) | (refine gdcall_ro rfl e11 ( h2) rfl ?_ ?_ ?_ ?_) | (refine call_ro e12 ( listRow_p (G[k]!)[j]! ((j:Int) == 0)) rfl ?_ ?_ ?_ ?_) | (refine gcall_ro e12 ( listRow_p (G[k]!)[j]! ((j:Int) == 0)) rfl ?_ ?_ ?_ ?_) | (refine dcall_ro e12 ( listRow_p (G[k]!)[j]! ((j:Int) == 0)) rfl ?_ ?_ ?_ ?_) | (refine gdcall_ro rfl e12 ( listRow_p (G[k]!)[j]! ((j:Int) == 0)) rfl ?_ ?_ ?_ ?_) | (refine call_fz (m:=B + 12) (k:=7) (E:=43) (rows:=(flR (G.take k)).map RowD.row) hcl (by omega) (by simp [sto]) e13 (page_p (flR (G.take k)) most m1) (by simp [opd,Fr.get,Fr.map,AV.fz1,AV.mapN,AV.mapNL,take_map_len]) ?_ ?_ ?_ ?_) | (refine loop_nat (G.length) (fun _=>True) (fun k=>[(30,.d (.ro (G.map gRow))),(31,I G.length),(32,I k),(12,.os (B + 12) (flR (G.take k)).length),(3,I most)]) (fun k=>[(B + 12,.arr 7 43 ((flR (G.take k)).map RowD.row))]) ?_ (Wk.trans (Wk.nameF (s:=12) (n:=B + 12) (k:=7) (E:=43) rfl (by omega) (.inl (by omega)) (fun m=>AO.kill_below (q:=fun m=>decide (m < B)) (by simp) _ (hcl m).1)) (Wk.keep hcl ?_ ?_ ?_)) fun k hk hF=>?_;rotate_left 1;(focus (simp [Fr.get,newF,Fr.map,AV.kill,AV.mapN,SttD.av,SttD.cells,VerD.row,RowD.row,rowD,ints,gRow,flR_0,gR_0,takeG,gR_len]<;>fail));(focus (simp [sto,newL,Loc.kill,Loc.set,AO.kill,AV.kill,AV.mapN,SttD.av,SttD.cells,VerD.row,RowD.row,rowD,ints,gRow,flR_0,gR_0,takeG,gR_len]<;>fail));(focus (simp [newL,Loc.kill,Loc.set,SttD.av,SttD.cells,VerD.row,RowD.row,rowD,ints,gRow,flR_0,gR_0,takeG,gR_len]<;>fail));(try have hw:IntKind.i64.wrap ((k:Int) + 1) = (k:Int) + 1:=IntWalk.i64_in _ (by omega))) | (refine loop_nat ((G[k]!).length) (fun _=>True) (fun j=>[(36,.d (.ro ((G[k]!).map VerD.row))),(37,I (G[k]!).length),(38,I j),(32,I k),(31,I G.length),(30,.d (.ro (G.map gRow))),(12,.os (B + 12) ((flR (G.take k)).length + j)),(3,I most)]) (fun j=>[(B + 12,.arr 7 43 ((flR (G.take k) ++ gR G[k]! j).map RowD.row))]) ?_ (Wk.keep hcl ?_ ?_ ?_) fun j hj hFj=>?_;rotate_left 1;(focus (simp [Fr.get,newF,Fr.map,AV.kill,AV.mapN,SttD.av,SttD.cells,VerD.row,RowD.row,rowD,ints,gRow,flR_0,gR_0,takeG,gR_len]<;>fail));(focus (simp [sto,newL,Loc.kill,Loc.set,AO.kill,AV.kill,AV.mapN,SttD.av,SttD.cells,VerD.row,RowD.row,rowD,ints,gRow,flR_0,gR_0,takeG,gR_len]<;>fail));(focus (simp [newL,Loc.kill,Loc.set,SttD.av,SttD.cells,VerD.row,RowD.row,rowD,ints,gRow,flR_0,gR_0,takeG,gR_len]<;>fail));(try have hwj:IntKind.i64.wrap ((j:Int) + 1) = (j:Int) + 1:=IntWalk.i64_in _ (by omega))) | (refine EndX.plain ?_) | (refine nil_split (fun hn=>?_) (fun hn=>?_)) | (refine gcall_no not_false ?_) | (refine gdcall_no not_false ?_) | (refine GuardS_of _ _ _ _ _ _ (fun hg=>?_) (fun hg=>?_)) | (refine GuardD_of _ _ _ _ (fun hg=>?_) (fun hg=>?_)) | (refine CondB_of _ _ _ _ _ _ _ ?_ (fun hg=>?_) (fun hg=>?_)))
  all_goals (try (first | ((first | unfold noN | unfold Fr.below | unfold Loc.below);simp [Fr.allN,AV.allN,AV.allNL,AO.allN];done) | rfl | trivial | assumption | (intro row hrow;simp only [List.mem_map] at hrow;obtain ⟨x,_,rfl⟩:=hrow;rfl) | (refine Wk.keep hcl ?_ ?_ ?_;(focus (simp [Fr.get,SttD.av,SttD.cells,VerD.row,RowD.row,rowD,ints,gRow,flR_0,gR_0,takeG,gR_len]<;>fail));(focus (simp [sto,SttD.av,SttD.cells,VerD.row,RowD.row,rowD,ints,gRow,flR_0,gR_0,takeG,gR_len]<;>fail));(focus (simp<;>fail))) | (simp [allP,opd,Fr.get,Fr.below,Fr.allN,AV.allN,AV.allNL,Loc.below,AO.allN,noN,killO,killT,killD,mkNames,AO.kill,AV.kill,AV.mapN,AV.mapNL];done) | (with_reducible exact ltD (by assumption)) | omega | (simp only [decide_eq_true_eq,decide_eq_false_iff_not] at *;omega)))
  all_goals (try (
    have hk':k = G.length:=Nat.le_antisymm hk (geD (by assumption))
    rw [hk',List.take_length,h5];done))
  all_goals (have hk':k < G.length:=ltD (by assumption))
  all_goals (try (have hj':j < (G[k]!).length:=ltD (by assumption)))
  all_goals (try (have hjj:j = (G[k]!).length:=Nat.le_antisymm hj (geD (by assumption))))
  all_goals (try (have hin:=fl_in G k (j + 1) hk' hj'))
  all_goals (try (simp only [List.length_append,List.length_map,gR_len];omega))
  all_goals (try omega)
  all_goals (try (
    have hwj:IntKind.i64.wrap ((j:Int) + 1) = ((j + 1:Nat):Int):=(IntWalk.i64_in _ (by omega)).trans (by omega)
    have hz:((j:Int) == 0) = (j == 0):=by rw [Bool.eq_iff_iff,beq_iff_eq,beq_iff_eq];omega
    rw [hwj,hz,gR_s]
    refine Wk.keep hcl ?_ ?_ ?_<;>simp [Fr.get,sto,RowD.row,rowD,gR_len,Nat.add_assoc]
    done))
  all_goals (try (
    rw [fl_take G k hk',← hjj]
    refine Wk.keep hcl ?_ ?_ ?_<;>simp [Fr.get,sto,gR_len]
    done))
end Go.Proofs.Ytikgiadbkjmabaa
