/- slices.IndexFunc and slices.DeleteFunc of versions,in one's own memory. -/
import Derived.Test.YtikgiadbkjmabaaLkA
import Derived.Test.YtikgiadbkjmabaaIdx
import Derived.Test.YtikgiadbkjmabaaNm
import Derived.Test.YtikgiadbkjmabaaNz
import Derived.Test.YtikgiadbkjmabaaTypes
namespace Go.Proofs.Ytikgiadbkjmabaa
open Go.RowKit
set_option maxRecDepth 100000
def o43_1:List SO:=((SO.mk (some 15) (.load 41 (.tmp 14)) none) :: (SO.mk (some 16) (.callv (.tmp 11) [(.tmp 15)]) none) :: [])
theorem v43_1:type_of% (@swl _ _ o43_1.eq_1):=@swl _ _ o43_1.eq_1
def c43_2:SC:=(.seq (.reg [SO.mk (some 17) (.move (.tmp 5)) none,SO.mk (some 4) (.move (.tmp 17)) none]) (.keep [4] .ret))
theorem u43_2:type_of% (@swc _ _ c43_2.eq_1):=@swc _ _ c43_2.eq_1
def c43_3:SC:=(.cond (.tmp 16) c43_2 .skip)
theorem u43_3:type_of% (@swc _ _ c43_3.eq_1):=@swc _ _ c43_3.eq_1
def c43_4:SC:=(.seq (.reg ((SO.mk (some 11) (.move (.tmp 1)) none) :: (SO.mk (some 12) (.move (.tmp 0)) none) :: (SO.mk (some 13) (.move (.tmp 5)) none) :: (SO.mk (some 14) (.iaddr 23 (.tmp 12) (.tmp 13)) none) :: o43_1)) (.keep [16,5,8,7,0,1] c43_3))
theorem u43_4:type_of% (@swc _ _ c43_4.eq_1):=@swc _ _ c43_4.eq_1
def c43_5:SC:=(.reg [SO.mk (some 18) (.bin .add 3 (.tmp 8) (.const (Value.int .i64 1))) none,SO.mk (some 8) (.move (.tmp 18)) none])
theorem u43_5:type_of% (@swc _ _ c43_5.eq_1):=@swc _ _ c43_5.eq_1
def c43_6:SC:=(.seq (.block 1 (.seq (.reg [SO.mk (some 10) (.move (.tmp 8)) none,SO.mk (some 5) (.move (.tmp 10)) none]) (.keep [5,8,7,0,1] c43_4))) (.keep [8,7,0,1] c43_5))
theorem u43_6:type_of% (@swc _ _ c43_6.eq_1):=@swc _ _ c43_6.eq_1
def c43_7:SC:=(.seq (.cond (.tmp 9) .skip (.exit 0)) (.keep [8,7,0,1] c43_6))
theorem u43_7:type_of% (@swc _ _ c43_7.eq_1):=@swc _ _ c43_7.eq_1
def c43_8:SC:=(.seq (.reg [SO.mk (some 9) (.bin .lss 3 (.tmp 8) (.tmp 7)) none]) (.keep [9,1,0,7,8] c43_7))
theorem u43_8:type_of% (@swc _ _ c43_8.eq_1):=@swc _ _ c43_8.eq_1
def c43_9:SC:=(.block 0 (.loop (.keep [1,0,7,8] c43_8)))
theorem u43_9:type_of% (@swc _ _ c43_9.eq_1):=@swc _ _ c43_9.eq_1
def c43_10:SC:=(.seq (.reg [SO.mk (some 4) (.move (.const (Value.int .i64 (-1)))) none]) (.keep [4] .ret))
theorem u43_10:type_of% (@swc _ _ c43_10.eq_1):=@swc _ _ c43_10.eq_1
def c43_11:SC:=(.seq (.seq (.reg [SO.mk (some 6) (.move (.tmp 0)) none,SO.mk (some 7) (.len 23 (.tmp 6)) none,SO.mk (some 8) (.move (.const (Value.int .i64 0))) none]) (.keep [1,0,7,8] c43_9)) (.keep [] c43_10))
theorem u43_11:type_of% (@swc _ _ c43_11.eq_1):=@swc _ _ c43_11.eq_1
def c43:SC:=(.seq (.reg [SO.mk (some 4) (.move (.const (Value.int .i64 0))) none]) (.keep [1,0] c43_11))
theorem c43_eq:annC Try.f43 = some c43:=by kernel_rfl
theorem r43:Try.f43.results.toList = [.tmp 4]:=by kernel_rfl
theorem e43:enters Try.prog 43 = true:=by kernel_rfl
def c22_1:SC:=(.seq (.reg [SO.mk (some 13) (.move (.tmp 0)) none,SO.mk (some 4) (.move (.tmp 13)) none]) (.keep [4] .ret))
theorem u22_1:type_of% (@swc _ _ c22_1.eq_1):=@swc _ _ c22_1.eq_1
def c22_2:SC:=(.cond (.tmp 12) c22_1 .skip)
theorem u22_2:type_of% (@swc _ _ c22_2.eq_1):=@swc _ _ c22_2.eq_1
def c22_3:SC:=(.cond (.tmp 19) .skip (.exit 0))
theorem u22_3:type_of% (@swc _ _ c22_3.eq_1):=@swc _ _ c22_3.eq_1
def o22_4:List SO:=((SO.mk (some 7) (.alloc 41) none) :: (SO.mk none (.store 41 (.tmp 7) (.tmp 25)) none) :: [])
theorem v22_4:type_of% (@swl _ _ o22_4.eq_1):=@swl _ _ o22_4.eq_1
def c22_5:SC:=(.reg [SO.mk (some 34) (.move (.tmp 5)) none,SO.mk (some 35) (.bin .add 3 (.tmp 34) (.const (Value.int .i64 1))) none,SO.mk (some 5) (.move (.tmp 35)) none])
theorem u22_5:type_of% (@swc _ _ c22_5.eq_1):=@swc _ _ c22_5.eq_1
def c22_6:SC:=(.seq (.reg [SO.mk (some 30) (.move (.tmp 0)) none,SO.mk (some 31) (.move (.tmp 5)) none,SO.mk (some 32) (.load 41 (.tmp 7)) none,SO.mk (some 33) (.iaddr 23 (.tmp 30) (.tmp 31)) none,SO.mk none (.store 41 (.tmp 33) (.tmp 32)) none]) (.keep [5,6,1,0] c22_5))
theorem u22_6:type_of% (@swc _ _ c22_6.eq_1):=@swc _ _ c22_6.eq_1
def c22_7:SC:=(.cond (.tmp 29) c22_6 .skip)
theorem u22_7:type_of% (@swc _ _ c22_7.eq_1):=@swc _ _ c22_7.eq_1
def c22_8:SC:=(.seq (.reg [SO.mk (some 26) (.move (.tmp 1)) none,SO.mk (some 27) (.load 41 (.tmp 7)) none,SO.mk (some 28) (.callv (.tmp 26) [(.tmp 27)]) none,SO.mk (some 29) (.un .not (.tmp 28)) none]) (.keep [29,7,6,1,0,5] c22_7))
theorem u22_8:type_of% (@swc _ _ c22_8.eq_1):=@swc _ _ c22_8.eq_1
def c22_9:SC:=(.reg [SO.mk (some 20) (.move (.tmp 6)) none,SO.mk (some 21) (.bin .add 3 (.tmp 20) (.const (Value.int .i64 1))) none,SO.mk (some 6) (.move (.tmp 21)) none])
theorem u22_9:type_of% (@swc _ _ c22_9.eq_1):=@swc _ _ c22_9.eq_1
def c22_10:SC:=(.seq (.block 1 (.seq (.reg ((SO.mk (some 22) (.move (.tmp 0)) none) :: (SO.mk (some 23) (.move (.tmp 6)) none) :: (SO.mk (some 24) (.iaddr 23 (.tmp 22) (.tmp 23)) none) :: (SO.mk (some 25) (.load 41 (.tmp 24)) none) :: o22_4)) (.keep [7,6,1,0,5] c22_8))) (.keep [6,1,0,5] c22_9))
theorem u22_10:type_of% (@swc _ _ c22_10.eq_1):=@swc _ _ c22_10.eq_1
def c22_11:SC:=(.seq (.seq (.reg [SO.mk (some 16) (.move (.tmp 6)) none,SO.mk (some 17) (.move (.tmp 0)) none,SO.mk (some 18) (.len 23 (.tmp 17)) none,SO.mk (some 19) (.bin .lss 3 (.tmp 16) (.tmp 18)) none]) (.keep [19,1,6,0,5] c22_3)) (.keep [6,1,0,5] c22_10))
theorem u22_11:type_of% (@swc _ _ c22_11.eq_1):=@swc _ _ c22_11.eq_1
def c22_12:SC:=(.block 0 (.loop (.keep [1,6,0,5] c22_11)))
theorem u22_12:type_of% (@swc _ _ c22_12.eq_1):=@swc _ _ c22_12.eq_1
def c22_13:SC:=(.seq (.reg [SO.mk (some 39) (.move (.tmp 0)) none,SO.mk (some 40) (.move (.tmp 5)) none,SO.mk (some 41) (.slice 23 (.tmp 39) none (some (.tmp 40))) none,SO.mk (some 4) (.move (.tmp 41)) none]) (.keep [4] .ret))
theorem u22_13:type_of% (@swc _ _ c22_13.eq_1):=@swc _ _ c22_13.eq_1
def c22_14:SC:=(.seq (.reg [SO.mk (some 36) (.move (.tmp 0)) none,SO.mk (some 37) (.move (.tmp 5)) none,SO.mk (some 38) (.slice 23 (.tmp 36) (some (.tmp 37)) none) none,SO.mk none (.clr 23 (.tmp 38)) none]) (.keep [0,5] c22_13))
theorem u22_14:type_of% (@swc _ _ c22_14.eq_1):=@swc _ _ c22_14.eq_1
def c22_15:SC:=(.seq (.seq (.reg [SO.mk (some 14) (.move (.tmp 5)) none,SO.mk (some 15) (.bin .add 3 (.tmp 14) (.const (Value.int .i64 1))) none,SO.mk (some 6) (.move (.tmp 15)) none]) (.keep [1,6,0,5] c22_12)) (.keep [0,5] c22_14))
theorem u22_15:type_of% (@swc _ _ c22_15.eq_1):=@swc _ _ c22_15.eq_1
def c22_16:SC:=(.seq (.seq (.reg [SO.mk (some 11) (.move (.tmp 5)) none,SO.mk (some 12) (.bin .eql 3 (.tmp 11) (.const (Value.int .i64 (-1)))) none]) (.keep [12,1,0,5] c22_2)) (.keep [1,0,5] c22_15))
theorem u22_16:type_of% (@swc _ _ c22_16.eq_1):=@swc _ _ c22_16.eq_1
def c22_17:SC:=(.seq (.reg [SO.mk (some 8) (.move (.tmp 0)) none,SO.mk (some 9) (.move (.tmp 1)) none,SO.mk (some 10) (.call 43 [(.tmp 8),(.tmp 9)]) none,SO.mk (some 5) (.move (.tmp 10)) none]) (.keep [1,0,5] c22_16))
theorem u22_17:type_of% (@swc _ _ c22_17.eq_1):=@swc _ _ c22_17.eq_1
def c22:SC:=(.seq (.reg [SO.mk (some 4) (.move (.const (Value.slice none 0 0))) none]) (.keep [1,0] c22_17))
theorem c22_eq:annC Try.f22 = some c22:=by kernel_rfl
theorem r22:Try.f22.results.toList = [.tmp 4]:=by kernel_rfl
theorem e22:enters Try.prog 22 = true:=by kernel_rfl
end Go.Proofs.Ytikgiadbkjmabaa
namespace Go.Proofs.Ytikgiadbkjmabaa
open Go.RowKit
set_option maxHeartbeats 4000000
set_option maxRecDepth 20000
attribute [local irreducible] SW OSW SWL SWLn SWD SEcall SEcallv SDv SE SO1 SOg ACalls ACallv Wk EndV
set_option linter.unusedSimpArgs false
set_option linter.unusedVariables false
structure Cap (m B:Nat) (D:Sto → Prop) (ca:List AV):Prop where
  low:AV.allNL (fun x=>decide (x < B)) ca = true
  up:∀ (σ:Sto) (l:Loc),(∀ p ∈ l,p.1 = m ∨ B ≤ p.1) → D σ → D (sto l σ)
theorem Cap.low' {m B:Nat} {D:Sto → Prop} {ca:List AV} (h:Cap m B D ca):AV.allNL (fun x=>decide (x < B + 100000)) ca = true :=
  AV.allNL_iff.2 fun c hc=>AV.allN_mono (fun n (hn:decide (n < B) = true)=>by simp only [decide_eq_true_eq] at hn ⊢;omega) c (AV.allNL_iff.1 h.low c hc)
theorem Cap.kill {m B:Nat} {D:Sto → Prop} {ca:List AV} (h:Cap m B D ca) (s:Nat):AV.mapNL (fun m l=>if m = B + s then AV.any else AV.os m l) (fun m o=>if m = B + s then AV.any else AV.lp m o) (fun m k i j=>if m = B + s then AV.any else AV.ap m k i j) ca = ca :=
  AV.killL_below (q:=fun x=>decide (x < B)) (by simp) ca h.low
def zV:List RV:=[.v (.int .i64 0),.v (.string ⟨#[]⟩),.v (.string ⟨#[]⟩),.v (.bool false),.v (.bool false),.v (.int .i64 0),.v (.int .i64 0),.v (.int .i64 0),.ro [],.v (.int .i64 0),.v (.int .i64 0),.v (.int .i64 0)]
theorem indexV_own (xs:List VerD) (m:Nat) (g:FuncId) (ca:List AV) (p:VerD → Bool) (D:Sto → Prop) (B:Nat) (σ:Sto) (hlen:xs.length ≤ 2 ^ 47) (hmB:m < B) (hm:σ m = .arr 12 41 (xs.map VerD.row)) (hD:D σ) (hcap:Cap m B D ca) (hf:∀ v:VerD,PurevC D Try.prog (.clo (.func g) [] ca) [.agg (v.row.map .d)] (Bo (p v))) :
    ACalls Try.prog 43 [.os m xs.length,.clo (.func g) [] ca] σ B [] (fun v' σ'=>v' = I (idxI xs p) ∧ σ' = σ):=by
  refine own_of follows Try.func43 c43_eq r43 (Nat.le_of_ble_eq_true rfl) fun hcl hsz=>?_
  clear hsz
  have hca:=hcap.low'
  have y1:=nbF hmB
  have y4:=nbF' hmB
  have g1:decide (m < B + 100000) = true:=by simp;omega
  repeat' (first | (simp -implicitDefEqProofs only [*,Nat.reduceBEq,↓reduceIte,Nat.reduceEqDiff,Nat.reduceAdd,reduceCtorEq,AO.kill,Int.reduceLT,Int.reduceToNat,List.getElem?_nil,Nat.reduceMul,Nat.reducePow,Nat.reduceLeDiff,rowOf_mapD,rowOf_mapI,rowOf_mapA,List.getElem?_cons_zero,List.getElem?_cons_succ,take_map_len,take_map_app,List.getElem?_cons_zero,c43,r43,v43_1,u43_2,u43_3,u43_4,u43_5,u43_6,u43_7,u43_8,u43_9,u43_10,u43_11,ty23,ty3,ty41,y1,y4,hm,VerD.row,mvcgen_simp]) | (with_reducible refine And.intro ?_ ?_) | (refine callv_roC ( hf xs[k]!) rfl rfl ?_ ?_ ?_ ?_ ?_ ?_) | (refine loop_nat (xs.length) (fun k=>∀ i,i < k → p xs[i]! = false) (fun k=>[(1,.clo (.func g) [] ca),(0,.os m xs.length),(7,I xs.length),(8,I k)]) (fun k=>[]) ?_ (Wk.keep hcl ?_ ?_ ?_) fun k hk hF=>?_;rotate_left 1;(focus (simp [Fr.get,newF,Fr.map,AV.kill,AV.mapN,y1,y4,hm,VerD.row]<;>fail));(focus (simp [sto,newL,Loc.kill,Loc.set,AO.kill,AV.kill,AV.mapN,y1,y4,hm,VerD.row]<;>fail));(focus (simp [newL,Loc.kill,Loc.set,y1,y4,hm,VerD.row]<;>fail));(try have hw:IntKind.i64.wrap ((k:Int) + 1) = (k:Int) + 1:=IntWalk.i64_in _ (by omega))) | (refine EndX.plain ?_) | (refine nil_split (fun hn=>?_) (fun hn=>?_)) | (refine gcall_no not_false ?_) | (refine gdcall_no not_false ?_) | (refine GuardS_of _ _ _ _ _ _ (fun hg=>?_) (fun hg=>?_)) | (refine GuardD_of _ _ _ _ (fun hg=>?_) (fun hg=>?_)) | (refine CondB_of _ _ _ _ _ _ _ ?_ (fun hg=>?_) (fun hg=>?_)))
  all_goals (try (first | ((first | unfold noN | unfold Fr.below | unfold Loc.below);simp [Fr.allN,AV.allN,AV.allNL,AO.allN];done) | rfl | trivial | assumption | (intro row hrow;simp only [List.mem_map] at hrow;obtain ⟨x,_,rfl⟩:=hrow;rfl) | (refine Wk.keep hcl ?_ ?_ ?_;(focus (simp [Fr.get,y1,y4,hm,VerD.row]<;>fail));(focus (simp [sto,y1,y4,hm,VerD.row]<;>fail));(focus (simp<;>fail))) | (simp [allP,opd,Fr.get,Fr.below,Fr.allN,AV.allN,AV.allNL,Loc.below,AO.allN,noN,killO,killT,killD,mkNames,AO.kill,AV.kill,AV.mapN,AV.mapNL];done) | (with_reducible exact ltD (by assumption)) | omega | (simp only [decide_eq_true_eq,decide_eq_false_iff_not] at *;omega)))
  all_goals (try (first | exact hD | (simp [Fr.below,Fr.allN,AV.allN,AV.allNL,Loc.below,hca,g1];done)))
  all_goals (first | (rw [idxI_some (ltD (by assumption)) (by assumption) hF];done) | (rw [idxI_none (geD (by assumption)) hk hF];done) | skip)
  all_goals (first
    | (intro i hi
       rcases Nat.lt_or_ge i k with h | h
       · exact hF i h
       · have:i = k:=by omega
         subst this;assumption)
    | skip)
def dK (xs:List VerD) (p:VerD → Bool) (f:Nat):Nat → Nat × List VerD
  | 0=>(f,xs)
  | t + 1=>if p xs[f + 1 + t]! = true then dK xs p f t else ((dK xs p f t).1 + 1,(dK xs p f t).2.set (dK xs p f t).1 xs[f + 1 + t]!)
theorem dK_step (xs:List VerD) (p:VerD → Bool) (f t:Nat):dK xs p f (t + 1) = if p xs[f + 1 + t]! = true then dK xs p f t else ((dK xs p f t).1 + 1,(dK xs p f t).2.set (dK xs p f t).1 xs[f + 1 + t]!):=rfl
theorem dK_len (xs:List VerD) (p:VerD → Bool) (f:Nat):∀ t,(dK xs p f t).2.length = xs.length ∧ (dK xs p f t).1 ≤ f + t
  | 0=>⟨rfl,Nat.le_refl _⟩
  | t + 1=>by
    have ih:=dK_len xs p f t
    unfold dK
    split
    · exact ⟨ih.1,by omega⟩
    · exact ⟨by simpa using ih.1,by simp only;omega⟩
theorem dK_get (xs:List VerD) (p:VerD → Bool) (f:Nat):∀ t m,f + 1 + t ≤ m → (dK xs p f t).2[m]! = xs[m]!
  | 0,_,_=>rfl
  | t + 1,m,hm=>by
    have ih:=dK_get xs p f t m (by omega)
    have hl:=dK_len xs p f t
    unfold dK
    split
    · exact ih
    · simp only [List.getElem!_eq_getElem?_getD] at ih ⊢
      rw [List.getElem?_set_ne (by omega)]
      exact ih
theorem dK_take (xs:List VerD) (p:VerD → Bool) (f:Nat) (hf:f < xs.length) (hp:p xs[f]! = true) (h0:∀ i,i < f → p xs[i]! = false):∀ t,f + 1 + t ≤ xs.length → (dK xs p f t).2.take (dK xs p f t).1 = (xs.take (f + 1 + t)).filter fun x=>!p x
  | 0,_=>by
    show xs.take f = _
    have h1:xs.take (f + 1) = xs.take f ++ [xs[f]!]:=take_next hf
    rw [Nat.add_zero,h1,List.filter_append]
    have h2:(xs.take f).filter (fun x=>!p x) = xs.take f:=List.filter_eq_self.2 fun x hx=>by
      obtain ⟨i,hi⟩:=List.mem_iff_getElem?.1 hx
      rw [List.getElem?_take] at hi
      split at hi
      · rename_i hlt
        have:=h0 i hlt
        have e:xs[i]! = x:=by simp [List.getElem!_eq_getElem?_getD,hi]
        rw [e] at this;simp [this]
      · cases hi
    rw [h2]
    generalize xs[f]! = x at hp ⊢
    simp [hp]
  | t + 1,ht=>by
    have ih:=dK_take xs p f hf hp h0 t (by omega)
    have hl:=dK_len xs p f t
    have h1:xs.take (f + 1 + (t + 1)) = xs.take (f + 1 + t) ++ [xs[f + 1 + t]!]:=by
      rw [show f + 1 + (t + 1) = f + 1 + t + 1 from by omega]
      exact take_next (by omega)
    rw [dK_step,h1,List.filter_append,← ih]
    generalize xs[f + 1 + t]! = x
    generalize dK xs p f t = s at *
    split
    · rename_i h;simp [h]
    · rename_i h
      simp only
      have hlt:s.1 < s.2.length:=by omega
      rw [List.take_set,List.take_add_one,List.getElem?_eq_getElem hlt]
      have hn:(s.2.take s.1).length = s.1:=by simp;omega
      rw [Option.toList_some,List.set_append_right _ _ (by omega),hn,Nat.sub_self]
      simp [h]
theorem idx_or (xs:List VerD) (p:VerD → Bool):(idxI xs p = -1 ∧ ∀ x ∈ xs,p x = false) ∨ ∃ f,f < xs.length ∧ p xs[f]! = true ∧ (∀ i,i < f → p xs[i]! = false) ∧ idxI xs p = (f:Int):=by
  unfold idxI
  cases h:xs.findIdx? p with
  | none=>exact .inl ⟨rfl,fun x hx=>by simpa using (List.findIdx?_eq_none_iff.1 h) x hx⟩
  | some f =>
    obtain ⟨h1,h2,h3⟩:=List.findIdx?_eq_some_iff_getElem.1 h
    refine .inr ⟨f,h1,by simpa [h1] using h2,fun i hi=>?_,rfl⟩
    have:=h3 i hi
    have hi':i < xs.length:=by omega
    simpa [hi'] using this
def kept (xs:List VerD) (p:VerD → Bool):List VerD:=xs.filter fun x=>!p x
def keptR (xs:List VerD) (p:VerD → Bool):List (List RV):=(kept xs p).map VerD.row ++ List.replicate (xs.length - (kept xs p).length) zV
theorem deleteV_own (xs:List VerD) (m:Nat) (g:FuncId) (ca:List AV) (p:VerD → Bool) (D:Sto → Prop) (B:Nat) (σ:Sto) (hlen:xs.length ≤ 2 ^ 47) (hmB:m < B) (hm:σ m = .arr 12 41 (xs.map VerD.row)) (hD:D σ) (hcap:∀ B',B ≤ B' → Cap m B' D ca) (hf:∀ v:VerD,PurevC D Try.prog (.clo (.func g) [] ca) [.agg (v.row.map .d)] (Bo (p v))) :
    ACalls Try.prog 22 [.os m xs.length,.clo (.func g) [] ca] σ B [m] (fun v' σ'=>v' = .os m (kept xs p).length ∧ σ' = sto [(m,.arr 12 41 (keptR xs p))] σ):=by
  have hσ:sto [(m,.arr 12 41 (xs.map VerD.row))] σ = σ:=by
    funext x
    simp only [sto]
    split
    · rename_i e;subst e;exact hm.symm
    · rfl
  refine own_ofL [(m,.arr 12 41 (xs.map VerD.row))] hσ _root_.id follows Try.func22 c22_eq r22 (Nat.le_of_ble_eq_true rfl) fun hcl hsz=>?_
  clear hsz
  have hca:=(hcap B (Nat.le_refl _)).low'
  have hkc:=(hcap B (Nat.le_refl _)).kill
  have y1:=nbF hmB
  have y4:=nbF' hmB
  have y7:=nbL hmB
  have g1:decide (m < B + 100000) = true:=by simp;omega
  have hfx:=idx_or xs p
  rcases hfx with hf0 | ⟨f,hf1,hf2,hf3,hf0⟩
  all_goals
    repeat' (first | (simp -implicitDefEqProofs only [*,Nat.reduceBEq,↓reduceIte,Nat.reduceEqDiff,Nat.reduceAdd,reduceCtorEq,AO.kill,Int.reduceLT,Int.reduceToNat,List.getElem?_nil,Nat.reduceMul,Nat.reducePow,Nat.reduceLeDiff,rowOf_mapD,rowOf_mapI,rowOf_mapA,List.getElem?_cons_zero,List.getElem?_cons_succ,take_map_len,take_map_app,List.getElem?_cons_zero,c22,r22,u22_1,u22_2,u22_3,v22_4,u22_5,u22_6,u22_7,u22_8,u22_9,u22_10,u22_11,u22_12,u22_13,u22_14,u22_15,u22_16,u22_17,ty3,ty23,ty41,y1,y4,y7,VerD.row,mvcgen_simp]) | (with_reducible refine And.intro ?_ ?_) | (refine call_own [] [] e43 (indexV_own xs m g ca p D (B + 100000) _ hlen (by omega) (by simp [sto]) (by rw [hσ];exact hD) (hcap _ (by omega)) hf) rfl ?_ ?_ ?_ ?_ ?_) | (refine EndX.plain ?_) | (refine nil_split (fun hn=>?_) (fun hn=>?_)) | (refine gcall_no not_false ?_) | (refine gdcall_no not_false ?_) | (refine GuardS_of _ _ _ _ _ _ (fun hg=>?_) (fun hg=>?_)) | (refine GuardD_of _ _ _ _ (fun hg=>?_) (fun hg=>?_)) | (refine CondB_of _ _ _ _ _ _ _ ?_ (fun hg=>?_) (fun hg=>?_)))
    all_goals (try (first | ((first | unfold noN | unfold Fr.below | unfold Loc.below);simp [Fr.allN,AV.allN,AV.allNL,AO.allN];done) | rfl | trivial | assumption | (intro row hrow;simp only [List.mem_map] at hrow;obtain ⟨x,_,rfl⟩:=hrow;rfl) | (refine Wk.keep hcl ?_ ?_ ?_;(focus (simp [Fr.get,y1,y4,y7,VerD.row]<;>fail));(focus (simp [sto,y1,y4,y7,VerD.row]<;>fail));(focus (simp<;>fail))) | (simp [allP,opd,Fr.get,Fr.below,Fr.allN,AV.allN,AV.allNL,Loc.below,AO.allN,noN,killO,killT,killD,mkNames,AO.kill,AV.kill,AV.mapN,AV.mapNL];done) | (with_reducible exact ltD (by assumption)) | omega | (simp only [decide_eq_true_eq,decide_eq_false_iff_not] at *;omega)))
  all_goals (try (simp [Fr.below,Fr.allN,AV.allN,AV.allNL,Loc.below,AO.allN,hca,g1];done))
  · have hk:kept xs p = xs:=List.filter_eq_self.2 fun x hx=>by simp [hf0.2 x hx]
    rw [hk]
  · have hk:kept xs p = xs:=List.filter_eq_self.2 fun x hx=>by simp [hf0.2 x hx]
    funext x
    split
    · rename_i e;subst e;rw [hm,keptR,hk];simp
    · rfl
  have hwf:IntKind.i64.wrap ((f:Int) + 1) = ((f + 1:Nat):Int):=(IntWalk.i64_in _ (by omega)).trans (by omega)
  rw [hwf]
  refine loop_nat (xs.length - (f + 1)) (fun _=>True) (fun t=>[(1,.clo (.func g) [] ca),(6,I (f + 1 + t:Nat)),(0,.os m xs.length),(5,I (dK xs p f t).1)]) (fun t=>[(m,.arr 12 41 ((dK xs p f t).2.map VerD.row))]) trivial (Wk.keep hcl (by simp [Fr.get,dK]) (by simp [sto,dK]) (by simp)) fun t ht _=>?_
  obtain ⟨hl1,hl2⟩:=dK_len xs p f t
  have hw:IntKind.i64.wrap (((f + 1 + t:Nat):Int) + 1) = ((f + 1 + (t + 1):Nat):Int):=(IntWalk.i64_in _ (by omega)).trans (by omega)
  have hw2:IntKind.i64.wrap (((dK xs p f t).1:Int) + 1) = (((dK xs p f t).1 + 1:Nat):Int):=(IntWalk.i64_in _ (by omega)).trans (by omega)
  have hr1:decide (((f + 1 + t:Nat):Int) < (xs.length:Int)) = true → rowOf ((dK xs p f t).2.map VerD.row) (f + 1 + t) = VerD.row xs[f + 1 + t]!:=fun h=>by
    rw [← dK_get xs p f t _ (Nat.le_refl _)]
    exact rowOf_map _ _ _ (by simp only [decide_eq_true_eq] at h;omega)
  have hr2:rowOf ((dK xs p f t).2.map VerD.row) (dK xs p f t).1 = VerD.row (dK xs p f t).2[(dK xs p f t).1]!:=rowOf_map _ _ _ (by omega)
  repeat' (first | (simp -implicitDefEqProofs only [*,Nat.reduceBEq,↓reduceIte,Nat.reduceEqDiff,Nat.reduceAdd,reduceCtorEq,AO.kill,Int.reduceLT,Int.reduceToNat,List.getElem?_nil,Nat.reduceMul,Nat.reducePow,Nat.reduceLeDiff,rowOf_mapD,rowOf_mapI,rowOf_mapA,List.getElem?_cons_zero,List.getElem?_cons_succ,take_map_len,take_map_app,List.getElem?_cons_zero,c22,r22,u22_1,u22_2,u22_3,v22_4,u22_5,u22_6,u22_7,u22_8,u22_9,u22_10,u22_11,u22_12,u22_13,u22_14,u22_15,u22_16,u22_17,ty3,ty23,ty41,y1,y4,y7,hkc,VerD.row,hl1,ints,bnd,sliceV,Option.getD_some,Option.getD_none,mvcgen_simp]) | (with_reducible refine And.intro ?_ ?_) | (refine callv_roC ( hf xs[f + 1 + t]!) rfl rfl ?_ ?_ ?_ ?_ ?_ ?_) | (refine EndX.plain ?_) | (refine nil_split (fun hn=>?_) (fun hn=>?_)) | (refine gcall_no not_false ?_) | (refine gdcall_no not_false ?_) | (refine GuardS_of _ _ _ _ _ _ (fun hg=>?_) (fun hg=>?_)) | (refine GuardD_of _ _ _ _ (fun hg=>?_) (fun hg=>?_)) | (refine CondB_of _ _ _ _ _ _ _ ?_ (fun hg=>?_) (fun hg=>?_)))
  all_goals (try (first | ((first | unfold noN | unfold Fr.below | unfold Loc.below);simp [Fr.allN,AV.allN,AV.allNL,AO.allN];done) | rfl | trivial | assumption | (intro row hrow;simp only [List.mem_map] at hrow;obtain ⟨x,_,rfl⟩:=hrow;rfl) | (refine Wk.keep hcl ?_ ?_ ?_;(focus (simp [Fr.get,y1,y4,y7,hkc,VerD.row,hl1,ints,bnd,sliceV,Option.getD_some,Option.getD_none]<;>fail));(focus (simp [sto,y1,y4,y7,hkc,VerD.row,hl1,ints,bnd,sliceV,Option.getD_some,Option.getD_none]<;>fail));(focus (simp<;>fail))) | (simp [allP,opd,Fr.get,Fr.below,Fr.allN,AV.allN,AV.allNL,Loc.below,AO.allN,noN,killO,killT,killD,mkNames,AO.kill,AV.kill,AV.mapN,AV.mapNL];done) | (with_reducible exact ltD (by assumption)) | omega | (simp only [decide_eq_true_eq,decide_eq_false_iff_not] at *;omega)))
  all_goals (try (simp [Fr.below,Fr.allN,AV.allN,AV.allNL,Loc.below,AO.allN,hca,g1];done))
  all_goals (try (exact (hcap B (Nat.le_refl _)).up σ [(B + 7,_),(m,_)] (by simp) hD))
  all_goals (try (
    have hpx:p xs[f + 1 + t]! = false:=by simp only [Bool.not_eq_true'] at hg;exact hg
    rw [dK_step,hpx]
    simp only [Bool.false_eq_true,if_false]
    refine Wk.keep hcl (by simp [Fr.get]) (by simp [sto,y1,y4,List.map_set,VerD.row,ints]) (by simp);done))
  all_goals (try (
    have hpx:p xs[f + 1 + t]! = true:=by simp only [Bool.not_eq_false'] at hg;exact hg
    rw [dK_step,hpx]
    simp only [if_true]
    refine Wk.keep hcl (by simp [Fr.get]) (by simp [sto,y1,y4]) (by simp);done))
  all_goals (
    have hT:f + 1 + t = xs.length:=by
      have h9:decide (((f + 1 + t:Nat):Int) < (xs.length:Int)) = false:=by assumption
      simp only [decide_eq_false_iff_not] at h9;omega
    have hk:(dK xs p f t).2.take (dK xs p f t).1 = kept xs p:=by
      rw [dK_take xs p f hf1 hf2 hf3 t (by omega),hT,List.take_length];rfl
    have hkl:(kept xs p).length = (dK xs p f t).1:=by rw [← hk];simp;omega)
  · simp;omega
  · rw [hkl]
  · funext x
    split
    · have e1:(dK xs p f t).1 + (xs.length - (dK xs p f t).1) = (dK xs p f t).2.length:=by omega
      rw [keptR,← List.map_take,hk,hkl,e1,← List.map_drop,List.drop_length,List.map_nil,List.append_nil];rfl
    · rfl
end Go.Proofs.Ytikgiadbkjmabaa
