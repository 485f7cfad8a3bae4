/- Sectors taken. -/
import Derived.Test.YtikgiadbkjmabaaStD
import Derived.Test.YtikgiadbkjmabaaTypes
namespace Go.Proofs.Ytikgiadbkjmabaa
open Go.RowKit
set_option maxRecDepth 100000
def c86_1:SC:=(.seq (.reg [SO.mk (some 3) (.move (.tmp 0)) none,SO.mk (some 4) (.bin .add 3 (.tmp 3) (.const (Value.int .i64 64))) none,SO.mk (some 5) (.bin .sub 3 (.tmp 4) (.const (Value.int .i64 1))) none,SO.mk (some 6) (.bin .quo 3 (.tmp 5) (.const (Value.int .i64 64))) none,SO.mk (some 2) (.move (.tmp 6)) none]) (.keep [2] .ret))
theorem u86_1:type_of% (@swc _ _ c86_1.eq_1):=@swc _ _ c86_1.eq_1
def c86:SC:=(.seq (.reg [SO.mk (some 2) (.move (.const (Value.int .i64 0))) none]) (.keep [0] c86_1))
theorem c86_eq:annC Try.f86 = some c86:=by kernel_rfl
theorem r86:Try.f86.results.toList = [.tmp 2]:=by kernel_rfl
theorem e86:enters Try.prog 86 = true:=by kernel_rfl
def c64_1:SC:=(.seq (.reg [SO.mk (some 6) (.move (.const (Value.bool false))) none]) (.keep [6] .ret))
theorem u64_1:type_of% (@swc _ _ c64_1.eq_1):=@swc _ _ c64_1.eq_1
def c64_2:SC:=(.cond (.tmp 13) c64_1 .skip)
theorem u64_2:type_of% (@swc _ _ c64_2.eq_1):=@swc _ _ c64_2.eq_1
def o64_3:List SO:=((SO.mk (some 28) (.move (.tmp 8)) (some (26 ,false))) :: (SO.mk (some 29) (.mget 70 (.tmp 27) (.tmp 28)) (some (26 ,false))) :: (SO.mk (some 30) (.pick (.tmp 26) (.const (Value.bool true)) (.tmp 29)) none) :: [])
theorem v64_3:type_of% (@swl _ _ o64_3.eq_1):=@swl _ _ o64_3.eq_1
def o64_4:List SO:=((SO.mk (some 24) (.bin .geq 3 (.tmp 23) (.const (Value.int .i64 200))) (some (22 ,false))) :: (SO.mk (some 25) (.pick (.tmp 22) (.const (Value.bool true)) (.tmp 24)) none) :: (SO.mk (some 26) (.move (.tmp 25)) none) :: (SO.mk (some 27) (.move (.tmp 0)) (some (26 ,false))) :: o64_3)
theorem v64_4:type_of% (@swl _ _ o64_4.eq_1):=@swl _ _ o64_4.eq_1
def c64_5:SC:=(.seq (.reg [SO.mk (some 6) (.move (.const (Value.bool false))) none]) (.keep [6] .ret))
theorem u64_5:type_of% (@swc _ _ c64_5.eq_1):=@swc _ _ c64_5.eq_1
def c64_6:SC:=(.cond (.tmp 30) c64_5 .skip)
theorem u64_6:type_of% (@swc _ _ c64_6.eq_1):=@swc _ _ c64_6.eq_1
def c64_7:SC:=(.reg [SO.mk (some 31) (.move (.tmp 0)) none,SO.mk (some 32) (.move (.tmp 8)) none,SO.mk none (.mset 70 (.tmp 31) (.tmp 32) (.const (Value.bool true))) none])
theorem u64_7:type_of% (@swc _ _ c64_7.eq_1):=@swc _ _ c64_7.eq_1
def c64_8:SC:=(.seq (.seq (.reg ((SO.mk (some 20) (.move (.tmp 8)) none) :: (SO.mk (some 21) (.bin .lss 3 (.tmp 20) (.const (Value.int .i64 0))) none) :: (SO.mk (some 22) (.move (.tmp 21)) none) :: (SO.mk (some 23) (.move (.tmp 8)) (some (22 ,false))) :: o64_4)) (.keep [30,8,16,15,0,14] c64_6)) (.keep [8,16,15,0,14] c64_7))
theorem u64_8:type_of% (@swc _ _ c64_8.eq_1):=@swc _ _ c64_8.eq_1
def c64_9:SC:=(.reg [SO.mk (some 33) (.bin .add 3 (.tmp 16) (.const (Value.int .i64 1))) none,SO.mk (some 16) (.move (.tmp 33)) none])
theorem u64_9:type_of% (@swc _ _ c64_9.eq_1):=@swc _ _ c64_9.eq_1
def c64_10:SC:=(.seq (.block 1 (.seq (.reg [SO.mk (some 18) (.iaddr 26 (.tmp 14) (.tmp 16)) none,SO.mk (some 19) (.load 3 (.tmp 18)) none,SO.mk (some 8) (.move (.tmp 19)) none]) (.keep [8,16,15,0,14] c64_8))) (.keep [16,15,0,14] c64_9))
theorem u64_10:type_of% (@swc _ _ c64_10.eq_1):=@swc _ _ c64_10.eq_1
def c64_11:SC:=(.seq (.cond (.tmp 17) .skip (.exit 0)) (.keep [16,15,0,14] c64_10))
theorem u64_11:type_of% (@swc _ _ c64_11.eq_1):=@swc _ _ c64_11.eq_1
def c64_12:SC:=(.seq (.reg [SO.mk (some 17) (.bin .lss 3 (.tmp 16) (.tmp 15)) none]) (.keep [17,14,0,15,16] c64_11))
theorem u64_12:type_of% (@swc _ _ c64_12.eq_1):=@swc _ _ c64_12.eq_1
def c64_13:SC:=(.block 0 (.loop (.keep [14,0,15,16] c64_12)))
theorem u64_13:type_of% (@swc _ _ c64_13.eq_1):=@swc _ _ c64_13.eq_1
def c64_14:SC:=(.seq (.reg [SO.mk (some 6) (.move (.const (Value.bool true))) none]) (.keep [6] .ret))
theorem u64_14:type_of% (@swc _ _ c64_14.eq_1):=@swc _ _ c64_14.eq_1
def c64_15:SC:=(.seq (.seq (.reg [SO.mk (some 14) (.move (.tmp 1)) none,SO.mk (some 15) (.len 26 (.tmp 14)) none,SO.mk (some 16) (.move (.const (Value.int .i64 0))) none]) (.keep [14,0,15,16] c64_13)) (.keep [] c64_14))
theorem u64_15:type_of% (@swc _ _ c64_15.eq_1):=@swc _ _ c64_15.eq_1
def c64_16:SC:=(.seq (.seq (.reg [SO.mk (some 9) (.move (.tmp 1)) none,SO.mk (some 10) (.len 26 (.tmp 9)) none,SO.mk (some 11) (.move (.tmp 2)) none,SO.mk (some 12) (.call 86 [(.tmp 11)]) none,SO.mk (some 13) (.bin .neq 3 (.tmp 10) (.tmp 12)) none]) (.keep [13,1,0] c64_2)) (.keep [1,0] c64_15))
theorem u64_16:type_of% (@swc _ _ c64_16.eq_1):=@swc _ _ c64_16.eq_1
def c64:SC:=(.seq (.reg [SO.mk (some 6) (.move (.const (Value.bool false))) none]) (.keep [2,1,0] c64_16))
theorem c64_eq:annC Try.f64 = some c64:=by kernel_rfl
theorem r64:Try.f64.results.toList = [.tmp 6]:=by kernel_rfl
theorem e64:enters Try.prog 64 = true:=by kernel_rfl
end Go.Proofs.Ytikgiadbkjmabaa
namespace Go.Proofs.Ytikgiadbkjmabaa
open Go.RowKit
set_option maxHeartbeats 4000000
set_option maxRecDepth 20000
attribute [local irreducible] SW OSW SWL SWLn SWD SEcall SEcallv SDv SE SO1 SOg ACalls ACallv Wk EndV
set_option linter.unusedSimpArgs false
set_option linter.unusedVariables false
def secN (n:Int):Int:=IntKind.i64.wrap ((IntKind.i64.wrap (IntKind.i64.wrap (n + 64) - 1)).tdiv 64)
theorem sectors_p (n:Int):Pure Try.prog 86 [I n] (I (secN n)):=by
  refine pure_of follows Try.func86 c86_eq r86 (Nat.le_of_ble_eq_true rfl) fun B σ hcl hsz=>?_
  clear hsz
  repeat' (first | (simp -implicitDefEqProofs only [*,Nat.reduceBEq,↓reduceIte,Nat.reduceEqDiff,Nat.reduceAdd,reduceCtorEq,AO.kill,Int.reduceLT,Int.reduceToNat,List.getElem?_nil,Nat.reduceMul,Nat.reducePow,Nat.reduceLeDiff,rowOf_mapD,rowOf_mapI,rowOf_mapA,List.getElem?_cons_zero,List.getElem?_cons_succ,take_map_len,take_map_app,List.getElem?_cons_zero,c86,r86,u86_1,ty3,secN,mvcgen_simp]) | (with_reducible refine And.intro ?_ ?_) | (refine EndX.plain ?_) | (refine nil_split (fun hn=>?_) (fun hn=>?_)) | (refine gcall_no not_false ?_) | (refine gdcall_no not_false ?_) | (refine GuardS_of _ _ _ _ _ _ (fun hg=>?_) (fun hg=>?_)) | (refine GuardD_of _ _ _ _ (fun hg=>?_) (fun hg=>?_)) | (refine CondB_of _ _ _ _ _ _ _ ?_ (fun hg=>?_) (fun hg=>?_)))
  all_goals (try (first | ((first | unfold noN | unfold Fr.below | unfold Loc.below);simp [Fr.allN,AV.allN,AV.allNL,AO.allN];done) | rfl | trivial | assumption | (intro row hrow;simp only [List.mem_map] at hrow;obtain ⟨x,_,rfl⟩:=hrow;rfl) | (refine Wk.keep hcl ?_ ?_ ?_;(focus (simp [Fr.get,secN]<;>fail));(focus (simp [sto,secN]<;>fail));(focus (simp<;>fail))) | (simp [allP,opd,Fr.get,Fr.below,Fr.allN,AV.allN,AV.allNL,Loc.below,AO.allN,noN,killO,killT,killD,mkNames,AO.kill,AV.kill,AV.mapN,AV.mapNL];done) | (with_reducible exact ltD (by assumption)) | omega | (simp only [decide_eq_true_eq,decide_eq_false_iff_not] at *;omega)))
def takeB (es:List (KV × Bool)) (n:Int):Bool:=!(decide (n < 0) || (decide (n ≥ 200) || getM es (.i n)))
def takeN (l:List Int) (es:List (KV × Bool)):Nat → List (KV × Bool)
  | 0=>es
  | k + 1=>setM (takeN l es k) (.i l[k]!) true
def takeL (es:List (KV × Bool)):List Int → Bool × List (KV × Bool)
  | []=>(true,es)
  | n :: l=>if takeB es n then takeL (setM es (.i n) true) l else (false,es)
def takeF (es:List (KV × Bool)) (l:List Int) (size:Int):Bool × List (KV × Bool):=if (l.length:Int) = secN size then takeL es l else (false,es)
theorem take_all {l:List Int} {es:List (KV × Bool)}:∀ k,k ≤ l.length → (∀ i,i < k → takeB (takeN l es i) l[i]! = true) → takeL es l = takeL (takeN l es k) (l.drop k)
  | 0,_,_=>rfl
  | k + 1,hk,h=>by
    have hlt:k < l.length:=by omega
    rw [take_all k (by omega) fun i hi=>h i (by omega),List.drop_eq_getElem_cons hlt]
    have:=h k (by omega)
    rw [getElem!_pos l k hlt] at this
    simp only [takeL,this,if_true,takeN,getElem!_pos l k hlt]
theorem take_stop {l:List Int} {es:List (KV × Bool)} {k:Nat} (hk:k < l.length) (h:∀ i,i < k → takeB (takeN l es i) l[i]! = true) (hno:takeB (takeN l es k) l[k]! = false):takeL es l = (false,takeN l es k):=by
  rw [take_all k (by omega) h,List.drop_eq_getElem_cons hk]
  rw [getElem!_pos l k hk] at hno
  simp [takeL,hno]
theorem take_end {l:List Int} {es:List (KV × Bool)} (h:∀ i,i < l.length → takeB (takeN l es i) l[i]! = true):takeL es l = (true,takeN l es l.length):=by
  rw [take_all l.length (Nat.le_refl _) h];simp [takeL]
theorem takeB_1 {es:List (KV × Bool)} {n:Int} (h:decide (n < 0) = true):takeB es n = false:=by unfold takeB;rw [h];rfl
theorem takeB_2 {es:List (KV × Bool)} {n:Int} (h:decide (n ≥ 200) = true):takeB es n = false:=by unfold takeB;rw [h];cases decide (n < 0)<;>rfl
theorem takeB_3 {es:List (KV × Bool)} {n:Int} (h:getM es (.i n) = true):takeB es n = false:=by unfold takeB;rw [h];cases decide (n < 0)<;>cases decide (n ≥ 200)<;>rfl
theorem takeB_4 {es:List (KV × Bool)} {n:Int} (h1:decide (n < 0) = false) (h2:decide (n ≥ 200) = false) (h3:getM es (.i n) = false):takeB es n = true:=by unfold takeB;rw [h1,h2,h3];rfl
theorem take_no {l:List Int} {es:List (KV × Bool)} {size:Int} (h:((l.length:Int) != secN size) = true):takeF es l size = (false,es):=by
  unfold takeF;rw [if_neg (by simpa using h)]
theorem take_yes {l:List Int} {es:List (KV × Bool)} {size:Int} (h:((l.length:Int) != secN size) = false):takeF es l size = takeL es l:=by
  unfold takeF;rw [if_pos (by simpa using h)]
theorem sto_same {n:Nat} {o o':AO} {σ:Sto} (h:σ n = o) (h2:o = o'):σ = sto [(n,o')] σ:=by
  funext m
  simp only [sto]
  split
  · rename_i e;subst e;rw [h,h2]
  · rfl
theorem kv_i (n:Int):(KV.i n).ok false:=⟨rfl,trivial⟩
theorem take_p (l:List Int) (size:Int) (es:List (KV × Bool)) (B:Nat) (σ:Sto) (n:Nat) (hn:n < B) (hσ:σ n = .mp false es) :
    ACalls Try.prog 64 [.mp n,.d (ints l),I size] σ B [] (fun v σ'=>v = Bo (takeF es l size).1 ∧ σ' = sto [(n,.mp false (takeF es l size).2)] σ):=by
  refine own_of follows Try.func64 c64_eq r64 (Nat.le_of_ble_eq_true rfl) fun hcl hsz=>?_
  have hlen:l.length ≤ 2 ^ 47:=by simpa using (show Sized (ints l) from hsz (.d (ints l)) (by simp)).len
  clear hsz
  have y1:∀ s,(n = B + s) = False:=fun s=>by simp;omega
  have y2:∀ s,(B + s = n) = False:=fun s=>by simp;omega
  have y3:(n < B) = True:=eq_true hn
  have y4:decide (n < B) = true:=by simpa using hn
  have y5:decide (n < B + 100000) = true:=by simp;omega
  have y6:=kv_i
  repeat' (first | (simp -implicitDefEqProofs only [*,Nat.reduceBEq,↓reduceIte,Nat.reduceEqDiff,Nat.reduceAdd,reduceCtorEq,AO.kill,Int.reduceLT,Int.reduceToNat,List.getElem?_nil,Nat.reduceMul,Nat.reducePow,Nat.reduceLeDiff,rowOf_mapD,rowOf_mapI,rowOf_mapA,List.getElem?_cons_zero,List.getElem?_cons_succ,take_map_len,take_map_app,List.getElem?_cons_zero,c64,r64,u64_1,u64_2,v64_3,v64_4,u64_5,u64_6,u64_7,u64_8,u64_9,u64_10,u64_11,u64_12,u64_13,u64_14,u64_15,u64_16,ty26,ty3,ty70,mt70,y1,y2,y3,y4,y5,hσ,takeN,ints,int_,bne_self_eq_false,mvcgen_simp]) | (with_reducible refine And.intro ?_ ?_) | (refine call_ro e86 ( sectors_p size) rfl ?_ ?_ ?_ ?_) | (refine gcall_ro e86 ( sectors_p size) rfl ?_ ?_ ?_ ?_) | (refine dcall_ro e86 ( sectors_p size) rfl ?_ ?_ ?_ ?_) | (refine gdcall_ro rfl e86 ( sectors_p size) rfl ?_ ?_ ?_ ?_) | (refine loop_nat (l.length) (fun k=>∀ i,i < k → takeB (takeN l es i) l[i]! = true) (fun k=>[(14,.d (ints l)),(0,.mp n),(15,I l.length),(16,I k)]) (fun k=>[(n,.mp false (takeN l es k))]) ?_ (Wk.keep hcl ?_ ?_ ?_) fun k hk hF=>?_;rotate_left 1;(focus (simp [Fr.get,newF,Fr.map,AV.kill,AV.mapN,y1,y2,y3,y4,y5,hσ,takeN,ints,int_,bne_self_eq_false]<;>fail));(focus (simp [sto,newL,Loc.kill,Loc.set,AO.kill,AV.kill,AV.mapN,y1,y2,y3,y4,y5,hσ,takeN,ints,int_,bne_self_eq_false]<;>fail));(focus (simp [newL,Loc.kill,Loc.set,y1,y2,y3,y4,y5,hσ,takeN,ints,int_,bne_self_eq_false]<;>fail));(try have hw:IntKind.i64.wrap ((k:Int) + 1) = (k:Int) + 1:=IntWalk.i64_in _ (by omega))) | (refine EndX.plain ?_) | (refine nil_split (fun hn=>?_) (fun hn=>?_)) | (refine gcall_no not_false ?_) | (refine gdcall_no not_false ?_) | (refine GuardS_of _ _ _ _ _ _ (fun hg=>?_) (fun hg=>?_)) | (refine GuardD_of _ _ _ _ (fun hg=>?_) (fun hg=>?_)) | (refine CondB_of _ _ _ _ _ _ _ ?_ (fun hg=>?_) (fun hg=>?_)))
  all_goals (try (first | ((first | unfold noN | unfold Fr.below | unfold Loc.below);simp [Fr.allN,AV.allN,AV.allNL,AO.allN];done) | rfl | trivial | assumption | (intro row hrow;simp only [List.mem_map] at hrow;obtain ⟨x,_,rfl⟩:=hrow;rfl) | (refine Wk.keep hcl ?_ ?_ ?_;(focus (simp [Fr.get,y1,y2,y3,y4,y5,hσ,takeN,ints,int_,bne_self_eq_false]<;>fail));(focus (simp [sto,y1,y2,y3,y4,y5,hσ,takeN,ints,int_,bne_self_eq_false]<;>fail));(focus (simp<;>fail))) | (simp [allP,opd,Fr.get,Fr.below,Fr.allN,AV.allN,AV.allNL,Loc.below,AO.allN,noN,killO,killT,killD,mkNames,AO.kill,AV.kill,AV.mapN,AV.mapNL];done) | (with_reducible exact ltD (by assumption)) | omega | (simp only [decide_eq_true_eq,decide_eq_false_iff_not] at *;omega)))
  all_goals (try (simp [Fr.below,Fr.allN,AV.allN,AV.allNL,y5];done))
  all_goals first
    | (have e:takeF es l size = (false,es):=take_no (by assumption)
       rw [e]<;>first | rfl | exact sto_same hσ rfl)
    | (have e:takeF es l size = (false,takeN l es k):=by
         rw [take_yes (by assumption)];exact take_stop (dltL (by assumption)) hF (by first | exact takeB_1 (by assumption) | exact takeB_2 (by assumption) | exact takeB_3 (by assumption))
       rw [e]<;>rfl)
    | (have hk2:k = l.length:=by
         have:=of_decide_eq_false (by assumption:decide ((k:Int) < (l.length:Int)) = false)
         omega
       subst hk2
       have e:takeF es l size = (true,takeN l es l.length):=by rw [take_yes (by assumption)];exact take_end hF
       rw [e]<;>rfl)
    | (intro i hi
       rcases Nat.lt_succ_iff_lt_or_eq.1 hi with h | rfl
       · exact hF i h
       · exact takeB_4 (by assumption) (by assumption) (by assumption))
end Go.Proofs.Ytikgiadbkjmabaa
