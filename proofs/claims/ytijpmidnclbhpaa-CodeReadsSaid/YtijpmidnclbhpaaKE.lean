/- The reference's eye on bytes: its number. -/
import Derived.Test.YtijpmidnclbhpaaNumK
import Derived.Test.YtijpmidnclbhpaaTypes
import Derived.Test.YtijpmidnclbhpaaKUD

/- The reference's small: a number from bytes. -/
namespace Go.Proofs.Ytijpmidnclbhpaa
open Go.RowKit
set_option maxRecDepth 100000
def c69_1:SC:=(.cond (.tmp 8) .skip (.exit 0))
theorem u69_1:type_of% (@swc _ _ c69_1.eq_1):=@swc _ _ c69_1.eq_1
def o69_2:List SO:=((SO.mk (some 3) (.move (.tmp 18)) none) :: [])
theorem v69_2:type_of% (@swl _ _ o69_2.eq_1):=@swl _ _ o69_2.eq_1
def o69_3:List SO:=((SO.mk (some 15) (.iaddr 29 (.tmp 13) (.tmp 14)) none) :: (SO.mk (some 16) (.load 5 (.tmp 15)) none) :: (SO.mk (some 17) (.conv 5 3 (.tmp 16)) none) :: (SO.mk (some 18) (.bin .add 3 (.tmp 12) (.tmp 17)) none) :: o69_2)
theorem v69_3:type_of% (@swl _ _ o69_3.eq_1):=@swl _ _ o69_3.eq_1
def c69_4:SC:=(.reg [SO.mk (some 9) (.move (.tmp 4)) none,SO.mk (some 10) (.bin .add 3 (.tmp 9) (.const (Value.int .i64 1))) none,SO.mk (some 4) (.move (.tmp 10)) none])
theorem u69_4:type_of% (@swc _ _ c69_4.eq_1):=@swc _ _ c69_4.eq_1
def c69_5:SC:=(.seq (.block 1 (.reg ((SO.mk (some 11) (.move (.tmp 3)) none) :: (SO.mk (some 12) (.bin .mul 3 (.const (Value.int .i64 256)) (.tmp 11)) none) :: (SO.mk (some 13) (.move (.tmp 0)) none) :: (SO.mk (some 14) (.move (.tmp 4)) none) :: o69_3))) (.keep [4,0,3] c69_4))
theorem u69_5:type_of% (@swc _ _ c69_5.eq_1):=@swc _ _ c69_5.eq_1
def c69_6:SC:=(.seq (.seq (.reg [SO.mk (some 5) (.move (.tmp 4)) none,SO.mk (some 6) (.move (.tmp 0)) none,SO.mk (some 7) (.len 29 (.tmp 6)) none,SO.mk (some 8) (.bin .lss 3 (.tmp 5) (.tmp 7)) none]) (.keep [8,0,4,3] c69_1)) (.keep [3,4,0] c69_5))
theorem u69_6:type_of% (@swc _ _ c69_6.eq_1):=@swc _ _ c69_6.eq_1
def c69_7:SC:=(.block 0 (.loop (.keep [0,4,3] c69_6)))
theorem u69_7:type_of% (@swc _ _ c69_7.eq_1):=@swc _ _ c69_7.eq_1
def c69_8:SC:=(.seq (.reg [SO.mk (some 19) (.move (.tmp 3)) none,SO.mk (some 2) (.move (.tmp 19)) none]) (.keep [2] .ret))
theorem u69_8:type_of% (@swc _ _ c69_8.eq_1):=@swc _ _ c69_8.eq_1
def c69_9:SC:=(.seq (.seq (.reg [SO.mk (some 4) (.move (.const (Value.int .i64 0))) none]) (.keep [0,4,3] c69_7)) (.keep [3] c69_8))
theorem u69_9:type_of% (@swc _ _ c69_9.eq_1):=@swc _ _ c69_9.eq_1
def c69_10:SC:=(.seq (.reg [SO.mk (some 3) (.move (.const (Value.int .i64 0))) none]) (.keep [0,3] c69_9))
theorem u69_10:type_of% (@swc _ _ c69_10.eq_1):=@swc _ _ c69_10.eq_1
def c69:SC:=(.seq (.reg [SO.mk (some 2) (.move (.const (Value.int .i64 0))) none]) (.keep [0] c69_10))
theorem c69_eq:annC Try.f69 = some c69:=by kernel_rfl
theorem r69:Try.f69.results.toList = [.tmp 2]:=by kernel_rfl
theorem e69:enters Try.prog 69 = true:=by kernel_rfl
end Go.Proofs.Ytijpmidnclbhpaa
namespace Go.Proofs.Ytijpmidnclbhpaa
open Go.RowKit
set_option maxHeartbeats 4000000
set_option maxRecDepth 20000
attribute [local irreducible] SW OSW SWL SWLn SWD SEcall SEcallv SDv SE SO1 SOg ACalls ACallv Wk EndV
set_option linter.unusedSimpArgs false
set_option linter.unusedVariables false
theorem small_p (l:List UInt8) (hl:l.length ≤ 4):Pure Try.prog 69 [.d (bytes l)] (I (numK l l.length)):=by
  refine pure_of follows Try.func69 c69_eq r69 (Nat.le_of_ble_eq_true rfl) fun B σ hcl hsz=>?_
  clear hsz
  repeat' (first | (simp -implicitDefEqProofs only [*,Nat.reduceBEq,↓reduceIte,Nat.reduceEqDiff,Nat.reduceAdd,reduceCtorEq,AO.kill,AV.kill,Int.reduceLT,Int.reduceToNat,List.getElem?_nil,Nat.reduceMul,Nat.reducePow,Nat.reduceLeDiff,rowOf_mapD,rowOf_mapI,rowOf_mapA,List.getElem?_cons_zero,List.getElem?_cons_succ,take_map_len,take_map_app,List.getElem?_cons_zero,c69,r69,u69_1,v69_2,v69_3,u69_4,u69_5,u69_6,u69_7,u69_8,u69_9,u69_10,ty29,ty3,ty5,bytes,by_,numK_0,convV,mvcgen_simp]) | (with_reducible refine And.intro ?_ ?_) | (refine loop_nat (l.length) (fun _=>True) (fun k=>[(0,.d (bytes l)),(4,I k),(3,I (numK l k))]) (fun k=>[]) ?_ (Wk.keep hcl ?_ ?_ ?_) fun k hk hF=>?_;rotate_left 1;(focus (simp [Fr.get,newF,Fr.map,AV.kill,AV.mapN,bytes,by_,numK_0,convV]<;>fail));(focus (simp [sto,newL,Loc.kill,Loc.set,AO.kill,AV.kill,AV.mapN,bytes,by_,numK_0,convV]<;>fail));(focus (simp [newL,Loc.kill,Loc.set,bytes,by_,numK_0,convV]<;>fail));(try have hw:IntKind.i64.wrap ((k:Int) + 1) = (k:Int) + 1:=IntWalk.i64_in _ (by omega))) | (refine EndX.plain ?_) | (refine nil_split (fun hn=>?_) (fun hn=>?_)) | (refine gcall_no not_false ?_) | (refine gdcall_no not_false ?_) | (refine GuardS_of _ _ _ _ _ _ (fun hg=>?_) (fun hg=>?_)) | (refine GuardD_of _ _ _ _ (fun hg=>?_) (fun hg=>?_)) | (refine CondB_of _ _ _ _ _ _ _ ?_ (fun hg=>?_) (fun hg=>?_)))
  all_goals (try (first | ((first | unfold noN | unfold Fr.below | unfold Loc.below);simp [Fr.allN,AV.allN,AV.allNL,AO.allN];done) | rfl | trivial | assumption | (intro row hrow;simp only [List.mem_map] at hrow;obtain ⟨x,_,rfl⟩:=hrow;rfl) | (refine Wk.keep hcl ?_ ?_ ?_;(focus (simp [Fr.get,bytes,by_,numK_0,convV]<;>fail));(focus (simp [sto,bytes,by_,numK_0,convV]<;>fail));(focus (simp<;>fail))) | (simp [allP,opd,Fr.get,Fr.below,Fr.allN,AV.allN,AV.allNL,Loc.below,AO.allN,noN,killO,killT,killD,mkNames,AO.kill,AV.kill,AV.mapN,AV.mapNL];done) | (with_reducible exact ltD (by assumption)) | omega | (simp only [decide_eq_true_eq,decide_eq_false_iff_not] at *;omega)))
  all_goals first
    | (have hk2:k < l.length:=ltD (by assumption)
       have h1:=numK_7 l (k:=k + 1) (by omega)
       have h2:=(numK_le l k).1
       have h3:(l[k]!.toNat:Int) < 256:=by have:=l[k]!.toNat_lt;omega
       have e:numK l (k + 1) = 256 * numK l k + (l[k]!.toNat:Int):=rfl
       rw [IntWalk.i64_in (256 * numK l k) (by omega),IntWalk.i64_in (l[k]!.toNat:Int) (by omega),← e,IntWalk.i64_in _ (by omega)]
       refine Wk.keep hcl ?_ ?_ ?_<;>simp [Fr.get,sto])
    | (have hk2:k = l.length:=Nat.le_antisymm hk (geD (by assumption))
       rw [hk2])
end Go.Proofs.Ytijpmidnclbhpaa
namespace Go.Proofs.Ytijpmidnclbhpaa
open Go.RowKit
set_option maxRecDepth 100000
def o43_1:List SO:=((SO.mk (some 14) (.faddr 85 (.tmp 13) 1) none) :: (SO.mk (some 15) (.load 3 (.tmp 14)) none) :: (SO.mk (some 16) (.bin .sub 3 (.tmp 11) (.tmp 15)) none) :: (SO.mk (some 17) (.bin .gtr 3 (.tmp 6) (.tmp 16)) none) :: [])
theorem v43_1:type_of% (@swd _ _ o43_1.eq_1):=@swd _ _ o43_1.eq_1
def o43_2:List SO:=((SO.mk (some 10) (.load 29 (.tmp 9)) none) :: (SO.mk (some 11) (.len 29 (.tmp 10)) none) :: (SO.mk (some 12) (.move (.tmp 0)) none) :: (SO.mk (some 13) (.nilCheck (.tmp 12)) none) :: o43_1)
theorem v43_2:type_of% (@swd _ _ o43_2.eq_1):=@swd _ _ o43_2.eq_1
def o43_3:List SO:=((SO.mk (some 6) (.move (.tmp 1)) none) :: (SO.mk (some 7) (.move (.tmp 0)) none) :: (SO.mk (some 8) (.nilCheck (.tmp 7)) none) :: (SO.mk (some 9) (.faddr 85 (.tmp 8) 0) none) :: o43_2)
theorem v43_3:type_of% (@swd _ _ o43_3.eq_1):=@swd _ _ o43_3.eq_1
theorem m43_3 (B:Nat):mkNames B o43_3 = []:=(rfl)
def c43_4:SC:=(.reg [SO.mk (some 23) (.move (.tmp 0)) none,SO.mk (some 24) (.nilCheck (.tmp 23)) none,SO.mk (some 25) (.faddr 85 (.tmp 24) 2) none,SO.mk none (.store 30 (.tmp 25) (.const (Value.int .i64 5))) none])
theorem u43_4:type_of% (@swc _ _ c43_4.eq_1):=@swc _ _ c43_4.eq_1
def c43_5:SC:=(.cond (.tmp 22) c43_4 .skip)
theorem u43_5:type_of% (@swc _ _ c43_5.eq_1):=@swc _ _ c43_5.eq_1
def o43_6:List SO:=((SO.mk none (.store 3 (.tmp 33) (.tmp 31)) none) :: [])
theorem v43_6:type_of% (@swl _ _ o43_6.eq_1):=@swl _ _ o43_6.eq_1
def o43_7:List SO:=((SO.mk (some 30) (.load 29 (.tmp 29)) none) :: (SO.mk (some 31) (.len 29 (.tmp 30)) none) :: (SO.mk (some 32) (.nilCheck (.tmp 26)) none) :: (SO.mk (some 33) (.faddr 85 (.tmp 32) 1) none) :: o43_6)
theorem v43_7:type_of% (@swl _ _ o43_7.eq_1):=@swl _ _ o43_7.eq_1
def c43_8:SC:=(.seq (.reg [SO.mk (some 4) (.move (.const (Value.int .i64 0))) none]) (.keep [4] .ret))
theorem u43_8:type_of% (@swc _ _ c43_8.eq_1):=@swc _ _ c43_8.eq_1
def c43_9:SC:=(.seq (.reg ((SO.mk (some 26) (.move (.tmp 0)) none) :: (SO.mk (some 27) (.move (.tmp 0)) none) :: (SO.mk (some 28) (.nilCheck (.tmp 27)) none) :: (SO.mk (some 29) (.faddr 85 (.tmp 28) 0) none) :: o43_7)) (.keep [] c43_8))
theorem u43_9:type_of% (@swc _ _ c43_9.eq_1):=@swc _ _ c43_9.eq_1
def c43_10:SC:=(.seq (.seq (.reg [SO.mk (some 18) (.move (.tmp 0)) none,SO.mk (some 19) (.nilCheck (.tmp 18)) none,SO.mk (some 20) (.faddr 85 (.tmp 19) 2) none,SO.mk (some 21) (.load 30 (.tmp 20)) none,SO.mk (some 22) (.bin .eql 30 (.tmp 21) (.const (Value.int .i64 0))) none]) (.keep [22,0] c43_5)) (.keep [0] c43_9))
theorem u43_10:type_of% (@swc _ _ c43_10.eq_1):=@swc _ _ c43_10.eq_1
def c43_11:SC:=(.cond (.tmp 17) c43_10 .skip)
theorem u43_11:type_of% (@swc _ _ c43_11.eq_1):=@swc _ _ c43_11.eq_1
def o43_12:List SO:=((SO.mk (some 46) (.move (.tmp 1)) none) :: (SO.mk (some 47) (.bin .add 3 (.tmp 45) (.tmp 46)) none) :: (SO.mk (some 48) (.slice 29 (.tmp 37) (some (.tmp 41)) (some (.tmp 47))) none) :: [])
theorem v43_12:type_of% (@swd _ _ o43_12.eq_1):=@swd _ _ o43_12.eq_1
def o43_13:List SO:=((SO.mk (some 42) (.move (.tmp 0)) none) :: (SO.mk (some 43) (.nilCheck (.tmp 42)) none) :: (SO.mk (some 44) (.faddr 85 (.tmp 43) 1) none) :: (SO.mk (some 45) (.load 3 (.tmp 44)) none) :: o43_12)
theorem v43_13:type_of% (@swd _ _ o43_13.eq_1):=@swd _ _ o43_13.eq_1
def o43_14:List SO:=((SO.mk (some 38) (.move (.tmp 0)) none) :: (SO.mk (some 39) (.nilCheck (.tmp 38)) none) :: (SO.mk (some 40) (.faddr 85 (.tmp 39) 1) none) :: (SO.mk (some 41) (.load 3 (.tmp 40)) none) :: o43_13)
theorem v43_14:type_of% (@swd _ _ o43_14.eq_1):=@swd _ _ o43_14.eq_1
def o43_15:List SO:=((SO.mk (some 34) (.move (.tmp 0)) none) :: (SO.mk (some 35) (.nilCheck (.tmp 34)) none) :: (SO.mk (some 36) (.faddr 85 (.tmp 35) 0) none) :: (SO.mk (some 37) (.load 29 (.tmp 36)) none) :: o43_14)
theorem v43_15:type_of% (@swd _ _ o43_15.eq_1):=@swd _ _ o43_15.eq_1
theorem m43_15 (B:Nat):mkNames B o43_15 = []:=(rfl)
def o43_16:List SO:=((SO.mk (some 58) (.faddr 85 (.tmp 57) 1) none) :: (SO.mk none (.store 3 (.tmp 58) (.tmp 56)) none) :: [])
theorem v43_16:type_of% (@swl _ _ o43_16.eq_1):=@swl _ _ o43_16.eq_1
def o43_17:List SO:=((SO.mk (some 54) (.load 3 (.tmp 53)) none) :: (SO.mk (some 55) (.move (.tmp 1)) none) :: (SO.mk (some 56) (.bin .add 3 (.tmp 54) (.tmp 55)) none) :: (SO.mk (some 57) (.nilCheck (.tmp 50)) none) :: o43_16)
theorem v43_17:type_of% (@swl _ _ o43_17.eq_1):=@swl _ _ o43_17.eq_1
def c43_18:SC:=(.seq (.reg [SO.mk (some 59) (.move (.tmp 5)) none,SO.mk (some 4) (.move (.tmp 59)) none]) (.keep [4] .ret))
theorem u43_18:type_of% (@swc _ _ c43_18.eq_1):=@swc _ _ c43_18.eq_1
def c43_19:SC:=(.seq (.reg ((SO.mk (some 50) (.move (.tmp 0)) none) :: (SO.mk (some 51) (.move (.tmp 0)) none) :: (SO.mk (some 52) (.nilCheck (.tmp 51)) none) :: (SO.mk (some 53) (.faddr 85 (.tmp 52) 1) none) :: o43_17)) (.keep [5] c43_18))
theorem u43_19:type_of% (@swc _ _ c43_19.eq_1):=@swc _ _ c43_19.eq_1
def c43_20:SC:=(.seq (.dreg false o43_15 [SO.mk (some 49) (.call 69 [(.tmp 48)]) none,SO.mk (some 5) (.move (.tmp 49)) none]) (.keep [0,1,5] c43_19))
theorem u43_20:type_of% (@swc _ _ c43_20.eq_1):=@swc _ _ c43_20.eq_1
def c43_21:SC:=(.seq (.seq (.dreg false o43_3 []) (.keep [17,0,1] c43_11)) (.keep [0,1] c43_20))
theorem u43_21:type_of% (@swc _ _ c43_21.eq_1):=@swc _ _ c43_21.eq_1
def c43:SC:=(.seq (.reg [SO.mk (some 4) (.move (.const (Value.int .i64 0))) none]) (.keep [0,1] c43_21))
theorem c43_eq:annC Try.f43 = some c43:=by kernel_rfl
theorem r43:Try.f43.results.toList = [.tmp 4]:=by kernel_rfl
theorem e43:enters Try.prog 43 = true:=by kernel_rfl
end Go.Proofs.Ytijpmidnclbhpaa
namespace Go.Proofs.Ytijpmidnclbhpaa
open Go.RowKit
set_option maxHeartbeats 4000000
set_option maxRecDepth 20000
attribute [local irreducible] SW OSW SWL SWLn SWD SEcall SEcallv SDv SE SO1 SOg ACalls ACallv Wk EndV
set_option linter.unusedSimpArgs false
set_option linter.unusedVariables false
def eyO (bb b:List UInt8) (e:Int):AO:=.box [.d (.ro (bb.map by_)),I ((bb.length:Int) - b.length),I e]
theorem eyO_allN (bb b:List UInt8) (e:Int) (q:Nat → Bool):(eyO bb b e).allN q = true:=rfl
theorem eyO_kill (bb b:List UInt8) (e:Int) (n:Nat):(eyO bb b e).kill n = eyO bb b e:=rfl
def Looks (P:Program) (f:FuncId) (args:List AV) (V:RdS → AV) (S:RdS → RdS) (pre:RdS → Prop):Prop:=∀ (B:Nat) (σ:Sto) (n:Nat) (bb b:List UInt8) (e:Int),n < B → σ n = eyO bb b e → b <:+ bb → bb.length ≤ 2 ^ 47 → pre (b,e) → ACalls P f (.lp n 0 :: args) σ B [] (fun v σ'=>v = V (b,e) ∧ σ' = sto [(n,eyO bb (S (b,e)).1 (S (b,e)).2)] σ)
theorem call_e0 {P:Program} {B:Nat} {T0:List Nat} {r:Sto} {a:Fr} {d:Option Nat} {K:Fr → Loc → Prop} {f:FuncId} {args:List Operand} {vs:List AV} {V:RdS → AV} {S:RdS → RdS} {pc:RdS → Prop} {bb b:List UInt8} {e:Int} {n:Nat} {pre:Loc} (hn:n < B + 100000) (he:enters P f = true) (hR:Looks P f vs V S pc) (hv:(args.map fun x=>(opd a x).2) = .lp n 0 :: vs) (hs:pc (b,e)) (hx:b <:+ bb) (hbb:bb.length ≤ 2 ^ 47) (hpre:∀ p ∈ pre,(p.1 = n) = False) (hp:allP (args.map fun x=>(opd a x).1)) (hF:Fr.below (B + 100000) a) (hL:Loc.below (B + 100000) ((n,eyO bb b e) :: pre)) (hk:K (putO d (V (b,e)) a) ((n,eyO bb (S (b,e)).1 (S (b,e)).2) :: pre)):SEcall P B T0 r d K a ((n,eyO bb b e) :: pre) f args:=by
  have e1:sto ((n,eyO bb b e) :: pre) r = sto ((n,eyO bb b e) :: pre) r:=sto1_swap (Q:=[]) (fun p hp=>hpre p (List.mem_append_left (bs:=pre) hp))
  have e2:∀ A,sto [(n,A)] (sto ((n,eyO bb b e) :: pre) r) = sto ((n,A) :: pre) r:=fun A=>by rw [e1];exact sto1_over _ _ _ _ _
  unfold SEcall
  refine ⟨[],fun v' σ'=>v' = V (b,e) ∧ σ' = sto [(n,eyO bb (S (b,e)).1 (S (b,e)).2)] (sto ((n,eyO bb b e) :: pre) r),a,_,Wk.refl _ _ _ _ _,he,(fun x hx=>by cases hx),by rw [hv];exact hR _ _ n bb b e hn (by rw [e1];simp [sto]) hx hbb hs,hp,hF,hL,fun v' σ' ⟨h1,h2⟩=>⟨(n,eyO bb (S (b,e)).1 (S (b,e)).2) :: pre,by rw [h2,e2],by rw [h1];exact hk⟩⟩
theorem call_e1 {P:Program} {B:Nat} {T0:List Nat} {r:Sto} {a:Fr} {d:Option Nat} {K:Fr → Loc → Prop} {f:FuncId} {args:List Operand} {vs:List AV} {V:RdS → AV} {S:RdS → RdS} {pc:RdS → Prop} {bb b:List UInt8} {e:Int} {n:Nat} {p1:Nat × AO} {pre:Loc} (hn:n < B + 100000) (he:enters P f = true) (hR:Looks P f vs V S pc) (hv:(args.map fun x=>(opd a x).2) = .lp n 0 :: vs) (hs:pc (b,e)) (hx:b <:+ bb) (hbb:bb.length ≤ 2 ^ 47) (hpre:∀ p ∈ p1 :: pre,(p.1 = n) = False) (hp:allP (args.map fun x=>(opd a x).1)) (hF:Fr.below (B + 100000) a) (hL:Loc.below (B + 100000) (p1 :: (n,eyO bb b e) :: pre)) (hk:K (putO d (V (b,e)) a) ((n,eyO bb (S (b,e)).1 (S (b,e)).2) :: p1 :: pre)):SEcall P B T0 r d K a (p1 :: (n,eyO bb b e) :: pre) f args:=by
  have e1:sto (p1 :: (n,eyO bb b e) :: pre) r = sto ((n,eyO bb b e) :: p1 :: pre) r:=sto1_swap (Q:=[p1]) (fun p hp=>hpre p (List.mem_append_left (bs:=pre) hp))
  have e2:∀ A,sto [(n,A)] (sto (p1 :: (n,eyO bb b e) :: pre) r) = sto ((n,A) :: p1 :: pre) r:=fun A=>by rw [e1];exact sto1_over _ _ _ _ _
  unfold SEcall
  refine ⟨[],fun v' σ'=>v' = V (b,e) ∧ σ' = sto [(n,eyO bb (S (b,e)).1 (S (b,e)).2)] (sto (p1 :: (n,eyO bb b e) :: pre) r),a,_,Wk.refl _ _ _ _ _,he,(fun x hx=>by cases hx),by rw [hv];exact hR _ _ n bb b e hn (by rw [e1];simp [sto]) hx hbb hs,hp,hF,hL,fun v' σ' ⟨h1,h2⟩=>⟨(n,eyO bb (S (b,e)).1 (S (b,e)).2) :: p1 :: pre,by rw [h2,e2],by rw [h1];exact hk⟩⟩
theorem call_e2 {P:Program} {B:Nat} {T0:List Nat} {r:Sto} {a:Fr} {d:Option Nat} {K:Fr → Loc → Prop} {f:FuncId} {args:List Operand} {vs:List AV} {V:RdS → AV} {S:RdS → RdS} {pc:RdS → Prop} {bb b:List UInt8} {e:Int} {n:Nat} {p1:Nat × AO} {p2:Nat × AO} {pre:Loc} (hn:n < B + 100000) (he:enters P f = true) (hR:Looks P f vs V S pc) (hv:(args.map fun x=>(opd a x).2) = .lp n 0 :: vs) (hs:pc (b,e)) (hx:b <:+ bb) (hbb:bb.length ≤ 2 ^ 47) (hpre:∀ p ∈ p1 :: p2 :: pre,(p.1 = n) = False) (hp:allP (args.map fun x=>(opd a x).1)) (hF:Fr.below (B + 100000) a) (hL:Loc.below (B + 100000) (p1 :: p2 :: (n,eyO bb b e) :: pre)) (hk:K (putO d (V (b,e)) a) ((n,eyO bb (S (b,e)).1 (S (b,e)).2) :: p1 :: p2 :: pre)):SEcall P B T0 r d K a (p1 :: p2 :: (n,eyO bb b e) :: pre) f args:=by
  have e1:sto (p1 :: p2 :: (n,eyO bb b e) :: pre) r = sto ((n,eyO bb b e) :: p1 :: p2 :: pre) r:=sto1_swap (Q:=[p1,p2]) (fun p hp=>hpre p (List.mem_append_left (bs:=pre) hp))
  have e2:∀ A,sto [(n,A)] (sto (p1 :: p2 :: (n,eyO bb b e) :: pre) r) = sto ((n,A) :: p1 :: p2 :: pre) r:=fun A=>by rw [e1];exact sto1_over _ _ _ _ _
  unfold SEcall
  refine ⟨[],fun v' σ'=>v' = V (b,e) ∧ σ' = sto [(n,eyO bb (S (b,e)).1 (S (b,e)).2)] (sto (p1 :: p2 :: (n,eyO bb b e) :: pre) r),a,_,Wk.refl _ _ _ _ _,he,(fun x hx=>by cases hx),by rw [hv];exact hR _ _ n bb b e hn (by rw [e1];simp [sto]) hx hbb hs,hp,hF,hL,fun v' σ' ⟨h1,h2⟩=>⟨(n,eyO bb (S (b,e)).1 (S (b,e)).2) :: p1 :: p2 :: pre,by rw [h2,e2],by rw [h1];exact hk⟩⟩
theorem suf_drop {b bb:List UInt8} (h:b <:+ bb):List.drop ((bb.length:Int) - b.length).toNat bb = b:=by
  obtain ⟨t,rfl⟩:=h
  rw [show (((t ++ b).length:Int) - b.length).toNat = t.length by rw [List.length_append];omega,List.drop_left]
theorem takS_suf (s:RdS) (k:Nat):(takS s k).1 <:+ s.1:=by
  unfold takS
  cases decide ((s.1.length:Int) < (k:Int))
  · exact List.drop_suffix _ _
  · exact List.nil_suffix
theorem textS_suf (s:RdS):(textS s).1 <:+ s.1:=by
  unfold textS
  cases txBad s
  · exact (List.drop_suffix _ _).trans (takS_suf s 1)
  · exact (takS_suf _ _).trans (takS_suf s 1)
theorem bitS_suf (s:RdS):(bitS s).1 <:+ s.1:=by
  unfold bitS
  cases (decide (takN s 1 > 1) && (takS s 1).2 == 0)<;>exact takS_suf s 1
theorem itS_suf (s:RdS):∀ k,(itS s k).1 <:+ s.1
  | 0=>takS_suf s 1
  | k + 1=>(takS_suf _ 1).trans (itS_suf s k)
theorem intsS_suf (s:RdS):(intsS s).1 <:+ s.1:=itS_suf s _
theorem num_L (k:Nat) (hk8:k ≤ 2 ^ 40):Looks Try.prog 43 [I k] (fun s=>I (takN s k)) (fun s=>takS s k) (fun s=>k ≤ 4 ∨ s.1.length < k):=by
  intro B σ n bb b e hn hσ hx hbb hp
  refine own_ofL [(n,eyO bb b e)] (hid1_sto hσ) hid1_closed follows Try.func43 c43_eq r43 (Nat.le_of_ble_eq_true rfl) fun hcl hsz=>?_
  clear hsz
  have y1:∀ s,(n = B + s) = False:=fun s=>by simp;omega
  have y2:∀ s,(B + s = n) = False:=fun s=>by simp;omega
  have y3:(n < B) = True:=eq_true hn
  have y4:decide (n < B) = true:=by simpa using hn
  have y5:decide (n < B + 100000) = true:=by simp;omega
  have hbl:b.length ≤ bb.length:=hx.length_le
  have hd:=suf_drop hx
  have w1:IntKind.i64.wrap ((bb.length:Int) - ((bb.length:Int) - b.length)) = b.length:=by rw [IntWalk.i64_in _ (by omega)];omega
  have w2:IntKind.i64.wrap ((bb.length:Int) - b.length + k) = (bb.length:Int) - b.length + k:=IntWalk.i64_in _ (by omega)
  have w3:((bb.length:Int) - b.length + k).toNat - ((bb.length:Int) - b.length).toNat = k:=by omega
  clear hσ
  cases hl:decide ((k:Int) > (b.length:Int))
  all_goals (try (
    have hk4:k ≤ 4:=by simp at hl hp;omega
    have hkl:k ≤ b.length:=by simp at hl;omega
    have hlt:(b.take k).length = k:=by simp;omega
    have hsm:=small_p (b.take k) (by omega)
    rw [hlt] at hsm))
  repeat' (first | (simp -implicitDefEqProofs only [*,Nat.reduceBEq,↓reduceIte,Nat.reduceEqDiff,Nat.reduceAdd,reduceCtorEq,AV.kill,Int.reduceLT,Int.reduceToNat,List.getElem?_nil,Nat.reduceMul,Nat.reducePow,Nat.reduceLeDiff,rowOf_mapD,rowOf_mapI,rowOf_mapA,List.getElem?_cons_zero,List.getElem?_cons_succ,take_map_len,take_map_app,List.getElem?_cons_zero,c43,r43,v43_1,v43_2,v43_3,m43_3,u43_4,u43_5,v43_6,v43_7,u43_8,u43_9,u43_10,u43_11,v43_12,v43_13,v43_14,v43_15,m43_15,v43_16,v43_17,u43_18,u43_19,u43_20,u43_21,ty85,ty29,ty3,ty30,ty5,aokB,aokD,aokA,eyO,y1,y2,y3,y4,y5,bnd,sliceV,Option.getD_some,Option.getD_none,Rows_byQ,bytes,← List.map_take,← List.map_drop,Nat.sub_zero,mvcgen_simp]) | (with_reducible refine And.intro ?_ ?_) | (refine call_ro e69 ( hsm) rfl ?_ ?_ ?_ ?_) | (refine gcall_ro e69 ( hsm) rfl ?_ ?_ ?_ ?_) | (refine dcall_ro e69 ( hsm) rfl ?_ ?_ ?_ ?_) | (refine gdcall_ro rfl e69 ( hsm) rfl ?_ ?_ ?_ ?_) | (refine EndX.plain ?_) | (refine nil_split (fun hn=>?_) (fun hn=>?_)) | (refine gcall_no not_false ?_) | (refine gdcall_no not_false ?_) | (refine GuardS_of _ _ _ _ _ _ (fun hg=>?_) (fun hg=>?_)) | (refine GuardD_of _ _ _ _ (fun hg=>?_) (fun hg=>?_)) | (refine CondB_of _ _ _ _ _ _ _ ?_ (fun hg=>?_) (fun hg=>?_)))
  all_goals (try (first | ((first | unfold noN | unfold Fr.below | unfold Loc.below);simp [Fr.allN,AV.allN,AV.allNL,AO.allN];done) | rfl | trivial | assumption | (intro row hrow;simp only [List.mem_map] at hrow;obtain ⟨x,_,rfl⟩:=hrow;rfl) | (refine Wk.keep hcl ?_ ?_ ?_;(focus (simp [Fr.get,aokB,aokD,aokA,eyO,y1,y2,y3,y4,y5,bnd,sliceV,Option.getD_some,Option.getD_none,Rows_byQ,bytes,← List.map_take,← List.map_drop,Nat.sub_zero]<;>fail));(focus (simp [sto,aokB,aokD,aokA,eyO,y1,y2,y3,y4,y5,bnd,sliceV,Option.getD_some,Option.getD_none,Rows_byQ,bytes,← List.map_take,← List.map_drop,Nat.sub_zero]<;>fail));(focus (simp<;>fail))) | (simp [allP,opd,Fr.get,Fr.below,Fr.allN,AV.allN,AV.allNL,Loc.below,AO.allN,noN,killO,killT,killD,mkNames,AO.kill,AV.kill,AV.mapN,AV.mapNL];done) | (with_reducible exact ltD (by assumption)) | omega | (simp only [decide_eq_true_eq,decide_eq_false_iff_not] at *;omega)))
  all_goals first
    | (unfold Fr.below;simp [Fr.allN,AV.allN,AV.allNL,y5];done)
    | (unfold Loc.below;simp [AO.allN,AV.allN,AV.allNL,y5];done)
    | (have hl2:decide ((b.length:Int) < (k:Int)) = false:=hl
       unfold takN;simp only [hl2,cond_false];done)
    | (have hl2:decide ((b.length:Int) < (k:Int)) = true:=hl
       unfold takN;simp only [hl2,cond_true];done)
    | (have hl2:decide ((b.length:Int) < (k:Int)) = false:=hl
       funext x
       by_cases z1:x = n
       · subst z1
         unfold takS
         simp only [hl2,cond_false,if_true,eyO,sto,List.length_drop]
         simp
         omega
       · simp [z1,hid1,sto])
    | (have hl2:decide ((b.length:Int) < (k:Int)) = true:=hl
       funext x
       by_cases z1:x = n
       · subst z1
         unfold takS flt
         simp only [hl2,cond_true,if_true,eyO,sto,List.length_nil]
         simp [*]
       · simp [z1,hid1,sto])
end Go.Proofs.Ytijpmidnclbhpaa
