/- What is read: plain. -/
import Derived.Test.YtijpmidnclbhpaaStD
import Derived.Test.YtijpmidnclbhpaaNz
import Derived.Test.YtijpmidnclbhpaaNumK
import Derived.Test.YtijpmidnclbhpaaTypes

/- One who reads bytes: numbers,texts,lists. -/
namespace Go.Proofs.Ytijpmidnclbhpaa
open Go.RowKit
set_option maxRecDepth 100000
def o29_1:List SO:=((SO.mk (some 12) (.len 29 (.tmp 11)) none) :: (SO.mk (some 13) (.move (.tmp 1)) none) :: (SO.mk (some 14) (.bin .lss 3 (.tmp 12) (.tmp 13)) none) :: [])
theorem v29_1:type_of% (@swl _ _ o29_1.eq_1):=@swl _ _ o29_1.eq_1
def c29_2:SC:=(.reg [SO.mk (some 20) (.move (.tmp 0)) none,SO.mk (some 21) (.nilCheck (.tmp 20)) none,SO.mk (some 22) (.faddr 73 (.tmp 21) 1) none,SO.mk none (.store 30 (.tmp 22) (.const (Value.int .i64 5))) none])
theorem u29_2:type_of% (@swc _ _ c29_2.eq_1):=@swc _ _ c29_2.eq_1
def c29_3:SC:=(.cond (.tmp 19) c29_2 .skip)
theorem u29_3:type_of% (@swc _ _ c29_3.eq_1):=@swc _ _ c29_3.eq_1
def c29_4:SC:=(.seq (.reg [SO.mk (some 4) (.move (.const (Value.int .i64 0))) none]) (.keep [4] .ret))
theorem u29_4:type_of% (@swc _ _ c29_4.eq_1):=@swc _ _ c29_4.eq_1
def c29_5:SC:=(.seq (.reg [SO.mk (some 23) (.move (.tmp 0)) none,SO.mk (some 24) (.nilCheck (.tmp 23)) none,SO.mk (some 25) (.faddr 73 (.tmp 24) 0) none,SO.mk none (.store 29 (.tmp 25) (.const (Value.slice none 0 0))) none]) (.keep [] c29_4))
theorem u29_5:type_of% (@swc _ _ c29_5.eq_1):=@swc _ _ c29_5.eq_1
def c29_6:SC:=(.seq (.seq (.reg [SO.mk (some 15) (.move (.tmp 0)) none,SO.mk (some 16) (.nilCheck (.tmp 15)) none,SO.mk (some 17) (.faddr 73 (.tmp 16) 1) none,SO.mk (some 18) (.load 30 (.tmp 17)) none,SO.mk (some 19) (.bin .eql 30 (.tmp 18) (.const (Value.int .i64 0))) none]) (.keep [19,0] c29_3)) (.keep [0] c29_5))
theorem u29_6:type_of% (@swc _ _ c29_6.eq_1):=@swc _ _ c29_6.eq_1
def c29_7:SC:=(.cond (.tmp 14) c29_6 .skip)
theorem u29_7:type_of% (@swc _ _ c29_7.eq_1):=@swc _ _ c29_7.eq_1
def o29_8:List SO:=((SO.mk (some 30) (.move (.tmp 1)) none) :: (SO.mk (some 31) (.slice 29 (.tmp 29) none (some (.tmp 30))) none) :: (SO.mk (some 32) (.len 29 (.tmp 31)) none) :: (SO.mk (some 33) (.move (.const (Value.int .i64 0))) none) :: [])
theorem v29_8:type_of% (@swl _ _ o29_8.eq_1):=@swl _ _ o29_8.eq_1
def o29_9:List SO:=((SO.mk (some 41) (.bin .or 3 (.tmp 38) (.tmp 40)) none) :: (SO.mk (some 5) (.move (.tmp 41)) none) :: [])
theorem v29_9:type_of% (@swl _ _ o29_9.eq_1):=@swl _ _ o29_9.eq_1
def c29_10:SC:=(.reg ((SO.mk (some 37) (.move (.tmp 5)) none) :: (SO.mk (some 38) (.bin .shl 3 (.tmp 37) (.const (Value.int .u64 8))) none) :: (SO.mk (some 39) (.move (.tmp 7)) none) :: (SO.mk (some 40) (.conv 5 3 (.tmp 39)) none) :: o29_9))
theorem u29_10:type_of% (@swc _ _ c29_10.eq_1):=@swc _ _ c29_10.eq_1
def c29_11:SC:=(.reg [SO.mk (some 42) (.bin .add 3 (.tmp 33) (.const (Value.int .i64 1))) none,SO.mk (some 33) (.move (.tmp 42)) none])
theorem u29_11:type_of% (@swc _ _ c29_11.eq_1):=@swc _ _ c29_11.eq_1
def c29_12:SC:=(.seq (.block 1 (.seq (.reg [SO.mk (some 35) (.iaddr 29 (.tmp 31) (.tmp 33)) none,SO.mk (some 36) (.load 5 (.tmp 35)) none,SO.mk (some 7) (.move (.tmp 36)) none]) (.keep [5,7,33,32,31,0,1] c29_10))) (.keep [33,32,31,0,1,5] c29_11))
theorem u29_12:type_of% (@swc _ _ c29_12.eq_1):=@swc _ _ c29_12.eq_1
def c29_13:SC:=(.seq (.cond (.tmp 34) .skip (.exit 0)) (.keep [5,33,32,31,0,1] c29_12))
theorem u29_13:type_of% (@swc _ _ c29_13.eq_1):=@swc _ _ c29_13.eq_1
def c29_14:SC:=(.seq (.reg [SO.mk (some 34) (.bin .lss 3 (.tmp 33) (.tmp 32)) none]) (.keep [34,31,32,33,0,1,5] c29_13))
theorem u29_14:type_of% (@swc _ _ c29_14.eq_1):=@swc _ _ c29_14.eq_1
def c29_15:SC:=(.block 0 (.loop (.keep [31,32,33,0,1,5] c29_14)))
theorem u29_15:type_of% (@swc _ _ c29_15.eq_1):=@swc _ _ c29_15.eq_1
def o29_16:List SO:=((SO.mk (some 51) (.faddr 73 (.tmp 50) 0) none) :: (SO.mk none (.store 29 (.tmp 51) (.tmp 49)) none) :: [])
theorem v29_16:type_of% (@swl _ _ o29_16.eq_1):=@swl _ _ o29_16.eq_1
def o29_17:List SO:=((SO.mk (some 47) (.load 29 (.tmp 46)) none) :: (SO.mk (some 48) (.move (.tmp 1)) none) :: (SO.mk (some 49) (.slice 29 (.tmp 47) (some (.tmp 48)) none) none) :: (SO.mk (some 50) (.nilCheck (.tmp 43)) none) :: o29_16)
theorem v29_17:type_of% (@swl _ _ o29_17.eq_1):=@swl _ _ o29_17.eq_1
def c29_18:SC:=(.seq (.reg [SO.mk (some 52) (.move (.tmp 5)) none,SO.mk (some 4) (.move (.tmp 52)) none]) (.keep [4] .ret))
theorem u29_18:type_of% (@swc _ _ c29_18.eq_1):=@swc _ _ c29_18.eq_1
def c29_19:SC:=(.seq (.reg ((SO.mk (some 43) (.move (.tmp 0)) none) :: (SO.mk (some 44) (.move (.tmp 0)) none) :: (SO.mk (some 45) (.nilCheck (.tmp 44)) none) :: (SO.mk (some 46) (.faddr 73 (.tmp 45) 0) none) :: o29_17)) (.keep [5] c29_18))
theorem u29_19:type_of% (@swc _ _ c29_19.eq_1):=@swc _ _ c29_19.eq_1
def c29_20:SC:=(.seq (.seq (.reg ((SO.mk (some 26) (.move (.tmp 0)) none) :: (SO.mk (some 27) (.nilCheck (.tmp 26)) none) :: (SO.mk (some 28) (.faddr 73 (.tmp 27) 0) none) :: (SO.mk (some 29) (.load 29 (.tmp 28)) none) :: o29_8)) (.keep [31,32,33,0,1,5] c29_15)) (.keep [0,1,5] c29_19))
theorem u29_20:type_of% (@swc _ _ c29_20.eq_1):=@swc _ _ c29_20.eq_1
def c29_21:SC:=(.seq (.reg [SO.mk (some 5) (.move (.const (Value.int .i64 0))) none]) (.keep [0,1,5] c29_20))
theorem u29_21:type_of% (@swc _ _ c29_21.eq_1):=@swc _ _ c29_21.eq_1
def c29_22:SC:=(.seq (.seq (.reg ((SO.mk (some 8) (.move (.tmp 0)) none) :: (SO.mk (some 9) (.nilCheck (.tmp 8)) none) :: (SO.mk (some 10) (.faddr 73 (.tmp 9) 0) none) :: (SO.mk (some 11) (.load 29 (.tmp 10)) none) :: o29_1)) (.keep [14,0,1] c29_7)) (.keep [0,1] c29_21))
theorem u29_22:type_of% (@swc _ _ c29_22.eq_1):=@swc _ _ c29_22.eq_1
def c29:SC:=(.seq (.reg [SO.mk (some 4) (.move (.const (Value.int .i64 0))) none]) (.keep [0,1] c29_22))
theorem c29_eq:annC Try.f29 = some c29:=by kernel_rfl
theorem r29:Try.f29.results.toList = [.tmp 4]:=by kernel_rfl
theorem e29:enters Try.prog 29 = true:=by kernel_rfl
end Go.Proofs.Ytijpmidnclbhpaa
namespace Go.Proofs.Ytijpmidnclbhpaa
open Go.RowKit
set_option maxHeartbeats 4000000
set_option maxRecDepth 20000
attribute [local irreducible] SW OSW SWL SWLn SWD SEcall SEcallv SDv SE SO1 SOg ACalls ACallv Wk EndV
set_option linter.unusedSimpArgs false
set_option linter.unusedVariables false
theorem ownY_of {fl:Bool} {P:Program} {f:FuncId} {fn:Func} {args:List AV} {sc:SC} {rs:List ResultVar} {B:Nat} {σ:Sto} {T:List Nat} {R:AV → Sto → Prop} (hm:P.follows .mixedOrders = true) (hf:P.funcs[f]? = some fn) (hc:annB fl fn = some sc) (hr:fn.results.toList = rs) (hn:args.length ≤ fn.ntmps)
    (h:ClosedS B σ → (∀ c ∈ args,c.sz) → SW P B T σ sc (HQ (EndY P B σ rs R)) (entry 0 args) []):ACalls P f args σ B T R:=by
  refine own_of hm hf hc hr hn fun hcl hsz=>?_
  unfold HQ
  refine SW_mono sc (fun e a l h=>?_) (h hcl hsz)
  unfold HQ at h
  unfold EndW
  cases e
  · exact ⟨_,_,Wk.nzL _ _ _ _ _,h⟩
  · exact ⟨_,_,Wk.nzL _ _ _ _ _,h⟩
  · exact h
abbrev RdS:=List UInt8 × Int
def rdO (b:List UInt8) (e:Int):AO:=.box [.d (.ro (b.map by_)),I e]
def flt (e0 e:Int):Int:=bif e0 == 0 then e else e0
def takS (s:RdS) (k:Nat):RdS:=bif decide ((s.1.length:Int) < (k:Int)) then ([],flt s.2 5) else (s.1.drop k,s.2)
def takN (s:RdS) (k:Nat):Int:=bif decide ((s.1.length:Int) < (k:Int)) then 0 else numK (s.1.take k) k
theorem Rows_byQ (l:List UInt8):Rows (l.map by_) 1 = True:=by
  refine eq_true ?_
  intro r hr
  simp only [List.mem_map] at hr;obtain ⟨x,_,rfl⟩:=hr;rfl
theorem ite_fun {σ:Sto} {n:Nat} {A C:AO} (h:A = C):(fun x=>if x = n then A else σ x) = fun x=>if x = n then C else σ x:=by rw [h]
theorem take_r (s:RdS) (k:Nat) (hk:k ≤ 4 ∨ s.1.length < k) (B:Nat) (σ:Sto) (n:Nat) (hn:n < B) (hσ:σ n = rdO s.1 s.2):ACalls Try.prog 29 [.lp n 0,I k] σ B [] (fun v σ'=>v = I (takN s k) ∧ σ' = sto [(n,rdO (takS s k).1 (takS s k).2)] σ):=by
  refine ownY_of follows Try.func29 c29_eq r29 (Nat.le_of_ble_eq_true rfl) fun hcl hsz=>?_
  clear hsz
  have y1:∀ s,(n = B + s) = False:=fun s=>by simp;omega
  have y2:∀ s,(B + s = n) = False:=fun s=>by simp;omega
  have y3:(n < B) = True:=eq_true hn
  have y4:decide (n < B) = true:=by simpa using hn
  have y5:decide (n < B + 100000) = true:=by simp;omega
  have hσ':=hσ
  unfold rdO at hσ'
  clear hσ
  obtain ⟨b,e⟩:=s
  simp only at hσ' hk
  cases hl:decide ((b.length:Int) < (k:Int))
  all_goals (try (
    have hk4:k ≤ 4:=by simp at hl;omega
    have hkl:k ≤ b.length:=by simp at hl;omega
    have hlt:(b.take k).length = k:=by simp;omega))
  repeat' (first | (simp -implicitDefEqProofs only [*,Nat.reduceBEq,↓reduceIte,Nat.reduceEqDiff,Nat.reduceAdd,reduceCtorEq,AO.kill,AV.kill,Int.reduceLT,Int.reduceToNat,List.getElem?_nil,Nat.reduceMul,Nat.reducePow,Nat.reduceLeDiff,rowOf_mapD,rowOf_mapI,rowOf_mapA,List.getElem?_cons_zero,List.getElem?_cons_succ,take_map_len,take_map_app,List.getElem?_cons_zero,c29,r29,v29_1,u29_2,u29_3,u29_4,u29_5,u29_6,u29_7,v29_8,v29_9,u29_10,u29_11,u29_12,u29_13,u29_14,u29_15,v29_16,v29_17,u29_18,u29_19,u29_20,u29_21,u29_22,ty73,ty29,ty3,ty30,ty5,y1,y2,y3,y4,bytes,by_,numK_0,convV,HQ_yn,HQ_yr,Loc.nz,AO.nz,bnd,sliceV,Option.getD_some,Option.getD_none,Rows_byQ,← List.map_take,← List.map_drop,Nat.sub_zero,mvcgen_simp]) | (with_reducible refine And.intro ?_ ?_) | (refine loop_nat (k) (fun _=>True) (fun j=>[(31,.d (.ro ((b.take k).map by_))),(32,I k),(33,I j),(0,.lp n 0),(1,I k),(5,I (numK (b.take k) j))]) (fun j=>[]) ?_ (Wk.keep hcl ?_ ?_ ?_) fun j hj hFj=>?_;rotate_left 1;(focus (simp [Fr.get,newF,Fr.map,AV.kill,AV.mapN,y1,y2,y3,y4,bytes,by_,numK_0,convV,HQ_yn,HQ_yr,Loc.nz,AO.nz,bnd,sliceV,Option.getD_some,Option.getD_none,Rows_byQ,← List.map_take,← List.map_drop,Nat.sub_zero]<;>fail));(focus (simp [sto,newL,Loc.kill,Loc.set,AO.kill,AV.kill,AV.mapN,y1,y2,y3,y4,bytes,by_,numK_0,convV,HQ_yn,HQ_yr,Loc.nz,AO.nz,bnd,sliceV,Option.getD_some,Option.getD_none,Rows_byQ,← List.map_take,← List.map_drop,Nat.sub_zero]<;>fail));(focus (simp [newL,Loc.kill,Loc.set,y1,y2,y3,y4,bytes,by_,numK_0,convV,HQ_yn,HQ_yr,Loc.nz,AO.nz,bnd,sliceV,Option.getD_some,Option.getD_none,Rows_byQ,← List.map_take,← List.map_drop,Nat.sub_zero]<;>fail));(try have hwj:IntKind.i64.wrap ((j:Int) + 1) = (j:Int) + 1:=IntWalk.i64_in _ (by omega))) | (refine EndX.plain ?_) | (refine nil_split (fun hn=>?_) (fun hn=>?_)) | (refine gcall_no not_false ?_) | (refine gdcall_no not_false ?_) | (refine GuardS_of _ _ _ _ _ _ (fun hg=>?_) (fun hg=>?_)) | (refine GuardD_of _ _ _ _ (fun hg=>?_) (fun hg=>?_)) | (refine CondB_of _ _ _ _ _ _ _ ?_ (fun hg=>?_) (fun hg=>?_)))
  all_goals (try (first | ((first | unfold noN | unfold Fr.below | unfold Loc.below);simp [Fr.allN,AV.allN,AV.allNL,AO.allN];done) | rfl | trivial | assumption | (intro row hrow;simp only [List.mem_map] at hrow;obtain ⟨x,_,rfl⟩:=hrow;rfl) | (refine Wk.keep hcl ?_ ?_ ?_;(focus (simp [Fr.get,y1,y2,y3,y4,bytes,by_,numK_0,convV,HQ_yn,HQ_yr,Loc.nz,AO.nz,bnd,sliceV,Option.getD_some,Option.getD_none,Rows_byQ,← List.map_take,← List.map_drop,Nat.sub_zero]<;>fail));(focus (simp [sto,y1,y2,y3,y4,bytes,by_,numK_0,convV,HQ_yn,HQ_yr,Loc.nz,AO.nz,bnd,sliceV,Option.getD_some,Option.getD_none,Rows_byQ,← List.map_take,← List.map_drop,Nat.sub_zero]<;>fail));(focus (simp<;>fail))) | (simp [allP,opd,Fr.get,Fr.below,Fr.allN,AV.allN,AV.allNL,Loc.below,AO.allN,noN,killO,killT,killD,mkNames,AO.kill,AV.kill,AV.mapN,AV.mapNL];done) | (with_reducible exact ltD (by assumption)) | omega | (simp only [decide_eq_true_eq,decide_eq_false_iff_not] at *;omega)))
  all_goals first
    | (have hk2:j < k:=ltD (by assumption)
       have h1:=numK_7 (b.take k) (k:=j + 1) (by omega)
       have h2:=numK_le (b.take k) j
       have h3:(b.take k)[j]!.toNat < 256:=(b.take k)[j]!.toNat_lt
       have e:numK (b.take k) (j + 1) = 256 * numK (b.take k) j + ((b.take k)[j]!.toNat:Int):=rfl
       obtain ⟨m,hm⟩:=Int.eq_ofNat_of_zero_le h2.1
       have e8:(2:Int) ^ min 8 IntKind.i64.bits = 256:=by decide
       rw [e8,IntWalk.i64_in (numK (b.take k) j * 256) (by omega),IntWalk.i64_in ((b.take k)[j]!.toNat:Int) (by omega),hm,or_byte (m:=m) (y:=(b.take k)[j]!.toNat) (by omega) h3,show ((m:Int) * 256 + ((b.take k)[j]!.toNat:Int)) = numK (b.take k) (j + 1) by omega]
       refine Wk.keep hcl ?_ ?_ ?_<;>simp [Fr.get,sto])
    | (refine ite_fun ?_
       unfold rdO takS flt
       simp only [*,cond_true,cond_false]
       try rw [List.take_of_length_le (by rw [List.length_drop];omega)]
       done)
    | (refine ite_fun ?_
       unfold rdO takS flt
       simp only [*,cond_true,cond_false,List.map_nil])
    | (refine ite_fun ?_
       unfold rdO takS flt
       simp only [*,cond_true,cond_false]
       rw [List.take_of_length_le (by rw [List.length_drop];omega)])
    | (have hk2:j = k:=Nat.le_antisymm hj (geD (by assumption))
       unfold takN
       simp only [hl,cond_false,hk2])
    | (unfold takN
       simp only [hl,cond_true])
def Reads (P:Program) (f:FuncId) (args:List AV) (V:RdS → AV) (S:RdS → RdS) (pre:RdS → Prop):Prop:=∀ (B:Nat) (σ:Sto) (n:Nat) (b:List UInt8) (e:Int),n < B → σ n = rdO b e → pre (b,e) → ACalls P f (.lp n 0 :: args) σ B [] (fun v σ'=>v = V (b,e) ∧ σ' = sto [(n,rdO (S (b,e)).1 (S (b,e)).2)] σ)
theorem take_R (k:Nat):Reads Try.prog 29 [I k] (fun s=>I (takN s k)) (fun s=>takS s k) (fun s=>k ≤ 4 ∨ s.1.length < k):=fun B σ n b e hn hσ hp=>take_r (b,e) k hp B σ n hn hσ
def hid1 (n:Nat) (σ:Sto):Sto:=fun x=>if x = n then .dead else σ x
theorem hid1_sto {n:Nat} {σ:Sto} {on:AO} (h:σ n = on):sto [(n,on)] (hid1 n σ) = σ:=by
  funext x
  simp only [sto,hid1]
  split
  · rename_i e;subst e;exact h.symm
  · rfl
theorem hid1_closed {n B:Nat} {σ:Sto} (h:ClosedS B σ):ClosedS B (hid1 n σ):=fun x=>by
  unfold hid1
  split
  · exact ⟨rfl,fun _=>rfl⟩
  · exact h x
theorem sto1_swap {Q:Loc} {n:Nat} {A:AO} {pre:Loc} {r:Sto} (h:∀ p ∈ Q,(p.1 = n) = False):sto (Q ++ (n,A) :: pre) r = sto ((n,A) :: (Q ++ pre)) r:=by
  funext x
  induction Q with
  | nil=>rfl
  | cons q Q ih =>
    have h1:=h q (by simp)
    have h2:=ih fun p hp=>h p (List.mem_cons_of_mem _ hp)
    obtain ⟨q1,q2⟩:=q
    simp only [List.cons_append,sto_cons] at h1 h2 ⊢
    by_cases e3:x = q1
    · have e1:¬ x = n:=fun e=>(of_eq_false h1) (e3.symm.trans e)
      simp only [if_pos e3,if_neg e1]
    · simp only [if_neg e3]
      exact h2
theorem sto1_over (n:Nat) (A A':AO) (pre:Loc) (r:Sto):sto [(n,A')] (sto ((n,A) :: pre) r) = sto ((n,A') :: pre) r:=by
  funext x
  simp only [sto]
  split<;>rfl
theorem rd_end {F σ:Sto} {n:Nat} {A:AO} (h1:F n = A) (h3:∀ x,x ≠ n → F x = σ x):F = fun x=>if x = n then A else σ x:=by
  funext x
  by_cases e1:x = n
  · subst e1;rw [h1,if_pos rfl]
  · rw [h3 x e1,if_neg e1]
theorem call_r0 {P:Program} {B:Nat} {T0:List Nat} {r:Sto} {a:Fr} {d:Option Nat} {K:Fr → Loc → Prop} {f:FuncId} {args:List Operand} {vs:List AV} {V:RdS → AV} {S:RdS → RdS} {pc:RdS → Prop} {b:List UInt8} {e:Int} {n:Nat} {pre:Loc} (hn:n < B + 100000) (he:enters P f = true) (hR:Reads P f vs V S pc) (hv:(args.map fun x=>(opd a x).2) = .lp n 0 :: vs) (hs:pc (b,e)) (hpre:∀ p ∈ pre,(p.1 = n) = False) (hp:allP (args.map fun x=>(opd a x).1)) (hF:Fr.below (B + 100000) a) (hL:Loc.below (B + 100000) ((n,rdO b e) :: pre)) (hk:K (putO d (V (b,e)) a) ((n,rdO (S (b,e)).1 (S (b,e)).2) :: pre)):SEcall P B T0 r d K a ((n,rdO b e) :: pre) f args:=by
  have e1:sto ((n,rdO b e) :: pre) r = sto ((n,rdO b e) :: pre) r:=sto1_swap (Q:=[]) (fun p hp=>hpre p (List.mem_append_left (bs:=pre) hp))
  have e2:∀ A,sto [(n,A)] (sto ((n,rdO b e) :: pre) r) = sto ((n,A) :: pre) r:=fun A=>by rw [e1];exact sto1_over _ _ _ _ _
  unfold SEcall
  refine ⟨[],fun v' σ'=>v' = V (b,e) ∧ σ' = sto [(n,rdO (S (b,e)).1 (S (b,e)).2)] (sto ((n,rdO b e) :: pre) r),a,_,Wk.refl _ _ _ _ _,he,(fun x hx=>by cases hx),by rw [hv];exact hR _ _ n b e hn (by rw [e1];simp [sto]) hs,hp,hF,hL,fun v' σ' ⟨h1,h2⟩=>⟨(n,rdO (S (b,e)).1 (S (b,e)).2) :: pre,by rw [h2,e2],by rw [h1];exact hk⟩⟩
theorem call_r1 {P:Program} {B:Nat} {T0:List Nat} {r:Sto} {a:Fr} {d:Option Nat} {K:Fr → Loc → Prop} {f:FuncId} {args:List Operand} {vs:List AV} {V:RdS → AV} {S:RdS → RdS} {pc:RdS → Prop} {b:List UInt8} {e:Int} {n:Nat} {p1:Nat × AO} {pre:Loc} (hn:n < B + 100000) (he:enters P f = true) (hR:Reads P f vs V S pc) (hv:(args.map fun x=>(opd a x).2) = .lp n 0 :: vs) (hs:pc (b,e)) (hpre:∀ p ∈ p1 :: pre,(p.1 = n) = False) (hp:allP (args.map fun x=>(opd a x).1)) (hF:Fr.below (B + 100000) a) (hL:Loc.below (B + 100000) (p1 :: (n,rdO b e) :: pre)) (hk:K (putO d (V (b,e)) a) ((n,rdO (S (b,e)).1 (S (b,e)).2) :: p1 :: pre)):SEcall P B T0 r d K a (p1 :: (n,rdO b e) :: pre) f args:=by
  have e1:sto (p1 :: (n,rdO b e) :: pre) r = sto ((n,rdO b e) :: p1 :: pre) r:=sto1_swap (Q:=[p1]) (fun p hp=>hpre p (List.mem_append_left (bs:=pre) hp))
  have e2:∀ A,sto [(n,A)] (sto (p1 :: (n,rdO b e) :: pre) r) = sto ((n,A) :: p1 :: pre) r:=fun A=>by rw [e1];exact sto1_over _ _ _ _ _
  unfold SEcall
  refine ⟨[],fun v' σ'=>v' = V (b,e) ∧ σ' = sto [(n,rdO (S (b,e)).1 (S (b,e)).2)] (sto (p1 :: (n,rdO b e) :: pre) r),a,_,Wk.refl _ _ _ _ _,he,(fun x hx=>by cases hx),by rw [hv];exact hR _ _ n b e hn (by rw [e1];simp [sto]) hs,hp,hF,hL,fun v' σ' ⟨h1,h2⟩=>⟨(n,rdO (S (b,e)).1 (S (b,e)).2) :: p1 :: pre,by rw [h2,e2],by rw [h1];exact hk⟩⟩
theorem call_r2 {P:Program} {B:Nat} {T0:List Nat} {r:Sto} {a:Fr} {d:Option Nat} {K:Fr → Loc → Prop} {f:FuncId} {args:List Operand} {vs:List AV} {V:RdS → AV} {S:RdS → RdS} {pc:RdS → Prop} {b:List UInt8} {e:Int} {n:Nat} {p1:Nat × AO} {p2:Nat × AO} {pre:Loc} (hn:n < B + 100000) (he:enters P f = true) (hR:Reads P f vs V S pc) (hv:(args.map fun x=>(opd a x).2) = .lp n 0 :: vs) (hs:pc (b,e)) (hpre:∀ p ∈ p1 :: p2 :: pre,(p.1 = n) = False) (hp:allP (args.map fun x=>(opd a x).1)) (hF:Fr.below (B + 100000) a) (hL:Loc.below (B + 100000) (p1 :: p2 :: (n,rdO b e) :: pre)) (hk:K (putO d (V (b,e)) a) ((n,rdO (S (b,e)).1 (S (b,e)).2) :: p1 :: p2 :: pre)):SEcall P B T0 r d K a (p1 :: p2 :: (n,rdO b e) :: pre) f args:=by
  have e1:sto (p1 :: p2 :: (n,rdO b e) :: pre) r = sto ((n,rdO b e) :: p1 :: p2 :: pre) r:=sto1_swap (Q:=[p1,p2]) (fun p hp=>hpre p (List.mem_append_left (bs:=pre) hp))
  have e2:∀ A,sto [(n,A)] (sto (p1 :: p2 :: (n,rdO b e) :: pre) r) = sto ((n,A) :: p1 :: p2 :: pre) r:=fun A=>by rw [e1];exact sto1_over _ _ _ _ _
  unfold SEcall
  refine ⟨[],fun v' σ'=>v' = V (b,e) ∧ σ' = sto [(n,rdO (S (b,e)).1 (S (b,e)).2)] (sto (p1 :: p2 :: (n,rdO b e) :: pre) r),a,_,Wk.refl _ _ _ _ _,he,(fun x hx=>by cases hx),by rw [hv];exact hR _ _ n b e hn (by rw [e1];simp [sto]) hs,hp,hF,hL,fun v' σ' ⟨h1,h2⟩=>⟨(n,rdO (S (b,e)).1 (S (b,e)).2) :: p1 :: p2 :: pre,by rw [h2,e2],by rw [h1];exact hk⟩⟩
end Go.Proofs.Ytijpmidnclbhpaa
namespace Go.Proofs.Ytijpmidnclbhpaa
open Go.RowKit
set_option maxHeartbeats 4000000
set_option maxRecDepth 20000
attribute [local irreducible] SW OSW SWL SWLn SWD SEcall SEcallv SDv SE SO1 SOg ACalls ACallv Wk EndV
set_option linter.unusedSimpArgs false
set_option linter.unusedVariables false
theorem aokB (n:Nat) (cs:List AV):(AO.box cs).kill n = .box (cs.map (AV.kill n)):=rfl
theorem aokD (n:Nat):AO.dead.kill n = .dead:=rfl
theorem aokA (n k:Nat) (E:TypeId) (rows:List (List RV)):(AO.arr k E rows).kill n = .arr k E rows:=rfl
theorem rdO_allN (b:List UInt8) (e:Int) (q:Nat → Bool):(rdO b e).allN q = true:=rfl
theorem rdO_kill (b:List UInt8) (e:Int) (n:Nat):(rdO b e).kill n = rdO b e:=rfl
theorem takN_b (s:RdS) {k:Nat} (h:k ≤ 4):0 ≤ takN s k ∧ takN s k < 4294967296:=by
  unfold takN
  cases decide ((s.1.length:Int) < (k:Int))
  · exact numK_7 _ h
  · exact ⟨Int.le_refl 0,(by decide:(0:Int) < 4294967296)⟩
theorem takN_1 (s:RdS):0 ≤ takN s 1 ∧ takN s 1 < 256:=by
  unfold takN
  cases decide ((s.1.length:Int) < ((1:Nat):Int))
  · exact numK_le _ 1
  · exact ⟨Int.le_refl 0,(by decide:(0:Int) < 256)⟩
theorem prEta (s:RdS):(s.1,s.2) = s:=rfl
theorem isB_byR (l:List UInt8):isBytes (l.map by_) = True:=by
  refine eq_true ?_
  intro r hr
  simp only [List.mem_map] at hr;obtain ⟨x,_,rfl⟩:=hr;rfl
def txt (l:List UInt8):ByteArray:=⟨l.toArray⟩
theorem txtW (l:List UInt8):convV.textOf' (bytesOf (l.map by_)) = txt l:=by
  have:bytesOf (l.map by_) = l:=by
    unfold bytesOf
    induction l with
    | nil=>rfl
    | cons x l ih =>
      rw [List.map_cons,List.filterMap_cons]
      have hx:rowByte (by_ x) = some x:=by simp [rowByte,by_]
      rw [hx,ih]
  rw [this];rfl
theorem take_Rn (x:Int) (h:0 ≤ x):Reads Try.prog 29 [I x] (fun s=>I (takN s x.toNat)) (fun s=>takS s x.toNat) (fun s=>x.toNat ≤ 4 ∨ s.1.length < x.toNat):=by
  have:=take_R x.toNat
  rwa [show ((x.toNat:Nat):Int) = x by omega] at this
def bitS (s:RdS):RdS:=bif decide (takN s 1 > 1) && (takS s 1).2 == 0 then ((takS s 1).1,4) else takS s 1
def bitN (s:RdS):Bool:=takN s 1 == 1
def txBad (s:RdS):Bool:=decide (takN s 1 > ((takS s 1).1.length:Int))
def textS (s:RdS):RdS:=bif txBad s then takS (takS s 1) (takN s 1).toNat else ((takS s 1).1.drop (takN s 1).toNat,(takS s 1).2)
def textN (s:RdS):ByteArray:=bif txBad s then ⟨#[]⟩ else txt ((takS s 1).1.take (takN s 1).toNat)
def itS (s:RdS):Nat → RdS
  | 0=>takS s 1
  | k + 1=>takS (itS s k) 1
def itC (s:RdS):Nat → Nat → Nat
  | 0,k=>k
  | f + 1,k=>bif (itS s k).2 == 0 then itC s f (k + 1) else k
def itM (s:RdS):Nat:=itC s (takN s 1).toNat 0
def itL (s:RdS) (k:Nat):List Int:=(List.range k).map fun j=>takN (itS s j) 1
theorem itL_len (s:RdS) (k:Nat):(itL s k).length = k:=by simp [itL]
theorem itL_0 (s:RdS):itL s 0 = []:=rfl
theorem itL_next (s:RdS) (k:Nat):itL s k ++ [takN (itS s k) 1] = itL s (k + 1):=by simp [itL,List.range_succ]
theorem itS_next (s:RdS) (k:Nat):takS (itS s k) 1 = itS s (k + 1):=rfl
theorem itS_0 (s:RdS):itS s 0 = takS s 1:=rfl
theorem itC_go {s:RdS} {n k M:Nat} (h:itC s (n - k) k = M) (hk:k < n) (h0:((itS s k).2 == 0) = true):itC s (n - (k + 1)) (k + 1) = M:=by
  obtain ⟨f,hf⟩:∃ f,n - k = f + 1:=⟨n - k - 1,by omega⟩
  rw [hf,itC,h0] at h
  rw [show n - (k + 1) = f by omega];exact h
theorem itC_no {s:RdS} {n k M:Nat} (h:itC s (n - k) k = M) (h0:((itS s k).2 == 0) = false):k = M:=by
  cases hf:n - k with
  | zero=>rw [hf] at h;exact h
  | succ f=>rw [hf,itC,h0] at h;exact h
theorem itC_end {s:RdS} {n k M:Nat} (h:itC s (n - k) k = M) (hk:n ≤ k):k = M:=by
  rw [show n - k = 0 by omega] at h;exact h
def intsS (s:RdS):RdS:=itS s (itM s)
def intsN (s:RdS):List Int:=itL s (itM s)
structure RulD where
  pre:ByteArray
  frz:Int
  drop:Int
def RulD.av (r:RulD):AV:=.agg [.d (.v (.string r.pre)),I r.frz,I r.drop]
def rul2 (s:RdS):RdS:=takS (textS s) 4
def ruleS (s:RdS):RdS:=takS (rul2 s) 4
def ruleN (s:RdS):RulD:=⟨textN s,IntKind.i64.wrap (takN (textS s) 4 - 1),IntKind.i64.wrap (takN (rul2 s) 4 - 1)⟩
def ask2 (s:RdS):RdS:=takS (takS s 3) 2
def askS (s:RdS):RdS:=takS (ask2 s) 1
def askN (s:RdS):AskD:=⟨takN s 3,takN (takS s 3) 2,takN (ask2 s) 1⟩
def askV (a:AskD):AV:=.agg (a.row.map .d)
def part2 (s:RdS):RdS:=takS (takS s 1) 2
def partS (s:RdS):RdS:=intsS (part2 s)
def partN (s:RdS):PartD:=⟨takN s 1,takN (takS s 1) 2,intsN (part2 s)⟩
def partV (p:PartD):AV:=.agg (p.row.map .d)
def vr1 (s:RdS):RdS:=takS s 3
def vr2 (s:RdS):RdS:=textS (vr1 s)
def vr3 (s:RdS):RdS:=textS (vr2 s)
def vr4 (s:RdS):RdS:=bitS (vr3 s)
def vr5 (s:RdS):RdS:=bitS (vr4 s)
def vr6 (s:RdS):RdS:=takS (vr5 s) 2
def vr7 (s:RdS):RdS:=takS (vr6 s) 4
def vr8 (s:RdS):RdS:=takS (vr7 s) 1
def vr9 (s:RdS):RdS:=intsS (vr8 s)
def vr10 (s:RdS):RdS:=takS (vr9 s) 1
def vr11 (s:RdS):RdS:=takS (vr10 s) 2
def verS (s:RdS):RdS:=takS (vr11 s) 4
def verN (s:RdS):VerD:=⟨takN s 3,textN (vr1 s),textN (vr2 s),bitN (vr3 s),bitN (vr4 s),takN (vr5 s) 2,takN (vr6 s) 4,takN (vr7 s) 1,intsN (vr8 s),takN (vr9 s) 1,takN (vr10 s) 2,takN (vr11 s) 4⟩
def verV (v:VerD):AV:=.agg (v.row.map .d)
end Go.Proofs.Ytijpmidnclbhpaa
