/- list.Versions. -/
import Derived.Test.YtikgiadbkjmabaaLkR
import Derived.Test.YtikgiadbkjmabaaLkE
import Derived.Test.YtikgiadbkjmabaaTypes
import Derived.Test.YtikgiadbkjmabaaBase
import Derived.Test.YtikgiadbkjmabaaLkK

/- The reference's VersionsOf;rows that are the same. -/
namespace Go.Proofs.Ytikgiadbkjmabaa
open Go.RowKit
set_option maxRecDepth 100000
theorem r6:Try.f6.results.toList = [.tmp 8,.tmp 9,.tmp 10]:=by kernel_rfl
def c7_1:SC:=(.seq (.reg [SO.mk (some 4) (.move (.const (Value.bool false))) none]) (.keep [4] .ret))
theorem u7_1:type_of% (@swc _ _ c7_1.eq_1):=@swc _ _ c7_1.eq_1
def c7_2:SC:=(.cond (.tmp 10) c7_1 .skip)
theorem u7_2:type_of% (@swc _ _ c7_2.eq_1):=@swc _ _ c7_2.eq_1
def c7_3:SC:=(.cond (.tmp 14) .skip (.exit 0))
theorem u7_3:type_of% (@swc _ _ c7_3.eq_1):=@swc _ _ c7_3.eq_1
def o7_4:List SO:=((SO.mk (some 25) (.bin .neq 43 (.tmp 20) (.tmp 24)) none) :: [])
theorem v7_4:type_of% (@swd _ _ o7_4.eq_1):=@swd _ _ o7_4.eq_1
def o7_5:List SO:=((SO.mk (some 21) (.move (.tmp 1)) none) :: (SO.mk (some 22) (.move (.tmp 5)) none) :: (SO.mk (some 23) (.iaddr 29 (.tmp 21) (.tmp 22)) none) :: (SO.mk (some 24) (.load 43 (.tmp 23)) none) :: o7_4)
theorem v7_5:type_of% (@swd _ _ o7_5.eq_1):=@swd _ _ o7_5.eq_1
def o7_6:List SO:=((SO.mk (some 17) (.move (.tmp 0)) none) :: (SO.mk (some 18) (.move (.tmp 5)) none) :: (SO.mk (some 19) (.iaddr 29 (.tmp 17) (.tmp 18)) none) :: (SO.mk (some 20) (.load 43 (.tmp 19)) none) :: o7_5)
theorem v7_6:type_of% (@swd _ _ o7_6.eq_1):=@swd _ _ o7_6.eq_1
theorem m7_6 (B:Nat):mkNames B o7_6 = []:=(rfl)
def c7_7:SC:=(.seq (.reg [SO.mk (some 4) (.move (.const (Value.bool false))) none]) (.keep [4] .ret))
theorem u7_7:type_of% (@swc _ _ c7_7.eq_1):=@swc _ _ c7_7.eq_1
def c7_8:SC:=(.cond (.tmp 25) c7_7 .skip)
theorem u7_8:type_of% (@swc _ _ c7_8.eq_1):=@swc _ _ c7_8.eq_1
def c7_9:SC:=(.reg [SO.mk (some 15) (.move (.tmp 5)) none,SO.mk (some 16) (.bin .add 3 (.tmp 15) (.const (Value.int .i64 1))) none,SO.mk (some 5) (.move (.tmp 16)) none])
theorem u7_9:type_of% (@swc _ _ c7_9.eq_1):=@swc _ _ c7_9.eq_1
def c7_10:SC:=(.seq (.block 1 (.seq (.dreg false o7_6 []) (.keep [25,5,1,0] c7_8))) (.keep [5,1,0] c7_9))
theorem u7_10:type_of% (@swc _ _ c7_10.eq_1):=@swc _ _ c7_10.eq_1
def c7_11:SC:=(.seq (.seq (.reg [SO.mk (some 11) (.move (.tmp 5)) none,SO.mk (some 12) (.move (.tmp 0)) none,SO.mk (some 13) (.len 29 (.tmp 12)) none,SO.mk (some 14) (.bin .lss 3 (.tmp 11) (.tmp 13)) none]) (.keep [14,0,1,5] c7_3)) (.keep [5,1,0] c7_10))
theorem u7_11:type_of% (@swc _ _ c7_11.eq_1):=@swc _ _ c7_11.eq_1
def c7_12:SC:=(.block 0 (.loop (.keep [0,1,5] c7_11)))
theorem u7_12:type_of% (@swc _ _ c7_12.eq_1):=@swc _ _ c7_12.eq_1
def c7_13:SC:=(.seq (.reg [SO.mk (some 4) (.move (.const (Value.bool true))) none]) (.keep [4] .ret))
theorem u7_13:type_of% (@swc _ _ c7_13.eq_1):=@swc _ _ c7_13.eq_1
def c7_14:SC:=(.seq (.seq (.reg [SO.mk (some 5) (.move (.const (Value.int .i64 0))) none]) (.keep [0,1,5] c7_12)) (.keep [] c7_13))
theorem u7_14:type_of% (@swc _ _ c7_14.eq_1):=@swc _ _ c7_14.eq_1
def c7_15:SC:=(.seq (.seq (.reg [SO.mk (some 6) (.move (.tmp 0)) none,SO.mk (some 7) (.len 29 (.tmp 6)) none,SO.mk (some 8) (.move (.tmp 1)) none,SO.mk (some 9) (.len 29 (.tmp 8)) none,SO.mk (some 10) (.bin .neq 3 (.tmp 7) (.tmp 9)) none]) (.keep [10,0,1] c7_2)) (.keep [0,1] c7_14))
theorem u7_15:type_of% (@swc _ _ c7_15.eq_1):=@swc _ _ c7_15.eq_1
def c7:SC:=(.seq (.reg [SO.mk (some 4) (.move (.const (Value.bool false))) none]) (.keep [0,1] c7_15))
theorem c7_eq:annC Try.f7 = some c7:=by kernel_rfl
theorem r7:Try.f7.results.toList = [.tmp 4]:=by kernel_rfl
theorem e7:enters Try.prog 7 = true:=by kernel_rfl
end Go.Proofs.Ytikgiadbkjmabaa
namespace Go.Proofs.Ytikgiadbkjmabaa
open Go.RowKit
set_option maxHeartbeats 4000000
set_option maxRecDepth 20000
attribute [local irreducible] SW OSW SWL SWLn SWD SEcall SEcallv SDv SE SO1 SOg ACalls ACallv Wk EndV
set_option linter.unusedSimpArgs false
set_option linter.unusedVariables false
def latB (l:List VerD) (i:Nat):Bool:=(i == 0) || !(l[i - 1]!.key.toList == l[i]!.key.toList)
def pgV (e:Int) (R:List RowD) (most:Int):AV:=bif e == 0 then .tup [.d (.ro ((pageL R most).map RowD.row)),Bo (decide ((R.length:Int) > most)),I 0] else .tup [.d (.ro []),Bo false,I e]
theorem listF_most {s:SttD} {name pre:ByteArray} {most:Int} (h:listF s name pre most = 0):1 ≤ most ∧ most ≤ 50:=by
  unfold listF at h
  have h50:inR most 1 50 = true:=by
    cases h1:mayF s<;>rw [h1] at h<;>simp only [cond_true,cond_false] at h
    · cases h
    · cases h2:s.bkts.any (namedB name)<;>rw [h2] at h<;>simp only [cond_true,cond_false] at h
      · cases h
      · cases h3:(ruleF pre 0 0 == 0)<;>rw [h3] at h<;>simp only [cond_true,cond_false] at h
        · rw [h] at h3;cases h3
        · cases h4:inR most 1 50<;>rw [h4] at h<;>first | rfl | (simp at h)
  simp only [inR,Bool.and_eq_true,decide_eq_true_eq] at h50
  omega
theorem oK_all (s:SttD) (name pre:ByteArray):(oK s.vers name pre s.vers.length).length ≤ s.vers.length:=oK_len _ _ _ _ (Nat.le_refl _)
theorem feqW (a:ByteArray) (b:Bool) (c:Int) (d e:Bool) (f g:Int) (a':ByteArray) (b':Bool) (c':Int) (d' e':Bool) (f' g':Int):feq Try.prog 20 43 [.d (.v (.string a)),.d (.v (.bool b)),.d (.v (.int .i64 c)),.d (.v (.bool d)),.d (.v (.bool e)),.d (.v (.int .i64 f)),.d (.v (.int .i64 g))] [.d (.v (.string a')),.d (.v (.bool b')),.d (.v (.int .i64 c')),.d (.v (.bool d')),.d (.v (.bool e')),.d (.v (.int .i64 f')),.d (.v (.int .i64 g'))] = some (True,(a.toList == a'.toList && (b == b' && (c == c' && (d == d' && (e == e' && (f == f' && (g == g' && true)))))))):=by
  have h:∃ q,feq Try.prog 20 43 [.d (.v (.string a)),.d (.v (.bool b)),.d (.v (.int .i64 c)),.d (.v (.bool d)),.d (.v (.bool e)),.d (.v (.int .i64 f)),.d (.v (.int .i64 g))] [.d (.v (.string a')),.d (.v (.bool b')),.d (.v (.int .i64 c')),.d (.v (.bool d')),.d (.v (.bool e')),.d (.v (.int .i64 f')),.d (.v (.int .i64 g'))] = some (q,(a.toList == a'.toList && (b == b' && (c == c' && (d == d' && (e == e' && (f == f' && (g == g' && true)))))))) ∧ q:=by
    refine ⟨True ∧ True ∧ IntKind.i64 = IntKind.i64 ∧ True ∧ True ∧ IntKind.i64 = IntKind.i64 ∧ IntKind.i64 = IntKind.i64 ∧ True,?_,by simp⟩
    kernel_rfl
  obtain ⟨q,h1,h2⟩:=h
  rw [h1,eq_true h2]
theorem sameRows_self (l:List RowD):Pure Try.prog 7 [.d (.ro (l.map RowD.row)),.d (.ro (l.map RowD.row))] (Bo true):=by
  refine pure_of follows Try.func7 c7_eq r7 (Nat.le_of_ble_eq_true rfl) fun B σ hcl hsz=>?_
  have hlen:l.length ≤ 2 ^ 47:=by simpa using (show Sized (.ro (l.map RowD.row)) from hsz (.d (.ro (l.map RowD.row))) (by simp)).len
  clear hsz
  repeat' (first | (simp -implicitDefEqProofs only [*,Nat.reduceBEq,↓reduceIte,Nat.reduceEqDiff,Nat.reduceAdd,reduceCtorEq,AO.kill,Int.reduceLT,Int.reduceToNat,List.getElem?_nil,Nat.reduceMul,Nat.reducePow,Nat.reduceLeDiff,rowOf_mapD,rowOf_mapI,rowOf_mapA,List.getElem?_cons_zero,List.getElem?_cons_succ,take_map_len,take_map_app,List.getElem?_cons_zero,c7,r7,u7_1,u7_2,u7_3,v7_4,v7_5,v7_6,m7_6,u7_7,u7_8,u7_9,u7_10,u7_11,u7_12,u7_13,u7_14,u7_15,ty29,ty3,ty43,RowD.row,bne_self_eq_false,beq_self_eq_true,feqW,Bool.and_self,mvcgen_simp]) | (with_reducible refine And.intro ?_ ?_) | (refine loop_nat (l.length) (fun _=>True) (fun k=>[(0,.d (.ro (l.map RowD.row))),(1,.d (.ro (l.map RowD.row))),(5,I k)]) (fun k=>[]) ?_ (Wk.keep hcl ?_ ?_ ?_) fun k hk hF=>?_;rotate_left 1;(focus (simp [Fr.get,newF,Fr.map,AV.kill,AV.mapN,RowD.row,bne_self_eq_false,beq_self_eq_true,feqW,Bool.and_self]<;>fail));(focus (simp [sto,newL,Loc.kill,Loc.set,AO.kill,AV.kill,AV.mapN,RowD.row,bne_self_eq_false,beq_self_eq_true,feqW,Bool.and_self]<;>fail));(focus (simp [newL,Loc.kill,Loc.set,RowD.row,bne_self_eq_false,beq_self_eq_true,feqW,Bool.and_self]<;>fail));(try have hw:IntKind.i64.wrap ((k:Int) + 1) = (k:Int) + 1:=IntWalk.i64_in _ (by omega))) | (refine EndX.plain ?_) | (refine nil_split (fun hn=>?_) (fun hn=>?_)) | (refine gcall_no not_false ?_) | (refine gdcall_no not_false ?_) | (refine GuardS_of _ _ _ _ _ _ (fun hg=>?_) (fun hg=>?_)) | (refine GuardD_of _ _ _ _ (fun hg=>?_) (fun hg=>?_)) | (refine CondB_of _ _ _ _ _ _ _ ?_ (fun hg=>?_) (fun hg=>?_)))
  all_goals (try (first | ((first | unfold noN | unfold Fr.below | unfold Loc.below);simp [Fr.allN,AV.allN,AV.allNL,AO.allN];done) | rfl | trivial | assumption | (intro row hrow;simp only [List.mem_map] at hrow;obtain ⟨x,_,rfl⟩:=hrow;rfl) | (refine Wk.keep hcl ?_ ?_ ?_;(focus (simp [Fr.get,RowD.row,bne_self_eq_false,beq_self_eq_true,feqW,Bool.and_self]<;>fail));(focus (simp [sto,RowD.row,bne_self_eq_false,beq_self_eq_true,feqW,Bool.and_self]<;>fail));(focus (simp<;>fail))) | (simp [allP,opd,Fr.get,Fr.below,Fr.allN,AV.allN,AV.allNL,Loc.below,AO.allN,noN,killO,killT,killD,mkNames,AO.kill,AV.kill,AV.mapN,AV.mapNL];done) | (with_reducible exact ltD (by assumption)) | omega | (simp only [decide_eq_true_eq,decide_eq_false_iff_not] at *;omega)))
end Go.Proofs.Ytikgiadbkjmabaa

/- A call that is handed an array of one's own,only read from then on. -/
namespace Go.Proofs.Ytikgiadbkjmabaa
open Go.RowKit
set_option maxHeartbeats 4000000
set_option maxRecDepth 20000
attribute [local irreducible] SW OSW SWL SWLn SWD SEcall SEcallv SDv SE SO1 SOg ACalls ACallv Wk EndV
set_option linter.unusedSimpArgs false
set_option linter.unusedVariables false
theorem Wk.freeze {B:Nat} {T0:List Nat} {r:Sto} {a:Fr} {l:Loc} {m k:Nat} {E:TypeId} {rows:List (List RV)} (hB:ClosedS B r) (hm:B ≤ m) (ho:sto l r m = .arr k E rows):Wk B T0 r a l (Fr.map (AV.fz1 m rows) a) (Loc.kill m l):=by
  unfold Wk
  intro t w K h1 h2
  obtain ⟨K',g1,g2⟩:=freeze_ok (N:=t.size) (T0:=T0) (act:={ tmps:=t,defers:=[] }) hB ⟨h1,h2,rfl,rfl⟩ hm ho
  exact ⟨K',g1,g2.rs,g2.rf⟩
theorem call_fz {P:Program} {B:Nat} {T0:List Nat} {r:Sto} {a:Fr} {l:Loc} {d:Option Nat} {K:Fr → Loc → Prop} {f:FuncId} {args:List Operand} {vs:List AV} {v:AV} {m k:Nat} {E:TypeId} {rows:List (List RV)} (hB:ClosedS B r) (hm:B ≤ m) (ho:sto l r m = .arr k E rows) (he:enters P f = true) (hC:Pure P f vs v) (hv:(args.map fun x=>(opd (Fr.map (AV.fz1 m rows) a) x).2) = vs) (hp:allP (args.map fun x=>(opd (Fr.map (AV.fz1 m rows) a) x).1)) (hF:Fr.below (B + 100000) (Fr.map (AV.fz1 m rows) a)) (hL:Loc.below (B + 100000) (Loc.kill m l)) (hk:K (putO d v (Fr.map (AV.fz1 m rows) a)) (Loc.kill m l)):SEcall P B T0 r d K a l f args:=by
  unfold SEcall
  unfold Pure at hC
  exact ⟨[],fun v' σ'=>v' = v ∧ σ' = sto (Loc.kill m l) r,_,_,Wk.freeze hB hm ho,he,by simp,by rw [hv];exact hC _ _,hp,hF,hL,fun v' σ' ⟨h1,h2⟩=>⟨_,h2,by rw [h1];exact hk⟩⟩
end Go.Proofs.Ytikgiadbkjmabaa
namespace Go.Proofs.Ytikgiadbkjmabaa
open Go.RowKit
set_option maxRecDepth 100000
def o5_1:List SO:=((SO.mk (some 23) (.call 10 [(.tmp 19),(.tmp 20),(.tmp 21),(.tmp 22)]) none) :: (SO.mk (some 11) (.move (.tmp 23)) none) :: [])
def c5_2:SC:=(.seq (.reg [SO.mk (some 26) (.move (.tmp 11)) none,SO.mk (some 8) (.move (.const (Value.slice none 0 0))) none,SO.mk (some 9) (.move (.const (Value.bool false))) none,SO.mk (some 10) (.move (.tmp 26)) none]) (.keep [8,9,10] .ret))
def c5_3:SC:=(.cond (.tmp 25) c5_2 .skip)
def c5_4:SC:=(.seq (.reg [SO.mk (some 24) (.move (.tmp 11)) none,SO.mk (some 25) (.bin .neq 30 (.tmp 24) (.const (Value.int .i64 0))) none]) (.keep [25,11,4,1,2,3] c5_3))
def o5_5:List SO:=((SO.mk (some 31) (.len 38 (.tmp 30)) none) :: (SO.mk (some 32) (.move (.const (Value.int .i64 0))) none) :: [])
def o5_6:List SO:=((SO.mk (some 15) (.move (.tmp 40)) none) :: (SO.mk none (.store 41 (.tmp 16) (.tmp 42)) none) :: [])
def o5_7:List SO:=((SO.mk (some 47) (.call 12 [(.tmp 44),(.tmp 46)]) none) :: (SO.mk (some 48) (.bslice 29 1 [(0 ,(.tmp 47))]) none) :: (SO.mk (some 49) (.app 29 29 (.tmp 43) (.tmp 48)) none) :: (SO.mk (some 12) (.move (.tmp 49)) none) :: [])
def c5_8:SC:=(.reg ((SO.mk (some 43) (.move (.tmp 12)) none) :: (SO.mk (some 44) (.load 41 (.tmp 16)) none) :: (SO.mk (some 45) (.move (.tmp 15)) none) :: (SO.mk (some 46) (.bin .eql 3 (.tmp 45) (.const (Value.int .i64 0))) none) :: o5_7))
def c5_9:SC:=(.reg [SO.mk (some 50) (.bin .add 3 (.tmp 38) (.const (Value.int .i64 1))) none,SO.mk (some 38) (.move (.tmp 50)) none])
def c5_10:SC:=(.seq (.block 3 (.seq (.reg ((SO.mk (some 40) (.move (.tmp 38)) none) :: (SO.mk (some 41) (.iaddr 23 (.tmp 36) (.tmp 38)) none) :: (SO.mk (some 42) (.load 41 (.tmp 41)) none) :: (SO.mk (some 16) (.alloc 41) none) :: o5_6)) (.keep [12,16,15,38,37,36,32,31,30,3] c5_8))) (.keep [38,37,36,32,31,30,12,3] c5_9))
def c5_11:SC:=(.seq (.cond (.tmp 39) .skip (.exit 2)) (.keep [12,38,37,36,32,31,30,3] c5_10))
def c5_12:SC:=(.seq (.reg [SO.mk (some 39) (.bin .lss 3 (.tmp 38) (.tmp 37)) none]) (.keep [39,36,37,38,32,31,30,12,3] c5_11))
def c5_13:SC:=(.block 2 (.loop (.keep [36,37,38,32,31,30,12,3] c5_12)))
def c5_14:SC:=(.seq (.reg [SO.mk (some 36) (.move (.tmp 14)) none,SO.mk (some 37) (.len 23 (.tmp 36)) none,SO.mk (some 38) (.move (.const (Value.int .i64 0))) none]) (.keep [36,37,38,32,31,30,12,3] c5_13))
def c5_15:SC:=(.reg [SO.mk (some 51) (.bin .add 3 (.tmp 32) (.const (Value.int .i64 1))) none,SO.mk (some 32) (.move (.tmp 51)) none])
def c5_16:SC:=(.seq (.block 1 (.seq (.reg [SO.mk (some 34) (.iaddr 38 (.tmp 30) (.tmp 32)) none,SO.mk (some 35) (.load 23 (.tmp 34)) none,SO.mk (some 14) (.move (.tmp 35)) none]) (.keep [14,32,31,30,12,3] c5_14))) (.keep [32,31,30,12,3] c5_15))
def c5_17:SC:=(.seq (.cond (.tmp 33) .skip (.exit 0)) (.keep [32,31,30,12,3] c5_16))
def c5_18:SC:=(.seq (.reg [SO.mk (some 33) (.bin .lss 3 (.tmp 32) (.tmp 31)) none]) (.keep [33,30,31,32,12,3] c5_17))
def c5_19:SC:=(.block 0 (.loop (.keep [30,31,32,12,3] c5_18)))
def o5_20:List SO:=((SO.mk (some 56) (.extract (.tmp 52) 0) none) :: (SO.mk (some 57) (.extract (.tmp 52) 1) none) :: (SO.mk (some 17) (.move (.tmp 56)) none) :: (SO.mk (some 18) (.move (.tmp 57)) none) :: [])
def c5_21:SC:=(.seq (.reg [SO.mk (some 58) (.move (.tmp 17)) none,SO.mk (some 59) (.move (.tmp 18)) none,SO.mk (some 8) (.move (.tmp 58)) none,SO.mk (some 9) (.move (.tmp 59)) none,SO.mk (some 10) (.move (.const (Value.int .i64 0))) none]) (.keep [8,9,10] .ret))
def c5_22:SC:=(.seq (.reg ((SO.mk (some 53) (.move (.tmp 12)) none) :: (SO.mk (some 54) (.move (.tmp 3)) none) :: (SO.mk (some 55) (.call 13 [(.tmp 53),(.tmp 54)]) none) :: (SO.mk (some 52) (.move (.tmp 55)) none) :: o5_20)) (.keep [17,18] c5_21))
def c5_23:SC:=(.seq (.seq (.reg ((SO.mk (some 27) (.load 28 (.tmp 4)) none) :: (SO.mk (some 28) (.move (.tmp 1)) none) :: (SO.mk (some 29) (.move (.tmp 2)) none) :: (SO.mk (some 30) (.call 11 [(.tmp 27),(.tmp 28),(.tmp 29)]) none) :: o5_5)) (.keep [30,31,32,12,3] c5_19)) (.keep [12,3] c5_22))
def c5_24:SC:=(.seq (.reg [SO.mk (some 12) (.move (.const (Value.slice none 0 0))) none]) (.keep [4,1,2,12,3] c5_23))
def c5_25:SC:=(.seq (.seq (.reg ((SO.mk (some 19) (.load 28 (.tmp 4)) none) :: (SO.mk (some 20) (.move (.tmp 1)) none) :: (SO.mk (some 21) (.move (.tmp 2)) none) :: (SO.mk (some 22) (.move (.tmp 3)) none) :: o5_1)) (.keep [11,4,1,2,3] c5_4)) (.keep [4,1,2,3] c5_24))
def c5:SC:=(.seq (.reg [SO.mk (some 4) (.box 28 (.tmp 0)) none,SO.mk (some 8) (.move (.const (Value.slice none 0 0))) none,SO.mk (some 9) (.move (.const (Value.bool false))) none,SO.mk (some 10) (.move (.const (Value.int .i64 0))) none]) (.keep [4,1,2,3] c5_25))
theorem r5:Try.f5.results.toList = [.tmp 8,.tmp 9,.tmp 10]:=by kernel_rfl
theorem e5:enters Try.prog 5 = true:=by kernel_rfl
end Go.Proofs.Ytikgiadbkjmabaa
namespace Go.Proofs.Ytikgiadbkjmabaa
open Go.RowKit
set_option maxHeartbeats 4000000
set_option maxRecDepth 20000
attribute [local irreducible] SW OSW SWL SWLn SWD SEcall SEcallv SDv SE SO1 SOg ACalls ACallv Wk EndV
set_option linter.unusedSimpArgs false
set_option linter.unusedVariables false
theorem gP_ne (l:List VerD):∀ k,0 < k → (gP l k).2 ≠ []
  | 0,h=>absurd h (Nat.lt_irrefl _)
  | k + 1,_=>by
    cases h:sameK l k
    · rw [gP_n h];simp
    · rw [gP_s h];simp
end Go.Proofs.Ytikgiadbkjmabaa
