/- Rows of keys: plain;the program's way and the document's are one. -/
import Derived.Test.YtikgiadbkjmabaaLkA
import Derived.Lib.IndexLaws
import Derived.Test.YtikgiadbkjmabaaTypes
import Derived.Test.YtikgiadbkjmabaaLkW

/- Where a delimiter of at most one byte stands in a text. -/
namespace Go.Proofs.Ytikgiadbkjmabaa
open Go.RowKit
set_option maxRecDepth 100000
def c17_1:SC:=(.seq (.reg [SO.mk (some 5) (.move (.tmp 0)) none,SO.mk (some 6) (.move (.tmp 1)) none,SO.mk (some 7) (.call 36 [(.tmp 5),(.tmp 6)]) none,SO.mk (some 4) (.move (.tmp 7)) none]) (.keep [4] .ret))
theorem u17_1:type_of% (@swc _ _ c17_1.eq_1):=@swc _ _ c17_1.eq_1
def c17:SC:=(.seq (.reg [SO.mk (some 4) (.move (.const (Value.int .i64 0))) none]) (.keep [0,1] c17_1))
theorem c17_eq:annC Try.f17 = some c17:=by kernel_rfl
theorem r17:Try.f17.results.toList = [.tmp 4]:=by kernel_rfl
theorem e17:enters Try.prog 17 = true:=by kernel_rfl
end Go.Proofs.Ytikgiadbkjmabaa
namespace Go.Proofs.Ytikgiadbkjmabaa
open Go.RowKit
set_option maxHeartbeats 4000000
set_option maxRecDepth 20000
attribute [local irreducible] SW OSW SWL SWLn SWD SEcall SEcallv SDv SE SO1 SOg ACalls ACallv Wk EndV
set_option linter.unusedSimpArgs false
set_option linter.unusedVariables false
theorem idxB_calls (s:ByteArray) (c:Int) (w:World):Calls Try.prog 56 #[.string s,.int .u8 c] w fun e w'=>e = .returned (.int .i64 (Lib.indexByte s.data.toList c.toNat.toUInt8)) ∧ w' = w:=by
  have mixed:=follows
  go_enter Try.func56,Try.ntmps56
  go_wp2
  rw [run_callFunc_extern Try.func81 (by kernel_rfl) (by kernel_rfl) (by kernel_rfl) (e:=Extern.BytealgIndexByte.indexByte) (by kernel_rfl),Lib.run_indexByteString]
  simp only [Result.andThen]
  rw [Oper.upon_value]
  go_wp2
  go_ret
  exact ⟨rfl,rfl⟩
def ixF (s d:ByteArray):Int:=bif d.size == 0 then 0 else Lib.indexByte s.data.toList (d.data.getD 0 0)
theorem one_byte {d:ByteArray} (h:d.size = 1):∃ b,d = ⟨#[b]⟩:=by
  obtain ⟨⟨l⟩⟩:=d
  match l,h with
  | [b],_=>exact ⟨b,rfl⟩
theorem no_byte {d:ByteArray} (h:d.size = 0):d = ⟨#[]⟩:=by
  obtain ⟨⟨l⟩⟩:=d
  match l,h with
  | [],_=>rfl
theorem idxL_w (s d:ByteArray) (hd:d.size ≤ 1) (w:World):Calls Try.prog 36 #[.string s,.string d] w fun e w'=>e = .returned (.int .i64 (ixF s d)) ∧ w' = w:=by
  rcases Nat.lt_or_eq_of_le hd with h | h
  · obtain rfl:=no_byte (d:=d) (by omega)
    go_enter Try.func36,Try.ntmps36
    go_wp2
    go_ret
    exact ⟨rfl,rfl⟩
  · obtain ⟨b,rfl⟩:=one_byte h
    have hcon:=idxB_calls s (b.toNat:Int)
    go_enter Try.func36,Try.ntmps36
    go_wp2_with (go_at_call 56;refine (hcon _).mono ?_;rintro e w' ⟨rfl,rfl⟩)
    · rename_i h1
      go_ret
      refine ⟨?_,rfl⟩
      have h2:=eq_of_beq h1
      rw [ByteArray.toList_eq] at h2
      unfold ixF
      rw [← h2]
      rw [show ((ByteArray.mk #[b]).size == 0) = false from rfl,cond_false]
      simp [Lib.indexByte]
    · go_ret
      exact ⟨rfl,rfl⟩
theorem idxL_p (s d:ByteArray) (hd:d.size ≤ 1):Pure Try.prog 36 [.d (.v (.string s)),.d (.v (.string d))] (I (ixF s d)):=by
  unfold Pure
  intro B σ
  unfold ACalls
  intro xs w ⟨K0,hK0⟩
  have hxs:xs = [.string s,.string d]:=by
    obtain ⟨_,_,h3,h4⟩:=hK0
    match xs,h3,h4 with
    | [x,y],h3,h4 =>
      have e1:=h4 0 _ x rfl rfl
      have e2:=h4 1 _ y rfl rfl
      cases e1 with | d e1=>cases e1 with | v _=>cases e2 with | d e2=>cases e2 with | v _=>rfl
  subst hxs
  refine (idxL_w s d hd w).mono ?_
  rintro e w' ⟨rfl,rfl⟩
  exact ⟨_,_,σ,rfl,⟨rfl,rfl⟩,fun K hK=>⟨K,Ext.refl _ _ _ _ _,hK.1,.d (.v rfl)⟩⟩
theorem e36:enters Try.prog 36 = true:=by kernel_rfl
theorem index_s (s d:ByteArray) (hd:d.size ≤ 1):Pure Try.prog 17 [.d (.v (.string s)),.d (.v (.string d))] (I (ixF s d)):=by
  refine pure_of follows Try.func17 c17_eq r17 (Nat.le_of_ble_eq_true rfl) fun B σ hcl hsz=>?_
  clear hsz
  repeat' (first | (simp -implicitDefEqProofs only [*,Nat.reduceBEq,↓reduceIte,Nat.reduceEqDiff,Nat.reduceAdd,reduceCtorEq,AO.kill,Int.reduceLT,Int.reduceToNat,List.getElem?_nil,Nat.reduceMul,Nat.reducePow,Nat.reduceLeDiff,rowOf_mapD,rowOf_mapI,rowOf_mapA,List.getElem?_cons_zero,List.getElem?_cons_succ,take_map_len,take_map_app,List.getElem?_cons_zero,c17,r17,u17_1,mvcgen_simp]) | (with_reducible refine And.intro ?_ ?_) | (refine call_ro e36 ( idxL_p s d hd) rfl ?_ ?_ ?_ ?_) | (refine gcall_ro e36 ( idxL_p s d hd) rfl ?_ ?_ ?_ ?_) | (refine dcall_ro e36 ( idxL_p s d hd) rfl ?_ ?_ ?_ ?_) | (refine gdcall_ro rfl e36 ( idxL_p s d hd) rfl ?_ ?_ ?_ ?_) | (refine EndX.plain ?_) | (refine nil_split (fun hn=>?_) (fun hn=>?_)) | (refine gcall_no not_false ?_) | (refine gdcall_no not_false ?_) | (refine GuardS_of _ _ _ _ _ _ (fun hg=>?_) (fun hg=>?_)) | (refine GuardD_of _ _ _ _ (fun hg=>?_) (fun hg=>?_)) | (refine CondB_of _ _ _ _ _ _ _ ?_ (fun hg=>?_) (fun hg=>?_)))
  all_goals (try (first | ((first | unfold noN | unfold Fr.below | unfold Loc.below);simp [Fr.allN,AV.allN,AV.allNL,AO.allN];done) | rfl | trivial | assumption | (intro row hrow;simp only [List.mem_map] at hrow;obtain ⟨x,_,rfl⟩:=hrow;rfl) | (refine Wk.keep hcl ?_ ?_ ?_;(focus (simp [Fr.get]<;>fail));(focus (simp [sto]<;>fail));(focus (simp<;>fail))) | (simp [allP,opd,Fr.get,Fr.below,Fr.allN,AV.allN,AV.allNL,Loc.below,AO.allN,noN,killO,killT,killD,mkNames,AO.kill,AV.kill,AV.mapN,AV.mapNL];done) | (with_reducible exact ltD (by assumption)) | omega | (simp only [decide_eq_true_eq,decide_eq_false_iff_not] at *;omega)))
end Go.Proofs.Ytikgiadbkjmabaa
namespace Go.Proofs.Ytikgiadbkjmabaa
open Go.RowKit
set_option maxRecDepth 20000
set_option linter.unusedSimpArgs false
set_option linter.unusedVariables false
set_option linter.unusedSimpArgs false
def comR (k:ByteArray):RowD:=⟨k,true,0,false,false,0,0⟩
def keyR (pre d:ByteArray) (v:VerD):RowD:=bif d.size != 0 && decide (ixF (v.key.extract pre.size v.key.size) d ≥ 0) then comR (v.key.extract 0 (pre.size + (ixF (v.key.extract pre.size v.key.size) d).toNat + 1)) else rowD v true
def leB (k after:ByteArray):Bool:=Op.bytesLess k.toList after.toList || k.toList == after.toList
def eqR (a b:RowD):Bool:=(a.key.toList == b.key.toList && (a.com == b.com && (a.id == b.id && (a.mark == b.mark && (a.lat == b.lat && (a.size == b.size && (a.tier == b.tier && true)))))))
theorem feqE (a:ByteArray) (b:Bool) (c:Int) (d e:Bool) (f g:Int) (a':ByteArray) (b':Bool) (c':Int) (d' e':Bool) (f' g':Int):feq Try.prog 20 43 [.d (.v (.string a)),.d (.v (.bool b)),.d (.v (.int .i64 c)),.d (.v (.bool d)),.d (.v (.bool e)),.d (.v (.int .i64 f)),.d (.v (.int .i64 g))] [.d (.v (.string a')),.d (.v (.bool b')),.d (.v (.int .i64 c')),.d (.v (.bool d')),.d (.v (.bool e')),.d (.v (.int .i64 f')),.d (.v (.int .i64 g'))] = some (True,eqR ⟨a,b,c,d,e,f,g⟩ ⟨a',b',c',d',e',f',g'⟩):=feqW a b c d e f g a' b' c' d' e' f' g'
def stepO (after:ByteArray) (o:List RowD) (r:RowD):List RowD:=bif leB r.key after || (decide (0 < o.length) && eqR o[o.length - 1]! r) then o else o ++ [r]
def stepV (pre d after:ByteArray) (o:List RowD) (v:VerD):List RowD:=bif v.mark then o else stepO after o (keyR pre d v)
def oG (pre d after:ByteArray) (G:List (List VerD)):List RowD:=G.foldl (fun o g=>stepV pre d after o g[0]!) []
def oL (pre d after:ByteArray) (l:List VerD) (i:Nat):List RowD:=(List.range i).foldl (fun o i=>bif latB l i then stepV pre d after o l[i]! else o) []
theorem oL_s (pre d after:ByteArray) (l:List VerD) (i:Nat):oL pre d after l (i + 1) = bif latB l i then stepV pre d after (oL pre d after l i) l[i]! else oL pre d after l i:=by
  simp [oL,List.range_succ]
theorem oG_s (pre d after:ByteArray) (G:List (List VerD)) (k:Nat) (h:k < G.length):oG pre d after (G.take (k + 1)) = stepV pre d after (oG pre d after (G.take k)) (G[k]!)[0]!:=by
  unfold oG
  rw [take_next h,List.foldl_append];rfl
theorem oG_0 (pre d after:ByteArray):oG pre d after [] = []:=rfl
theorem stepV_len (pre d after:ByteArray) (o:List RowD) (v:VerD):(stepV pre d after o v).length ≤ o.length + 1:=by
  unfold stepV stepO
  cases v.mark
  · generalize keyR pre d v = r
    cases (leB r.key after || (decide (0 < o.length) && eqR o[o.length - 1]! r))<;>simp
  · simp
theorem oG_len (pre d after:ByteArray) (G:List (List VerD)):∀ k,k ≤ G.length → (oG pre d after (G.take k)).length ≤ k
  | 0,_=>by simp [oG]
  | k + 1,h=>by
    have ih:=oG_len pre d after G k (by omega)
    rw [oG_s _ _ _ _ _ (by omega)]
    have:=stepV_len pre d after (oG pre d after (G.take k)) (G[k]!)[0]!
    omega
theorem oL_len (pre d after:ByteArray) (l:List VerD):∀ k,(oL pre d after l k).length ≤ k
  | 0=>by simp [oL]
  | k + 1=>by
    have ih:=oL_len pre d after l k
    rw [oL_s]
    have:=stepV_len pre d after (oL pre d after l k) l[k]!
    cases latB l k
    · simp only [cond_false];omega
    · simp only [cond_true];omega
theorem oG_oL (pre d after:ByteArray) (l:List VerD):∀ k,k ≤ l.length → oG pre d after (gA l k) = oL pre d after l k
  | 0,_=>rfl
  | k + 1,hk=>by
    have ih:=oG_oL pre d after l k (by omega)
    rw [gA_1,oL_s,← ih]
    cases h:sameK l k
    · rw [gP_n h]
      have hl:latB l k = true:=by
        unfold latB
        rcases Nat.eq_zero_or_pos k with rfl | h0
        · rfl
        · rw [same_no h h0 (by omega)];simp
      rw [hl,cond_true]
      unfold oG
      rw [List.foldl_append];rfl
    · rw [gP_s h]
      obtain ⟨h0,h1,h2⟩:=same_pos h
      have hl:latB l k = false:=by
        unfold latB
        rw [h2];simp;omega
      rw [hl,cond_false]
      obtain ⟨j,rfl⟩:∃ j,k = j + 1:=⟨k - 1,by omega⟩
      have hne:=gP_ne l (j + 1) (by omega)
      rw [gA_1]
      unfold oG
      rw [List.foldl_append,List.foldl_append]
      cases hg:(gP l (j + 1)).2 with
      | nil=>exact absurd hg hne
      | cons x y=>simp
theorem gA_all (l:List VerD) (p:VerD → Prop) (hp:∀ v ∈ l,p v):∀ k,k ≤ l.length → (∀ g ∈ (gP l k).1,g ≠ [] ∧ ∀ v ∈ g,p v) ∧ (∀ v ∈ (gP l k).2,p v)
  | 0,_=>by simp [gP]
  | k + 1,hk=>by
    obtain ⟨h1,h2⟩:=gA_all l p hp k (by omega)
    have hv:p l[k]!:=by
      rw [getElem!_pos l k (by omega)];exact hp _ (List.getElem_mem _)
    cases h:sameK l k
    · rw [gP_n h]
      refine ⟨fun g hg=>?_,by simpa using hv⟩
      unfold gA at hg
      rcases Nat.eq_zero_or_pos k with rfl | h0
      · simp at hg
      · have h0':(k == 0) = false:=by simp;omega
        rw [h0',cond_false,List.mem_append,List.mem_singleton] at hg
        rcases hg with hg | rfl
        · exact h1 g hg
        · exact ⟨gP_ne l k h0,h2⟩
    · rw [gP_s h]
      refine ⟨h1,fun v hv2=>?_⟩
      rcases List.mem_append.1 hv2 with hv2 | hv2
      · exact h2 v hv2
      · rw [List.mem_singleton] at hv2;rw [hv2];exact hv
theorem gA_head (l:List VerD) (p:VerD → Prop) (hp:∀ v ∈ l,p v) (k:Nat) (hk:k < (gA l l.length).length):0 < ((gA l l.length)[k]!).length ∧ p ((gA l l.length)[k]!)[0]!:=by
  have h0:0 < l.length:=by
    have:=(gP_len l l.length).2.2;omega
  obtain ⟨h1,h2⟩:=gA_all l p hp l.length (Nat.le_refl _)
  have hall:∀ g ∈ gA l l.length,g ≠ [] ∧ ∀ v ∈ g,p v:=fun g hg=>by
    unfold gA at hg
    have h0':(l.length == 0) = false:=by rw [beq_eq_false_iff_ne];omega
    rw [h0',cond_false,List.mem_append,List.mem_singleton] at hg
    rcases hg with hg | rfl
    · exact h1 g hg
    · exact ⟨gP_ne l _ h0,h2⟩
  have hm:(gA l l.length)[k]! ∈ gA l l.length:=by rw [getElem!_pos (gA l l.length) k hk];exact List.getElem_mem _
  obtain ⟨g1,g2⟩:=hall _ hm
  generalize (gA l l.length)[k]! = g at g1 g2
  cases g with
  | nil=>exact absurd rfl g1
  | cons x y=>exact ⟨by simp,g2 x (by simp)⟩
theorem oK_pre (l:List VerD) (name pre:ByteArray) (hz:∀ v ∈ l,v.key.size ≤ 2 ^ 47) (h:(l.filter fun v=>!skipV name pre v).Pairwise (fun a b=>a.id < b.id)):∀ v ∈ oK l name pre l.length,pre.size ≤ v.key.size ∧ v.key.size ≤ 2 ^ 47:=fun v hv=>by
  unfold oK at hv
  rw [List.take_length] at hv
  have hm:=(srtR_ok _ h).1.mem_iff.1 hv
  have hs:=(List.mem_filter.1 hm).2
  refine ⟨?_,hz v (List.mem_filter.1 hm).1⟩
  simp only [skipV,Bool.not_or,Bool.not_not,Bool.and_eq_true] at hs
  have:=hs.2
  unfold preB at this
  simp only [Bool.and_eq_true,decide_eq_true_eq] at this
  omega
theorem ix_in {k pre d:ByteArray} {n:Nat} (hd:d.size = 1) (h:ixF (k.extract pre.size k.size) d = n):pre.size + n < k.size:=by
  unfold ixF at h
  rw [show (d.size == 0) = false by rw [hd];rfl,cond_false] at h
  have:=(Lib.indexByte_some h).1
  have hlt:=(List.getElem?_eq_some_iff.1 this).1
  simp only [Array.length_toList,ByteArray.data_extract,Array.size_extract] at hlt
  have:k.data.size = k.size:=rfl
  omega
def kF (e:Int) (d:ByteArray):Int:=bif e == 0 then (bif decide ((d.size:Int) > 1) then 1 else 0) else e
end Go.Proofs.Ytikgiadbkjmabaa
