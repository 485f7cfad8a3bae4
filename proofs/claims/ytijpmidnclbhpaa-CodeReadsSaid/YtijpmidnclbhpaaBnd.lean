/- How many sectors a state that may be can name. No program in sight. -/
import Derived.Test.YtijpmidnclbhpaaAll
import Derived.Test.YtijpmidnclbhpaaCheck

/- Plain facts: the order of texts,binary search,sectors taken. No program in sight. -/

/- The reference: what a state must be. Only what it answers,as plain Lean;its walk is still to be done. -/
namespace Go.Proofs.Ytijpmidnclbhpaa
open Go.RowKit
set_option maxHeartbeats 4000000
set_option maxRecDepth 20000
attribute [local irreducible] SW OSW SWL SWLn SWD SEcall SEcallv SDv SE SO1 SOg ACalls ACallv Wk EndV
set_option linter.unusedSimpArgs false
set_option linter.unusedVariables false
def mGone (l:List Int) (k:Nat):Bool:=!inR l[k]! 0 7 || (decide ((k:Int) > 0) && decide (l[k]! ≤ l[k - 1]!))
def mBkt (l:List BktD) (k:Nat):Bool:=wordF l[k]!.name 8 != 0 || (!inR l[k]!.mode 0 2 || (ruleF l[k]!.pre l[k]!.frz l[k]!.drop != 0 || (decide ((k:Int) > 0) && (Op.bytesLess l[k]!.name.toList l[k - 1]!.name.toList || l[k]!.name.toList == l[k - 1]!.name.toList))))
def mTwo (v w:VerD):Bool:=v.null && (w.null && (v.bkt.toList == w.bkt.toList && v.key.toList == w.key.toList))
def mVer (s:SttD) (k:Nat):Bool:=(!vmF s s.vers[k]! || (decide ((k:Int) > 0) && decide (s.vers[k]!.id ≤ s.vers[k - 1]!.id))) || (List.range k).any (fun j=>mTwo s.vers[k]! s.vers[j]!)
def mPt (l:List PartD) (k:Nat):Bool:=!inR l[k]!.num 1 5 || (!inR l[k]!.size 0 600 || ((l[k]!.secs.length:Int) != secN l[k]!.size || (decide ((k:Int) > 0) && decide (l[k]!.num ≤ l[k - 1]!.num))))
def mUp (s:SttD) (k:Nat):Bool:=(decide (idxD s.bkts.length (pB s.bkts s.ups[k]!.bkt) < 0) || (wordF s.ups[k]!.key 16 != 0 || (!inR s.ups[k]!.id 1 (IntKind.i64.wrap (s.next - 1)) || (decide ((k:Int) > 0) && decide (s.ups[k]!.id ≤ s.ups[k - 1]!.id))))) || (List.range s.ups[k]!.parts.length).any (mPt s.ups[k]!.parts)
def mQu (s:SttD) (k:Nat):Bool:=(decide (idxD s.vers.length (pV s.vers s.queue[k]!.ver) < 0) || (s.vers[(idxD s.vers.length (pV s.vers s.queue[k]!.ver)).toNat]!.tier != 2 || (!inR s.queue[k]!.days 1 1000 || !inR s.queue[k]!.cls 0 2))) || (List.range k).any (fun j=>s.queue[j]!.ver == s.queue[k]!.ver)
def mSec (l:List Int) (k:Nat):Bool:=!inR l[k]! 0 199 || (List.range k).any (fun j=>l[k]! == l[j]!)
def mNum (s:SttD):Bool:=!inR s.next 1 1048576 || (!inR s.clock 0 1073741824 || (decide ((s.bkts.length:Int) > 4) || (decide ((s.vers.length:Int) > 40) || (decide ((s.ups.length:Int) > 4) || decide ((s.queue.length:Int) > 10)))))
def noneF (n:Nat) (p:Nat → Bool):Bool:=(List.range n).all fun k=>!p k
def mayF (s:SttD):Bool:=!mNum s && (noneF s.gone.length (mGone s.gone) && (noneF s.bkts.length (mBkt s.bkts) && (noneF s.vers.length (mVer s) && (noneF s.ups.length (mUp s) && (noneF s.queue.length (mQu s) && noneF (allSec s).length (mSec (allSec s)))))))
end Go.Proofs.Ytijpmidnclbhpaa
namespace Go.Proofs.Ytijpmidnclbhpaa
open Go.RowKit
set_option linter.unusedSimpArgs false
set_option linter.unusedVariables false
set_option maxRecDepth 20000
theorem cmp_neg:∀ x y:List UInt8,decide (Lib.compareBytes x y < 0) = Op.bytesLess x y
  | [],[]=>rfl
  | [],_ :: _=>rfl
  | _ :: _,[]=>rfl
  | a :: x,b :: y=>by
    have ih:=cmp_neg x y
    simp only [Lib.compareBytes,Op.bytesLess]
    by_cases h1:a < b
    · simp [h1]
    · by_cases h2:b < a
      · have h3:¬ a = b:=fun e=>by subst e;exact h1 h2
        simp [h1,h2,h3]
      · have h3:a = b:=by
          rw [UInt8.lt_iff_toNat_lt] at h1 h2
          exact UInt8.toNat_inj.1 (by omega)
        subst h3
        simp [h1,ih]
theorem cmp_zero:∀ x y:List UInt8,(Lib.compareBytes x y == 0) = (x == y)
  | [],[]=>rfl
  | [],_ :: _=>rfl
  | _ :: _,[]=>rfl
  | a :: x,b :: y=>by
    have ih:=cmp_zero x y
    simp only [Lib.compareBytes]
    by_cases h1:a < b
    · have h3:¬ a = b:=fun e=>by subst e;exact absurd h1 (UInt8.lt_irrefl a)
      simp [h1,h3]
    · by_cases h2:b < a
      · have h3:¬ a = b:=fun e=>by subst e;exact h1 h2
        simp [h1,h2,h3]
      · have h3:a = b:=by
          rw [UInt8.lt_iff_toNat_lt] at h1 h2
          exact UInt8.toNat_inj.1 (by omega)
        subst h3
        simp [h1,ih]
theorem less_tri:∀ x y:List UInt8,(!Op.bytesLess x y) = (Op.bytesLess y x || y == x)
  | [],[]=>rfl
  | [],_ :: _=>rfl
  | _ :: _,[]=>rfl
  | a :: x,b :: y=>by
    have ih:=less_tri x y
    simp only [Op.bytesLess]
    by_cases h1:a < b
    · have h3:¬ b < a:=fun h=>by rw [UInt8.lt_iff_toNat_lt] at h h1;omega
      have h4:¬ b = a:=fun e=>by subst e;exact h3 h1
      simp [h1,h3,h4]
    · by_cases h2:b < a
      · simp [h1,h2]
        have h3:¬ a = b:=fun e=>by subst e;exact h1 h2
        simp [h3]
      · have h3:a = b:=by
          rw [UInt8.lt_iff_toNat_lt] at h1 h2
          exact UInt8.toNat_inj.1 (by omega)
        subst h3
        simpa [h1] using ih
theorem less_trans:∀ x y z:List UInt8,Op.bytesLess x y = true → Op.bytesLess y z = true → Op.bytesLess x z = true
  | x,[],z,h,_=>by cases x<;>simp [Op.bytesLess] at h
  | x,b :: y,[],_,h=>by simp [Op.bytesLess] at h
  | [],b :: y,c :: z,_,_=>rfl
  | a :: x,b :: y,c :: z,h1,h2=>by
    have ih:=less_trans x y z
    simp only [Op.bytesLess,Bool.or_eq_true,Bool.and_eq_true,decide_eq_true_eq,beq_iff_eq] at h1 h2 ⊢
    rcases h1 with h1 | ⟨rfl,h1⟩<;>rcases h2 with h2 | ⟨rfl,h2⟩
    · left;exact UInt8.lt_trans h1 h2
    · left;exact h1
    · left;exact h2
    · right;exact ⟨rfl,ih h1 h2⟩
theorem bs_inv {c:Nat → Int} {n:Nat} (hm:∀ i j,i ≤ j → j < n → c j < 0 → c i < 0):∀ k,(∀ i,i < (bsK c n k).1 → c i < 0) ∧ (∀ i,(bsK c n k).2 ≤ i → i < n → ¬ c i < 0)
  | 0=>⟨fun i hi=>absurd hi (Nat.not_lt_zero _),fun i h1 h2=>by simp only [bsK] at h1;omega⟩
  | k + 1=>by
    obtain ⟨h1,h2⟩:=bs_inv hm k
    obtain ⟨b1,b2,b3⟩:=bsK_ok c n k
    simp only [bsK,bsS]
    split
    · split
      · rename_i hlt hc
        refine ⟨fun i hi=>hm i (((bsK c n k).1 + (bsK c n k).2) / 2) ?_ ?_ hc,h2⟩
        · simp only at hi;omega
        · omega
      · rename_i hlt hc
        refine ⟨h1,fun i hi hn h=>hc (hm _ i (by simpa using hi) hn h)⟩
    · exact ⟨h1,h2⟩
theorem bs_spec {c:Nat → Int} {n:Nat} (hm:∀ i j,i ≤ j → j < n → c j < 0 → c i < 0):(∀ i,i < bsP c n → c i < 0) ∧ (∀ i,bsP c n ≤ i → i < n → ¬ c i < 0):=by
  obtain ⟨h1,h2⟩:=bs_inv hm n
  obtain ⟨b1,b2,b3⟩:=bsK_ok c n n
  refine ⟨h1,fun i hi=>h2 i ?_⟩
  unfold bsP at hi;omega
theorem there_eq {c:Nat → Int} {n:Nat} {p:Nat → Bool} (hp:∀ i,i < n → p i = (c i == 0)) (hs:∀ i j,i < j → j < n → c j ≤ 0 → c i < 0) :
    (decide (bsP c n < n) && (c (bsP c n) == 0)) = decide (idxD n p ≥ 0) ∧ (decide (idxD n p ≥ 0) = true → idxD n p = bsP c n):=by
  have hm:∀ i j,i ≤ j → j < n → c j < 0 → c i < 0:=fun i j h1 h2 h3=>by
    rcases Nat.lt_or_eq_of_le h1 with h | h
    · exact hs i j h h2 (by omega)
    · subst h;exact h3
  obtain ⟨h1,h2⟩:=bs_spec hm
  have key:∀ k,k < n → p k = true → bsP c n = k:=fun k hk hpk=>by
    rw [hp k hk] at hpk
    have hz:c k = 0:=by simpa using hpk
    have hle:bsP c n ≤ k:=Nat.le_of_not_lt fun h=>by have:=h1 k h;omega
    rcases Nat.lt_or_eq_of_le hle with h | h
    · exact absurd (hs _ k h hk (by omega)) (h2 _ (Nat.le_refl _) (by omega))
    · exact h
  refine ⟨?_,fun h=>?_⟩
  · rw [Bool.eq_iff_iff,Bool.and_eq_true,decide_eq_true_eq,decide_eq_true_eq,idxD_ge]
    constructor
    · rintro ⟨a,b⟩
      exact ⟨_,a,by rw [hp _ a];exact b⟩
    · rintro ⟨k,hk,hpk⟩
      rw [key k hk hpk]
      exact ⟨hk,by rw [← hp k hk];exact hpk⟩
  · obtain ⟨k,hk,hpk⟩:=idxD_ge.1 (of_decide_eq_true h)
    have e:=key k hk hpk
    rw [e]
    refine idxD_some (by simpa using hk) hpk fun i hi=>?_
    rw [hp i (by omega)]
    have:=h1 i (by omega)
    simp;omega
theorem getM_setM:∀ (es:List (KV × Bool)) (k:KV) (b:Bool) (k':KV),getM (setM es k b) k' = if k = k' then b else getM es k'
  | [],k,b,k'=>by simp [setM,getM]
  | p :: es,k,b,k'=>by
    simp only [setM]
    split
    · rename_i h
      simp only [getM,h]
      split<;>rfl
    · rename_i h
      simp only [getM,getM_setM es k b k']
      by_cases h1:p.1 = k'
      · have:¬ k = k':=fun e=>h (h1.trans e.symm)
        simp [h1,this]
      · simp [h1]
def Has (es:List (KV × Bool)) (l:List Int):Prop:=∀ x,getM es (.i x) = decide (x ∈ l)
def SecOk (l:List Int):Prop:=(∀ x ∈ l,0 ≤ x ∧ x < 200) ∧ l.Nodup
theorem Has.nil:Has [] []:=fun x=>by simp [getM]
theorem SecOk.nil:SecOk []:=⟨by simp,by simp⟩
theorem SecOk.left {a b:List Int} (h:SecOk (a ++ b)):SecOk a:=⟨fun x hx=>h.1 x (by simp [hx]),(List.nodup_append.1 h.2).1⟩
theorem Has.snoc {es:List (KV × Bool)} {l:List Int} (h:Has es l) (n:Int):Has (setM es (.i n) true) (l ++ [n]):=fun x=>by
  rw [getM_setM,h x]
  by_cases e:n = x
  · simp [e]
  · have:¬ (KV.i n = KV.i x):=fun h=>e (by cases h;rfl)
    have e':¬ x = n:=fun h=>e h.symm
    simp [this,e']
theorem takeL_has:∀ (l:List Int) (es:List (KV × Bool)) (base:List Int),Has es base → SecOk base → ((takeL es l).1 = true ↔ SecOk (base ++ l)) ∧ ((takeL es l).1 = true → Has (takeL es l).2 (base ++ l))
  | [],es,base,h,hb=>by simp only [takeL,List.append_nil];exact ⟨⟨fun _=>hb,fun _=>trivial⟩,fun _=>h⟩
  | n :: l,es,base,h,hb=>by
    simp only [takeL]
    by_cases ht:takeB es n = true
    · simp only [ht,if_true]
      have h0:0 ≤ n ∧ n < 200 ∧ n ∉ base:=by
        unfold takeB at ht
        rw [h n] at ht
        simp at ht;omega
      have hb':SecOk (base ++ [n]):=⟨fun x hx=>by
        rcases List.mem_append.1 hx with hx | hx
        · exact hb.1 x hx
        · rw [List.mem_singleton.1 hx];exact ⟨h0.1,h0.2.1⟩,by
        rw [List.nodup_append]
        refine ⟨hb.2,by simp,fun a ha b hb' e=>?_⟩
        rw [List.mem_singleton.1 hb'] at e
        exact h0.2.2 (e ▸ ha)⟩
      have:=takeL_has l (setM es (.i n) true) (base ++ [n]) (h.snoc n) hb'
      simpa using this
    · have ht:takeB es n = false:=by simpa using ht
      simp only [ht]
      refine ⟨⟨fun h=>by simp at h,fun hs=>?_⟩,fun h=>by simp at h⟩
      exfalso
      have hn:=hs.1 n (by simp)
      have hnb:n ∉ base:=fun hm=>(List.nodup_append.1 hs.2).2.2 n hm n (by simp) rfl
      have:takeB es n = true:=by
        unfold takeB
        rw [h n]
        simp [hnb];omega
      rw [this] at ht;cases ht
theorem inR_iff {a b c:Int}:inR a b c = true ↔ b ≤ a ∧ a ≤ c:=by unfold inR;simp
theorem inR_ne {a b c:Int}:inR a b c = false ↔ a < b ∨ c < a:=by
  rw [← Bool.not_eq_true,inR_iff];omega
theorem secN_of {n:Int} (h0:0 ≤ n) (h1:n ≤ 600):secN n = (n + 63) / 64:=by
  unfold secN
  rw [IntWalk.i64_in (n + 64) (by omega),IntWalk.i64_in (n + 64 - 1) (by omega),Int.tdiv_eq_ediv_of_nonneg (by omega),IntWalk.i64_in _ (by omega)]
  omega
theorem none_iff {n:Nat} {p:Nat → Bool}:noneF n p = true ↔ ∀ k,k < n → p k = false:=by
  unfold noneF
  simp [List.all_eq_true]
theorem bs_eq {a b:ByteArray}:(a.toList == b.toList) = decide (a = b):=by
  rw [Bool.eq_iff_iff,beq_iff_eq,decide_eq_true_eq,ByteArray.toList_eq,ByteArray.toList_eq]
  constructor
  · intro h
    cases a;cases b
    simp at h;subst h;rfl
  · rintro rfl;rfl
end Go.Proofs.Ytijpmidnclbhpaa
namespace Go.Proofs.Ytijpmidnclbhpaa
open Go.RowKit
set_option linter.unusedSimpArgs false
set_option linter.unusedVariables false
set_option maxRecDepth 20000
theorem flat_le {α β:Type} (f:α → List β) (c:Nat):∀ l:List α,(∀ x ∈ l,(f x).length ≤ c) → (l.flatMap f).length ≤ c * l.length
  | [],_=>by simp
  | a :: l,h=>by
    have h1:=flat_le f c l fun x hx=>h x (by simp [hx])
    have h2:=h a (by simp)
    simp only [List.flatMap_cons,List.length_append,List.length_cons,Nat.mul_add,Nat.mul_one]
    omega
theorem mem_get {α:Type} [Inhabited α] {l:List α} {x:α} (h:x ∈ l):∃ i,i < l.length ∧ l[i]! = x:=by
  obtain ⟨i,hi,e⟩:=List.mem_iff_getElem.1 h
  exact ⟨i,hi,by rw [getElem!_pos l i hi];exact e⟩
theorem vm_secs {s:SttD} {v:VerD} (h:vmF s v = true):v.secs.length ≤ 10:=by
  unfold vmF at h
  cases hb:vmBad s v<;>simp only [hb,cond_true,cond_false] at h
  · cases hm:v.mark<;>simp only [hm,cond_true,cond_false] at h
    · cases h1:(!inR v.size 0 600 || !inR v.tier 1 3)<;>simp only [h1,cond_true,cond_false] at h
      · cases h2:((v.secs.length:Int) != (bif v.tier == 2 then 0 else secN v.size))<;>simp only [h2,cond_true,cond_false] at h
        · have h1':inR v.size 0 600 = true:=by cases h0:inR v.size 0 600<;>simp [h0] at h1 ⊢
          obtain ⟨a,b⟩:=inR_iff.1 h1'
          have h2':(v.secs.length:Int) = (bif v.tier == 2 then 0 else secN v.size):=by simpa using h2
          rw [secN_of a b] at h2'
          cases ht:v.tier == 2<;>simp only [ht,cond_true,cond_false] at h2'<;>omega
        · cases h
      · cases h
    · unfold markF at h
      have h':v.secs.length = 0:=by
        simp only [Bool.and_eq_true,beq_iff_eq] at h
        omega
      omega
  · cases h
theorem pt_secs {l:List PartD} {k:Nat} (h:mPt l k = false):l[k]!.secs.length ≤ 10 ∧ 1 ≤ l[k]!.num ∧ l[k]!.num ≤ 5 ∧ (0 < k → l[k - 1]!.num < l[k]!.num):=by
  unfold mPt at h
  simp only [Bool.or_eq_false_iff,Bool.not_eq_false',inR_iff,bne_eq_false_iff_eq,Bool.and_eq_false_iff,decide_eq_false_iff_not] at h
  obtain ⟨h1,h2,h3,h4⟩:=h
  rw [secN_of h2.1 h2.2] at h3
  refine ⟨by omega,h1.1,h1.2,fun hk=>?_⟩
  omega
theorem pts_len {l:List PartD} (h:∀ k,k < l.length → mPt l k = false):l.length ≤ 5:=by
  have key:∀ k,k < l.length → (k:Int) + 1 ≤ l[k]!.num:=by
    intro k
    induction k with
    | zero=>intro hk;have:=(pt_secs (h 0 hk)).2.1;omega
    | succ k ih =>
      intro hk
      have h1:=ih (by omega)
      have h2:=(pt_secs (h (k + 1) hk)).2.2.2 (by omega)
      simp only [Nat.add_sub_cancel] at h2
      omega
  rcases Nat.lt_or_ge 5 l.length with h' | h'
  · have h1:=key 5 h'
    have h2:=(pt_secs (h 5 h')).2.2.1
    omega
  · exact h'
structure Bnds (s:SttD):Prop where
  b1:∀ k j:Nat,(aV s k j).length ≤ 2 ^ 40
  b2:∀ k i j:Nat,(aP s k i j).length ≤ 2 ^ 40
  b3:∀ k:Nat,(s.ups[k]!).parts.length ≤ 2 ^ 47
  b4:∀ k:Nat,(s.vers[k]!).secs.length ≤ 2 ^ 47
  b5:∀ k i:Nat,((s.ups[k]!).parts[i]!).secs.length ≤ 2 ^ 47
  b6:(allSec s).length ≤ 2 ^ 47
theorem any_false {n:Nat} {p:Nat → Bool} (h:(List.range n).any p = false):∀ k,k < n → p k = false:=fun k hk=>by
  rw [List.any_eq_false] at h
  simpa using h k (List.mem_range.2 hk)
theorem bnds_of {s:SttD} {kv ku:Nat} (hv:∀ i,i < kv → mVer s i = false) (hu:∀ i,i < ku → mUp s i = false) (hkv:decide ((kv:Int) < (s.vers.length:Int)) = false) (hku:decide ((ku:Int) < (s.ups.length:Int)) = false)
    (h40:decide ((s.vers.length:Int) > 40) = false) (h4:decide ((s.ups.length:Int) > 4) = false):Bnds s:=by
  have hkv:=geS hkv
  have hku:=geS hku
  have h40:s.vers.length ≤ 40:=by have:=of_decide_eq_false h40;omega
  have h4:s.ups.length ≤ 4:=by have:=of_decide_eq_false h4;omega
  have v10:∀ x ∈ s.vers,x.secs.length ≤ 10:=fun x hx=>by
    obtain ⟨i,hi,rfl⟩:=mem_get hx
    have:=hv i (by omega)
    unfold mVer at this
    simp only [Bool.or_eq_false_iff,Bool.not_eq_false'] at this
    exact vm_secs this.1.1
  have hv10:∀ k:Nat,(s.vers[k]!).secs.length ≤ 10:=fun k=>by
    rcases Nat.lt_or_ge k s.vers.length with h | h
    · rw [getElem!_pos s.vers k h];exact v10 _ (List.getElem_mem h)
    · rw [getElem!_neg s.vers k (by omega)];exact Nat.zero_le _
  have hup:∀ k,k < s.ups.length → ∀ i,i < s.ups[k]!.parts.length → mPt s.ups[k]!.parts i = false:=fun k hk=>by
    have:=hu k (by omega)
    unfold mUp at this
    simp only [Bool.or_eq_false_iff] at this
    exact any_false this.2
  have hp5:∀ k:Nat,(s.ups[k]!).parts.length ≤ 5:=fun k=>by
    rcases Nat.lt_or_ge k s.ups.length with h | h
    · exact pts_len (hup k h)
    · rw [getElem!_neg s.ups k (by omega)];exact Nat.zero_le _
  have hps:∀ k i:Nat,((s.ups[k]!).parts[i]!).secs.length ≤ 10:=fun k i=>by
    rcases Nat.lt_or_ge i (s.ups[k]!).parts.length with h | h
    · rcases Nat.lt_or_ge k s.ups.length with hk | hk
      · exact (pt_secs (hup k hk i h)).1
      · rw [getElem!_neg s.ups k (by omega)] at h;exact absurd h (Nat.not_lt_zero _)
    · rw [getElem!_neg (s.ups[k]!).parts i (by omega)];exact Nat.zero_le _
  have u50:∀ x ∈ s.ups,(upS x).length ≤ 50:=fun x hx=>by
    obtain ⟨k,hk,rfl⟩:=mem_get hx
    unfold upS
    have:=flat_le PartD.secs 10 (s.ups[k]!).parts fun p hp=>by
      obtain ⟨i,hi,rfl⟩:=mem_get hp
      exact hps k i
    have:=hp5 k
    omega
  have svk:∀ k,(sV s k).length ≤ 400:=fun k=>by
    unfold sV
    have h1:=flat_le VerD.secs 10 (s.vers.take k) fun x hx=>v10 x (List.mem_of_mem_take hx)
    have h2:(s.vers.take k).length ≤ 40:=by rw [List.length_take];omega
    omega
  have sva:(sVall s).length ≤ 400:=by
    unfold sVall
    have h1:=flat_le VerD.secs 10 s.vers v10
    omega
  have suk:∀ k,(sU s k).length ≤ 600:=fun k=>by
    unfold sU
    have h1:=flat_le upS 50 (s.ups.take k) fun x hx=>u50 x (List.mem_of_mem_take hx)
    have h2:(s.ups.take k).length ≤ 4:=by rw [List.length_take];omega
    rw [List.length_append];omega
  refine ⟨fun k j=>?_,fun k i j=>?_,fun k=>?_,fun k=>?_,fun k i=>?_,?_⟩
  · have h1:=svk k
    have h2:=hv10 k
    unfold aV
    rw [List.length_append,List.length_take];omega
  · have h1:=suk k
    have h2:=flat_le PartD.secs 10 ((s.ups[k]!).parts.take i) fun p hp=>by
      obtain ⟨m,hm,rfl⟩:=mem_get (List.mem_of_mem_take hp)
      exact hps k m
    have h3:((s.ups[k]!).parts.take i).length ≤ 5:=by have:=hp5 k;rw [List.length_take];omega
    have h4:=hps k i
    unfold aP sP
    rw [List.length_append,List.length_append,List.length_take];omega
  · have:=hp5 k;omega
  · have:=hv10 k;omega
  · have:=hps k i;omega
  · have h1:=flat_le upS 50 s.ups u50
    unfold allSec
    rw [List.length_append];omega
end Go.Proofs.Ytijpmidnclbhpaa
