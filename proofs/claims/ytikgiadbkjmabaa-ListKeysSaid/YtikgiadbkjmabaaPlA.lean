/- Plain facts: the order of texts,binary search,sectors taken. No program in sight. -/
import Derived.Test.YtikgiadbkjmabaaCheck
import Derived.Test.YtikgiadbkjmabaaMay
namespace Go.Proofs.Ytikgiadbkjmabaa
open Go.RowKit
set_option linter.unusedSimpArgs false
set_option linter.unusedVariables false
set_option maxRecDepth 20000
theorem cmp_neg:∀ x y:List UInt8,decide (Lib.compareBytes x y < 0) = Op.bytesLess x y
  | [],[]=>rfl
  | [],_ :: _=>rfl
  | _ :: _,[]=>rfl
  | a :: x,b :: y=>by
    have ih:=cmp_neg x y
    simp only [Lib.compareBytes,Op.bytesLess]
    by_cases h1:a < b
    · simp [h1]
    · by_cases h2:b < a
      · have h3:¬ a = b:=fun e=>by subst e;exact h1 h2
        simp [h1,h2,h3]
      · have h3:a = b:=by
          rw [UInt8.lt_iff_toNat_lt] at h1 h2
          exact UInt8.toNat_inj.1 (by omega)
        subst h3
        simp [h1,ih]
theorem cmp_zero:∀ x y:List UInt8,(Lib.compareBytes x y == 0) = (x == y)
  | [],[]=>rfl
  | [],_ :: _=>rfl
  | _ :: _,[]=>rfl
  | a :: x,b :: y=>by
    have ih:=cmp_zero x y
    simp only [Lib.compareBytes]
    by_cases h1:a < b
    · have h3:¬ a = b:=fun e=>by subst e;exact absurd h1 (UInt8.lt_irrefl a)
      simp [h1,h3]
    · by_cases h2:b < a
      · have h3:¬ a = b:=fun e=>by subst e;exact h1 h2
        simp [h1,h2,h3]
      · have h3:a = b:=by
          rw [UInt8.lt_iff_toNat_lt] at h1 h2
          exact UInt8.toNat_inj.1 (by omega)
        subst h3
        simp [h1,ih]
theorem less_tri:∀ x y:List UInt8,(!Op.bytesLess x y) = (Op.bytesLess y x || y == x)
  | [],[]=>rfl
  | [],_ :: _=>rfl
  | _ :: _,[]=>rfl
  | a :: x,b :: y=>by
    have ih:=less_tri x y
    simp only [Op.bytesLess]
    by_cases h1:a < b
    · have h3:¬ b < a:=fun h=>by rw [UInt8.lt_iff_toNat_lt] at h h1;omega
      have h4:¬ b = a:=fun e=>by subst e;exact h3 h1
      simp [h1,h3,h4]
    · by_cases h2:b < a
      · simp [h1,h2]
        have h3:¬ a = b:=fun e=>by subst e;exact h1 h2
        simp [h3]
      · have h3:a = b:=by
          rw [UInt8.lt_iff_toNat_lt] at h1 h2
          exact UInt8.toNat_inj.1 (by omega)
        subst h3
        simpa [h1] using ih
theorem less_trans:∀ x y z:List UInt8,Op.bytesLess x y = true → Op.bytesLess y z = true → Op.bytesLess x z = true
  | x,[],z,h,_=>by cases x<;>simp [Op.bytesLess] at h
  | x,b :: y,[],_,h=>by simp [Op.bytesLess] at h
  | [],b :: y,c :: z,_,_=>rfl
  | a :: x,b :: y,c :: z,h1,h2=>by
    have ih:=less_trans x y z
    simp only [Op.bytesLess,Bool.or_eq_true,Bool.and_eq_true,decide_eq_true_eq,beq_iff_eq] at h1 h2 ⊢
    rcases h1 with h1 | ⟨rfl,h1⟩<;>rcases h2 with h2 | ⟨rfl,h2⟩
    · left;exact UInt8.lt_trans h1 h2
    · left;exact h1
    · left;exact h2
    · right;exact ⟨rfl,ih h1 h2⟩
theorem less_irrefl:∀ x:List UInt8,Op.bytesLess x x = false
  | []=>rfl
  | a :: x=>by simp [Op.bytesLess,less_irrefl x,UInt8.lt_irrefl]
theorem bs_inv {c:Nat → Int} {n:Nat} (hm:∀ i j,i ≤ j → j < n → c j < 0 → c i < 0):∀ k,(∀ i,i < (bsK c n k).1 → c i < 0) ∧ (∀ i,(bsK c n k).2 ≤ i → i < n → ¬ c i < 0)
  | 0=>⟨fun i hi=>absurd hi (Nat.not_lt_zero _),fun i h1 h2=>by simp only [bsK] at h1;omega⟩
  | k + 1=>by
    obtain ⟨h1,h2⟩:=bs_inv hm k
    obtain ⟨b1,b2,b3⟩:=bsK_ok c n k
    simp only [bsK,bsS]
    split
    · split
      · rename_i hlt hc
        refine ⟨fun i hi=>hm i (((bsK c n k).1 + (bsK c n k).2) / 2) ?_ ?_ hc,h2⟩
        · simp only at hi;omega
        · omega
      · rename_i hlt hc
        refine ⟨h1,fun i hi hn h=>hc (hm _ i (by simpa using hi) hn h)⟩
    · exact ⟨h1,h2⟩
theorem bs_spec {c:Nat → Int} {n:Nat} (hm:∀ i j,i ≤ j → j < n → c j < 0 → c i < 0):(∀ i,i < bsP c n → c i < 0) ∧ (∀ i,bsP c n ≤ i → i < n → ¬ c i < 0):=by
  obtain ⟨h1,h2⟩:=bs_inv hm n
  obtain ⟨b1,b2,b3⟩:=bsK_ok c n n
  refine ⟨h1,fun i hi=>h2 i ?_⟩
  unfold bsP at hi;omega
theorem there_eq {c:Nat → Int} {n:Nat} {p:Nat → Bool} (hp:∀ i,i < n → p i = (c i == 0)) (hs:∀ i j,i < j → j < n → c j ≤ 0 → c i < 0) :
    (decide (bsP c n < n) && (c (bsP c n) == 0)) = decide (idxD n p ≥ 0) ∧ (decide (idxD n p ≥ 0) = true → idxD n p = bsP c n):=by
  have hm:∀ i j,i ≤ j → j < n → c j < 0 → c i < 0:=fun i j h1 h2 h3=>by
    rcases Nat.lt_or_eq_of_le h1 with h | h
    · exact hs i j h h2 (by omega)
    · subst h;exact h3
  obtain ⟨h1,h2⟩:=bs_spec hm
  have key:∀ k,k < n → p k = true → bsP c n = k:=fun k hk hpk=>by
    rw [hp k hk] at hpk
    have hz:c k = 0:=by simpa using hpk
    have hle:bsP c n ≤ k:=Nat.le_of_not_lt fun h=>by have:=h1 k h;omega
    rcases Nat.lt_or_eq_of_le hle with h | h
    · exact absurd (hs _ k h hk (by omega)) (h2 _ (Nat.le_refl _) (by omega))
    · exact h
  refine ⟨?_,fun h=>?_⟩
  · rw [Bool.eq_iff_iff,Bool.and_eq_true,decide_eq_true_eq,decide_eq_true_eq,idxD_ge]
    constructor
    · rintro ⟨a,b⟩
      exact ⟨_,a,by rw [hp _ a];exact b⟩
    · rintro ⟨k,hk,hpk⟩
      rw [key k hk hpk]
      exact ⟨hk,by rw [← hp k hk];exact hpk⟩
  · obtain ⟨k,hk,hpk⟩:=idxD_ge.1 (of_decide_eq_true h)
    have e:=key k hk hpk
    rw [e]
    refine idxD_some (by simpa using hk) hpk fun i hi=>?_
    rw [hp i (by omega)]
    have:=h1 i (by omega)
    simp;omega
theorem getM_setM:∀ (es:List (KV × Bool)) (k:KV) (b:Bool) (k':KV),getM (setM es k b) k' = if k = k' then b else getM es k'
  | [],k,b,k'=>by simp [setM,getM]
  | p :: es,k,b,k'=>by
    simp only [setM]
    split
    · rename_i h
      simp only [getM,h]
      split<;>rfl
    · rename_i h
      simp only [getM,getM_setM es k b k']
      by_cases h1:p.1 = k'
      · have:¬ k = k':=fun e=>h (h1.trans e.symm)
        simp [h1,this]
      · simp [h1]
def Has (es:List (KV × Bool)) (l:List Int):Prop:=∀ x,getM es (.i x) = decide (x ∈ l)
def SecOk (l:List Int):Prop:=(∀ x ∈ l,0 ≤ x ∧ x < 200) ∧ l.Nodup
theorem Has.nil:Has [] []:=fun x=>by simp [getM]
theorem SecOk.nil:SecOk []:=⟨by simp,by simp⟩
theorem SecOk.left {a b:List Int} (h:SecOk (a ++ b)):SecOk a:=⟨fun x hx=>h.1 x (by simp [hx]),(List.nodup_append.1 h.2).1⟩
theorem Has.snoc {es:List (KV × Bool)} {l:List Int} (h:Has es l) (n:Int):Has (setM es (.i n) true) (l ++ [n]):=fun x=>by
  rw [getM_setM,h x]
  by_cases e:n = x
  · simp [e]
  · have:¬ (KV.i n = KV.i x):=fun h=>e (by cases h;rfl)
    have e':¬ x = n:=fun h=>e h.symm
    simp [this,e']
theorem takeL_has:∀ (l:List Int) (es:List (KV × Bool)) (base:List Int),Has es base → SecOk base → ((takeL es l).1 = true ↔ SecOk (base ++ l)) ∧ ((takeL es l).1 = true → Has (takeL es l).2 (base ++ l))
  | [],es,base,h,hb=>by simp only [takeL,List.append_nil];exact ⟨⟨fun _=>hb,fun _=>trivial⟩,fun _=>h⟩
  | n :: l,es,base,h,hb=>by
    simp only [takeL]
    by_cases ht:takeB es n = true
    · simp only [ht,if_true]
      have h0:0 ≤ n ∧ n < 200 ∧ n ∉ base:=by
        unfold takeB at ht
        rw [h n] at ht
        simp at ht;omega
      have hb':SecOk (base ++ [n]):=⟨fun x hx=>by
        rcases List.mem_append.1 hx with hx | hx
        · exact hb.1 x hx
        · rw [List.mem_singleton.1 hx];exact ⟨h0.1,h0.2.1⟩,by
        rw [List.nodup_append]
        refine ⟨hb.2,by simp,fun a ha b hb' e=>?_⟩
        rw [List.mem_singleton.1 hb'] at e
        exact h0.2.2 (e ▸ ha)⟩
      have:=takeL_has l (setM es (.i n) true) (base ++ [n]) (h.snoc n) hb'
      simpa using this
    · have ht:takeB es n = false:=by simpa using ht
      simp only [ht]
      refine ⟨⟨fun h=>by simp at h,fun hs=>?_⟩,fun h=>by simp at h⟩
      exfalso
      have hn:=hs.1 n (by simp)
      have hnb:n ∉ base:=fun hm=>(List.nodup_append.1 hs.2).2.2 n hm n (by simp) rfl
      have:takeB es n = true:=by
        unfold takeB
        rw [h n]
        simp [hnb];omega
      rw [this] at ht;cases ht
theorem inR_iff {a b c:Int}:inR a b c = true ↔ b ≤ a ∧ a ≤ c:=by unfold inR;simp
theorem inR_ne {a b c:Int}:inR a b c = false ↔ a < b ∨ c < a:=by
  rw [← Bool.not_eq_true,inR_iff];omega
theorem secN_of {n:Int} (h0:0 ≤ n) (h1:n ≤ 600):secN n = (n + 63) / 64:=by
  unfold secN
  rw [IntWalk.i64_in (n + 64) (by omega),IntWalk.i64_in (n + 64 - 1) (by omega),Int.tdiv_eq_ediv_of_nonneg (by omega),IntWalk.i64_in _ (by omega)]
  omega
theorem none_iff {n:Nat} {p:Nat → Bool}:noneF n p = true ↔ ∀ k,k < n → p k = false:=by
  unfold noneF
  simp [List.all_eq_true]
theorem bs_eq {a b:ByteArray}:(a.toList == b.toList) = decide (a = b):=by
  rw [Bool.eq_iff_iff,beq_iff_eq,decide_eq_true_eq,ByteArray.toList_eq,ByteArray.toList_eq]
  constructor
  · intro h
    cases a;cases b
    simp at h;subst h;rfl
  · rintro rfl;rfl
end Go.Proofs.Ytikgiadbkjmabaa
