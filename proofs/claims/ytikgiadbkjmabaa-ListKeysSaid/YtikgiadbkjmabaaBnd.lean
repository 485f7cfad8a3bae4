/- How many sectors a state that may be can name. No program in sight. -/
import Derived.Test.YtikgiadbkjmabaaPlA
namespace Go.Proofs.Ytikgiadbkjmabaa
open Go.RowKit
set_option linter.unusedSimpArgs false
set_option linter.unusedVariables false
set_option maxRecDepth 20000
theorem flat_le {α β:Type} (f:α → List β) (c:Nat):∀ l:List α,(∀ x ∈ l,(f x).length ≤ c) → (l.flatMap f).length ≤ c * l.length
  | [],_=>by simp
  | a :: l,h=>by
    have h1:=flat_le f c l fun x hx=>h x (by simp [hx])
    have h2:=h a (by simp)
    simp only [List.flatMap_cons,List.length_append,List.length_cons,Nat.mul_add,Nat.mul_one]
    omega
theorem mem_get {α:Type} [Inhabited α] {l:List α} {x:α} (h:x ∈ l):∃ i,i < l.length ∧ l[i]! = x:=by
  obtain ⟨i,hi,e⟩:=List.mem_iff_getElem.1 h
  exact ⟨i,hi,by rw [getElem!_pos l i hi];exact e⟩
theorem vm_secs {s:SttD} {v:VerD} (h:vmF s v = true):v.secs.length ≤ 10:=by
  unfold vmF at h
  cases hb:vmBad s v<;>simp only [hb,cond_true,cond_false] at h
  · cases hm:v.mark<;>simp only [hm,cond_true,cond_false] at h
    · cases h1:(!inR v.size 0 600 || !inR v.tier 1 3)<;>simp only [h1,cond_true,cond_false] at h
      · cases h2:((v.secs.length:Int) != (bif v.tier == 2 then 0 else secN v.size))<;>simp only [h2,cond_true,cond_false] at h
        · have h1':inR v.size 0 600 = true:=by cases h0:inR v.size 0 600<;>simp [h0] at h1 ⊢
          obtain ⟨a,b⟩:=inR_iff.1 h1'
          have h2':(v.secs.length:Int) = (bif v.tier == 2 then 0 else secN v.size):=by simpa using h2
          rw [secN_of a b] at h2'
          cases ht:v.tier == 2<;>simp only [ht,cond_true,cond_false] at h2'<;>omega
        · cases h
      · cases h
    · unfold markF at h
      have h':v.secs.length = 0:=by
        simp only [Bool.and_eq_true,beq_iff_eq] at h
        omega
      omega
  · cases h
theorem pt_secs {l:List PartD} {k:Nat} (h:mPt l k = false):l[k]!.secs.length ≤ 10 ∧ 1 ≤ l[k]!.num ∧ l[k]!.num ≤ 5 ∧ (0 < k → l[k - 1]!.num < l[k]!.num):=by
  unfold mPt at h
  simp only [Bool.or_eq_false_iff,Bool.not_eq_false',inR_iff,bne_eq_false_iff_eq,Bool.and_eq_false_iff,decide_eq_false_iff_not] at h
  obtain ⟨h1,h2,h3,h4⟩:=h
  rw [secN_of h2.1 h2.2] at h3
  refine ⟨by omega,h1.1,h1.2,fun hk=>?_⟩
  omega
theorem pts_len {l:List PartD} (h:∀ k,k < l.length → mPt l k = false):l.length ≤ 5:=by
  have key:∀ k,k < l.length → (k:Int) + 1 ≤ l[k]!.num:=by
    intro k
    induction k with
    | zero=>intro hk;have:=(pt_secs (h 0 hk)).2.1;omega
    | succ k ih =>
      intro hk
      have h1:=ih (by omega)
      have h2:=(pt_secs (h (k + 1) hk)).2.2.2 (by omega)
      simp only [Nat.add_sub_cancel] at h2
      omega
  rcases Nat.lt_or_ge 5 l.length with h' | h'
  · have h1:=key 5 h'
    have h2:=(pt_secs (h 5 h')).2.2.1
    omega
  · exact h'
structure Bnds (s:SttD):Prop where
  b1:∀ k j:Nat,(aV s k j).length ≤ 2 ^ 40
  b2:∀ k i j:Nat,(aP s k i j).length ≤ 2 ^ 40
  b3:∀ k:Nat,(s.ups[k]!).parts.length ≤ 2 ^ 47
  b4:∀ k:Nat,(s.vers[k]!).secs.length ≤ 2 ^ 47
  b5:∀ k i:Nat,((s.ups[k]!).parts[i]!).secs.length ≤ 2 ^ 47
  b6:(allSec s).length ≤ 2 ^ 47
theorem any_false {n:Nat} {p:Nat → Bool} (h:(List.range n).any p = false):∀ k,k < n → p k = false:=fun k hk=>by
  rw [List.any_eq_false] at h
  simpa using h k (List.mem_range.2 hk)
theorem bnds_of {s:SttD} {kv ku:Nat} (hv:∀ i,i < kv → mVer s i = false) (hu:∀ i,i < ku → mUp s i = false) (hkv:decide ((kv:Int) < (s.vers.length:Int)) = false) (hku:decide ((ku:Int) < (s.ups.length:Int)) = false)
    (h40:decide ((s.vers.length:Int) > 40) = false) (h4:decide ((s.ups.length:Int) > 4) = false):Bnds s:=by
  have hkv:=geS hkv
  have hku:=geS hku
  have h40:s.vers.length ≤ 40:=by have:=of_decide_eq_false h40;omega
  have h4:s.ups.length ≤ 4:=by have:=of_decide_eq_false h4;omega
  have v10:∀ x ∈ s.vers,x.secs.length ≤ 10:=fun x hx=>by
    obtain ⟨i,hi,rfl⟩:=mem_get hx
    have:=hv i (by omega)
    unfold mVer at this
    simp only [Bool.or_eq_false_iff,Bool.not_eq_false'] at this
    exact vm_secs this.1.1
  have hv10:∀ k:Nat,(s.vers[k]!).secs.length ≤ 10:=fun k=>by
    rcases Nat.lt_or_ge k s.vers.length with h | h
    · rw [getElem!_pos s.vers k h];exact v10 _ (List.getElem_mem h)
    · rw [getElem!_neg s.vers k (by omega)];exact Nat.zero_le _
  have hup:∀ k,k < s.ups.length → ∀ i,i < s.ups[k]!.parts.length → mPt s.ups[k]!.parts i = false:=fun k hk=>by
    have:=hu k (by omega)
    unfold mUp at this
    simp only [Bool.or_eq_false_iff] at this
    exact any_false this.2
  have hp5:∀ k:Nat,(s.ups[k]!).parts.length ≤ 5:=fun k=>by
    rcases Nat.lt_or_ge k s.ups.length with h | h
    · exact pts_len (hup k h)
    · rw [getElem!_neg s.ups k (by omega)];exact Nat.zero_le _
  have hps:∀ k i:Nat,((s.ups[k]!).parts[i]!).secs.length ≤ 10:=fun k i=>by
    rcases Nat.lt_or_ge i (s.ups[k]!).parts.length with h | h
    · rcases Nat.lt_or_ge k s.ups.length with hk | hk
      · exact (pt_secs (hup k hk i h)).1
      · rw [getElem!_neg s.ups k (by omega)] at h;exact absurd h (Nat.not_lt_zero _)
    · rw [getElem!_neg (s.ups[k]!).parts i (by omega)];exact Nat.zero_le _
  have u50:∀ x ∈ s.ups,(upS x).length ≤ 50:=fun x hx=>by
    obtain ⟨k,hk,rfl⟩:=mem_get hx
    unfold upS
    have:=flat_le PartD.secs 10 (s.ups[k]!).parts fun p hp=>by
      obtain ⟨i,hi,rfl⟩:=mem_get hp
      exact hps k i
    have:=hp5 k
    omega
  have svk:∀ k,(sV s k).length ≤ 400:=fun k=>by
    unfold sV
    have h1:=flat_le VerD.secs 10 (s.vers.take k) fun x hx=>v10 x (List.mem_of_mem_take hx)
    have h2:(s.vers.take k).length ≤ 40:=by rw [List.length_take];omega
    omega
  have sva:(sVall s).length ≤ 400:=by
    unfold sVall
    have h1:=flat_le VerD.secs 10 s.vers v10
    omega
  have suk:∀ k,(sU s k).length ≤ 600:=fun k=>by
    unfold sU
    have h1:=flat_le upS 50 (s.ups.take k) fun x hx=>u50 x (List.mem_of_mem_take hx)
    have h2:(s.ups.take k).length ≤ 4:=by rw [List.length_take];omega
    rw [List.length_append];omega
  refine ⟨fun k j=>?_,fun k i j=>?_,fun k=>?_,fun k=>?_,fun k i=>?_,?_⟩
  · have h1:=svk k
    have h2:=hv10 k
    unfold aV
    rw [List.length_append,List.length_take];omega
  · have h1:=suk k
    have h2:=flat_le PartD.secs 10 ((s.ups[k]!).parts.take i) fun p hp=>by
      obtain ⟨m,hm,rfl⟩:=mem_get (List.mem_of_mem_take hp)
      exact hps k m
    have h3:((s.ups[k]!).parts.take i).length ≤ 5:=by have:=hp5 k;rw [List.length_take];omega
    have h4:=hps k i
    unfold aP sP
    rw [List.length_append,List.length_append,List.length_take];omega
  · have:=hp5 k;omega
  · have:=hv10 k;omega
  · have:=hps k i;omega
  · have h1:=flat_le upS 50 s.ups u50
    unfold allSec
    rw [List.length_append];omega
end Go.Proofs.Ytikgiadbkjmabaa
