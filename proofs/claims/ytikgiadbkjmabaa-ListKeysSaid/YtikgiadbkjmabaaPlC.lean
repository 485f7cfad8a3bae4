/- A state that may be: state.Check's answer is the document's. No program in sight. -/
import Derived.Test.YtikgiadbkjmabaaPlB
namespace Go.Proofs.Ytikgiadbkjmabaa
open Go.RowKit
set_option linter.unusedSimpArgs false
set_option linter.unusedVariables false
set_option maxRecDepth 20000
set_option maxHeartbeats 1000000
def HasM (s:SttD) (m:List (KV × Bool)) (k:Nat):Prop:=∀ a b:ByteArray,getM m (.s2 a b) = (List.range k).any fun i=>s.vers[i]!.null && (decide (s.vers[i]!.bkt = a) && decide (s.vers[i]!.key = b))
theorem hasM_next {s:SttD} {m:List (KV × Bool)} {k:Nat} (h:HasM s m k):HasM s (vsN s k m) (k + 1):=fun a b=>by
  unfold vsN verKey
  rw [getM_setM,h,h,List.range_succ,List.any_append]
  simp only [List.any_cons,List.any_nil,Bool.or_false]
  by_cases e:s.vers[k]!.bkt = a ∧ s.vers[k]!.key = b
  · rw [if_pos (by rw [e.1,e.2]),e.1,e.2];simp
  · rw [if_neg (fun h'=>e (by cases h';exact ⟨rfl,rfl⟩))]
    have:(decide (s.vers[k]!.bkt = a) && decide (s.vers[k]!.key = b)) = false:=by
      rw [Bool.and_eq_false_iff,decide_eq_false_iff_not,decide_eq_false_iff_not]
      by_cases e1:s.vers[k]!.bkt = a
      · right;exact fun e2=>e ⟨e1,e2⟩
      · left;exact e1
    rw [this];simp
theorem null_eq {s:SttD} {m:List (KV × Bool)} {k:Nat} (h:HasM s m k):(s.vers[k]!.null && getM m (verKey s.vers[k]!)) = (List.range k).any (fun j=>mTwo s.vers[k]! s.vers[j]!):=by
  unfold verKey
  rw [h]
  unfold mTwo
  cases s.vers[k]!.null
  · simp
  · simp only [Bool.true_and,bs_eq]
    congr 1;funext i
    have e1:∀ a b:ByteArray,decide (a = b) = decide (b = a):=fun a b=>by rw [Bool.eq_iff_iff,decide_eq_true_eq,decide_eq_true_eq];exact ⟨fun h=>h.symm,fun h=>h.symm⟩
    rw [e1 s.vers[i]!.bkt,e1 s.vers[i]!.key]
theorem sV_succ {s:SttD} {k:Nat} (h:k < s.vers.length):sV s (k + 1) = sV s k ++ s.vers[k]!.secs:=by
  rw [sV_next h];unfold aV;rw [List.take_length]
theorem ge_le (a b:Int):decide (a ≥ b) = decide (b ≤ a):=rfl
theorem vs_step {s:SttD} (hn:1 ≤ s.next ∧ s.next ≤ 1048576) (hS:SortB s.bkts):∀ k,k ≤ s.vers.length →
    ((∀ i,i < k → vsBad s i (vsE s [] i) (vsM s i) = false) ↔ (∀ i,i < k → mVer s i = false) ∧ SecOk (sV s k)) ∧
    ((∀ i,i < k → vsBad s i (vsE s [] i) (vsM s i) = false) → Has (vsE s [] k) (sV s k)) ∧ HasM s (vsM s k) k
  | 0,_=>⟨⟨fun _=>⟨fun i hi=>absurd hi (Nat.not_lt_zero _),SecOk.nil⟩,fun _ i hi=>absurd hi (Nat.not_lt_zero _)⟩,fun _=>Has.nil,fun a b=>by simp [vsM,getM]⟩
  | k + 1,hk=>by
    obtain ⟨h1,h2,h3⟩:=vs_step hn hS k (by omega)
    have hlt:k < s.vers.length:=by omega
    have hM:HasM s (vsM s (k + 1)) (k + 1):=hasM_next h3
    have hbad:(∀ i,i < k → vsBad s i (vsE s [] i) (vsM s i) = false) → (vsBad s k (vsE s [] k) (vsM s k) = false ↔ mVer s k = false ∧ SecOk (sV s (k + 1))):=fun ha=>by
      obtain ⟨g1,g2⟩:=sound_has (v:=s.vers[k]!) hn hS (h2 ha) (h1.1 ha).2
      unfold vsBad mVer
      rw [null_eq h3,sV_succ hlt]
      simp only [Bool.or_eq_false_iff,Bool.not_eq_false',ge_le]
      rw [g1]
      constructor
      · rintro ⟨⟨⟨a,b⟩,c⟩,d⟩;exact ⟨⟨⟨a,c⟩,d⟩,b⟩
      · rintro ⟨⟨⟨a,c⟩,d⟩,b⟩;exact ⟨⟨⟨a,b⟩,c⟩,d⟩
    refine ⟨⟨fun h=>?_,fun h=>?_⟩,fun h=>?_,hM⟩
    · have ha:∀ i,i < k → vsBad s i (vsE s [] i) (vsM s i) = false:=fun i hi=>h i (by omega)
      have hb:=(hbad ha).1 (h k (by omega))
      exact ⟨allN' (h1.1 ha).1 hb.1,hb.2⟩
    · have hs:SecOk (sV s k):=by have:=h.2;rw [sV_succ hlt] at this;exact this.left
      have ha:=h1.2 ⟨fun i hi=>h.1 i (by omega),hs⟩
      exact allN' (p:=fun i=>vsBad s i (vsE s [] i) (vsM s i)) ha ((hbad ha).2 ⟨h.1 k (by omega),h.2⟩)
    · have ha:∀ i,i < k → vsBad s i (vsE s [] i) (vsM s i) = false:=fun i hi=>h i (by omega)
      obtain ⟨g1,g2⟩:=sound_has (v:=s.vers[k]!) hn hS (h2 ha) (h1.1 ha).2
      have hb:=h k (by omega)
      unfold vsBad at hb
      simp only [Bool.or_eq_false_iff,Bool.not_eq_false'] at hb
      rw [sV_succ hlt]
      exact g2 hb.1.1
theorem vsGo_fst {s:SttD} {e:List (KV × Bool)}:∀ j k,j + k = s.vers.length → (vsGo s j k (vsE s e k) (vsM s k)).1 = true → ∀ i,k ≤ i → i < s.vers.length → vsBad s i (vsE s e i) (vsM s i) = false
  | 0,k,hk,_,i,h1,h2=>absurd h2 (by omega)
  | j + 1,k,hk,h,i,h1,h2=>by
    simp only [vsGo] at h
    cases hb:vsBad s k (vsE s e k) (vsM s k)
    · simp only [hb,cond_false] at h
      rcases Nat.lt_or_eq_of_le h1 with h' | h'
      · exact vsGo_fst j (k + 1) (by omega) h i h' h2
      · subst h';exact hb
    · simp only [hb,cond_true] at h;cases h
theorem sV_len (s:SttD):sV s s.vers.length = sVall s:=by unfold sV sVall;rw [List.take_length]
theorem vers_iff {s:SttD} (hn:1 ≤ s.next ∧ s.next ≤ 1048576) (hS:SortB s.bkts) :
    ((versF s []).1 = true ↔ ((∀ i,i < s.vers.length → mVer s i = false) ∧ SecOk (sVall s)) ∧ (s.vers.length:Int) ≤ 40) ∧ ((versF s []).1 = true → Has (versF s []).2 (sVall s)):=by
  obtain ⟨h1,h2,h3⟩:=vs_step hn hS s.vers.length (Nat.le_refl _)
  rw [sV_len] at h1 h2
  have key:(versF s []).1 = true ↔ (∀ i,i < s.vers.length → vsBad s i (vsE s [] i) (vsM s i) = false) ∧ (s.vers.length:Int) ≤ 40:=by
    constructor
    · intro h
      unfold versF at h
      rw [Bool.and_eq_true,decide_eq_true_eq] at h
      exact ⟨fun i hi=>vsGo_fst s.vers.length 0 (by omega) h.1 i (by omega) hi,h.2⟩
    · rintro ⟨ha,hb⟩
      rw [vers_all (k:=s.vers.length) (by simp) (Nat.le_refl _) ha]
      exact decide_eq_true hb
  refine ⟨key.trans (and_congr h1 Iff.rfl),fun h=>?_⟩
  have ha:=(key.1 h).1
  rw [vers_all (k:=s.vers.length) (by simp) (Nat.le_refl _) ha]
  exact h2 ha
theorem sortV_m {s:SttD} (h:∀ i,i < s.vers.length → mVer s i = false):SortV s.vers:=sortV_of fun k hk h0=>by
  have:=h k hk
  unfold mVer at this
  simp only [Bool.or_eq_false_iff,Bool.and_eq_false_iff,decide_eq_false_iff_not] at this
  have:=this.1.2.resolve_left (by omega)
  omega
def ptS (l:List PartD) (i:Nat):List Int:=(l.take i).flatMap PartD.secs
theorem ptS_succ {l:List PartD} {k:Nat} (h:k < l.length):ptS l (k + 1) = ptS l k ++ l[k]!.secs:=by
  unfold ptS;rw [take_next h,List.flatMap_append];simp
theorem pt_step {l:List PartD} {e:List (KV × Bool)} {base:List Int} (h:Has e base) (hb:SecOk base):∀ k,k ≤ l.length →
    ((∀ i,i < k → ptOk l e i = false) ↔ (∀ i,i < k → mPt l i = false) ∧ SecOk (base ++ ptS l k)) ∧ ((∀ i,i < k → ptOk l e i = false) → Has (ptE l e k) (base ++ ptS l k))
  | 0,_=>by
    have:ptS l 0 = []:=rfl
    rw [this,List.append_nil]
    exact ⟨⟨fun _=>⟨fun i hi=>absurd hi (Nat.not_lt_zero _),hb⟩,fun _ i hi=>absurd hi (Nat.not_lt_zero _)⟩,fun _=>h⟩
  | k + 1,hk=>by
    obtain ⟨h1,h2⟩:=pt_step (l:=l) h hb k (by omega)
    have hlt:k < l.length:=by omega
    have hbad:(∀ i,i < k → ptOk l e i = false) → (ptOk l e k = false ↔ mPt l k = false ∧ SecOk (base ++ ptS l (k + 1))):=fun ha=>by
      obtain ⟨g1,g2⟩:=takeF_has (l:=l[k]!.secs) (size:=l[k]!.size) (h2 ha) (h1.1 ha).2
      unfold ptOk ptA ptB mPt
      rw [ptS_succ hlt,← List.append_assoc]
      simp only [Bool.or_eq_false_iff,Bool.not_eq_false',Bool.and_eq_false_iff,decide_eq_false_iff_not,inR_iff,bne_eq_false_iff_eq]
      rw [g1]
      constructor
      · rintro ⟨⟨a,b,c,d⟩,⟨f,g⟩,x⟩
        refine ⟨⟨by omega,by omega,f,?_⟩,g⟩
        omega
      · rintro ⟨⟨a,b,f,x⟩,g⟩
        refine ⟨⟨by omega,by omega,by omega,by omega⟩,⟨f,g⟩,?_⟩
        omega
    refine ⟨⟨fun hh=>?_,fun hh=>?_⟩,fun hh=>?_⟩
    · have ha:∀ i,i < k → ptOk l e i = false:=fun i hi=>hh i (by omega)
      have hb':=(hbad ha).1 (hh k (by omega))
      exact ⟨allN' (h1.1 ha).1 hb'.1,hb'.2⟩
    · have hs:SecOk (base ++ ptS l k):=by have:=hh.2;rw [ptS_succ hlt,← List.append_assoc] at this;exact this.left
      have ha:=h1.2 ⟨fun i hi=>hh.1 i (by omega),hs⟩
      exact allN' (p:=fun i=>ptOk l e i) ha ((hbad ha).2 ⟨hh.1 k (by omega),hh.2⟩)
    · have ha:∀ i,i < k → ptOk l e i = false:=fun i hi=>hh i (by omega)
      obtain ⟨g1,g2⟩:=takeF_has (l:=l[k]!.secs) (size:=l[k]!.size) (h2 ha) (h1.1 ha).2
      have hb':=hh k (by omega)
      unfold ptOk ptB at hb'
      simp only [Bool.or_eq_false_iff,Bool.not_eq_false'] at hb'
      rw [ptS_succ hlt,← List.append_assoc]
      exact g2 hb'.2.1
theorem ptGo_fst {l:List PartD} {e:List (KV × Bool)}:∀ j k,j + k = l.length → (ptGo l j k (ptE l e k)).1 = true → ∀ i,k ≤ i → i < l.length → ptOk l e i = false
  | 0,k,hk,_,i,h1,h2=>absurd h2 (by omega)
  | j + 1,k,hk,h,i,h1,h2=>by
    simp only [ptGo] at h
    cases hA:ptA l k
    · cases hb:ptB l k (ptE l e k)
      · simp only [hA,hb,cond_false] at h
        rcases Nat.lt_or_eq_of_le h1 with h' | h'
        · exact ptGo_fst j (k + 1) (by omega) h i h' h2
        · subst h';unfold ptOk;rw [hA,hb];rfl
      · simp only [hA,hb,cond_true,cond_false] at h;cases h
    · simp only [hA,cond_true] at h;cases h
theorem pt_iff {l:List PartD} {e:List (KV × Bool)} {base:List Int} (h:Has e base) (hb:SecOk base) :
    ((ptF l e).1 = true ↔ (∀ i,i < l.length → mPt l i = false) ∧ SecOk (base ++ l.flatMap PartD.secs)) ∧ ((ptF l e).1 = true → Has (ptE l e l.length) (base ++ l.flatMap PartD.secs)):=by
  obtain ⟨h1,h2⟩:=pt_step (l:=l) h hb l.length (Nat.le_refl _)
  have e1:ptS l l.length = l.flatMap PartD.secs:=by unfold ptS;rw [List.take_length]
  rw [e1] at h1 h2
  have key:(ptF l e).1 = true ↔ ∀ i,i < l.length → ptOk l e i = false :=
    ⟨fun h i hi=>ptGo_fst l.length 0 (by omega) h i (by omega) hi,fun ha=>by rw [pt_end (k:=l.length) (by simp) (Nat.le_refl _) ha]⟩
  exact ⟨key.trans h1,fun h=>h2 (key.1 h)⟩
theorem sU_succ {s:SttD} {k:Nat} (h:k < s.ups.length):sU s (k + 1) = sU s k ++ upS s.ups[k]!:=by
  rw [sU_next h];unfold sP upS;rw [List.take_length]
theorem upA_eq {s:SttD} (hn:1 ≤ s.next ∧ s.next ≤ 1048576) (hS:SortB s.bkts) (k:Nat):mUp s k = (upA s k || (List.range s.ups[k]!.parts.length).any (mPt s.ups[k]!.parts)):=by
  unfold mUp upA
  rw [thereB_eq hS,ge_lt,Bool.not_not,IntWalk.i64_in (s.next - 1) (by omega)]
  congr 1
  rw [Bool.eq_iff_iff]
  simp only [Bool.or_eq_true,Bool.and_eq_true,decide_eq_true_eq,Bool.not_eq_true',inR_ne,bne_iff_ne,ne_eq]
  constructor
  · rintro (h | h | h | h)
    · exact .inl h
    · exact .inr (.inl h)
    · right;right;omega
    · right;right;omega
  · rintro (h | h | h | h | h)
    · exact .inl h
    · exact .inr (.inl h)
    · right;right;omega
    · right;right;omega
    · right;right;omega
theorem any_iff {n:Nat} {p:Nat → Bool}:(List.range n).any p = false ↔ ∀ k,k < n → p k = false:=⟨any_false,fun h=>by
  rw [List.any_eq_false];intro x hx;rw [h x (List.mem_range.1 hx)];decide⟩
theorem up_step {s:SttD} {e:List (KV × Bool)} (hn:1 ≤ s.next ∧ s.next ≤ 1048576) (hS:SortB s.bkts) (h:Has e (sVall s)) (hb:SecOk (sVall s)):∀ k,k ≤ s.ups.length →
    ((∀ i,i < k → upOk s e i = false) ↔ (∀ i,i < k → mUp s i = false) ∧ SecOk (sU s k)) ∧ ((∀ i,i < k → upOk s e i = false) → Has (upE s e k) (sU s k))
  | 0,_=>by
    rw [sU_0]
    exact ⟨⟨fun _=>⟨fun i hi=>absurd hi (Nat.not_lt_zero _),hb⟩,fun _ i hi=>absurd hi (Nat.not_lt_zero _)⟩,fun _=>h⟩
  | k + 1,hk=>by
    obtain ⟨h1,h2⟩:=up_step hn hS h hb k (by omega)
    have hlt:k < s.ups.length:=by omega
    have hbad:(∀ i,i < k → upOk s e i = false) → (upOk s e k = false ↔ mUp s k = false ∧ SecOk (sU s (k + 1))):=fun ha=>by
      obtain ⟨g1,g2⟩:=pt_iff (l:=s.ups[k]!.parts) (h2 ha) (h1.1 ha).2
      rw [upA_eq hn hS,sU_succ hlt]
      unfold upOk upS
      simp only [Bool.or_eq_false_iff,Bool.not_eq_false',any_iff]
      rw [g1]
      constructor
      · rintro ⟨a,b,c⟩;exact ⟨⟨a,b⟩,c⟩
      · rintro ⟨⟨a,b⟩,c⟩;exact ⟨a,b,c⟩
    refine ⟨⟨fun hh=>?_,fun hh=>?_⟩,fun hh=>?_⟩
    · have ha:∀ i,i < k → upOk s e i = false:=fun i hi=>hh i (by omega)
      have hb':=(hbad ha).1 (hh k (by omega))
      exact ⟨allN' (h1.1 ha).1 hb'.1,hb'.2⟩
    · have hs:SecOk (sU s k):=by have:=hh.2;rw [sU_succ hlt] at this;exact this.left
      have ha:=h1.2 ⟨fun i hi=>hh.1 i (by omega),hs⟩
      exact allN' (p:=fun i=>upOk s e i) ha ((hbad ha).2 ⟨hh.1 k (by omega),hh.2⟩)
    · have ha:∀ i,i < k → upOk s e i = false:=fun i hi=>hh i (by omega)
      obtain ⟨g1,g2⟩:=pt_iff (l:=s.ups[k]!.parts) (h2 ha) (h1.1 ha).2
      have hb':=hh k (by omega)
      unfold upOk at hb'
      simp only [Bool.or_eq_false_iff,Bool.not_eq_false'] at hb'
      rw [sU_succ hlt]
      exact g2 hb'.2
theorem upGo_fst {s:SttD} {e:List (KV × Bool)}:∀ j k,j + k = s.ups.length → (upGo s j k (upE s e k)).1 = true → ∀ i,k ≤ i → i < s.ups.length → upOk s e i = false
  | 0,k,hk,_,i,h1,h2=>absurd h2 (by omega)
  | j + 1,k,hk,h,i,h1,h2=>by
    simp only [upGo] at h
    cases hA:upA s k
    · cases hb:(ptF s.ups[k]!.parts (upE s e k)).1
      · simp only [hA,hb,cond_false] at h;cases h
      · simp only [hA,hb,cond_false,cond_true] at h
        rcases Nat.lt_or_eq_of_le h1 with h' | h'
        · rw [ptF_snd hb] at h
          exact upGo_fst j (k + 1) (by omega) h i h' h2
        · subst h';unfold upOk;rw [hA,hb];rfl
    · simp only [hA,cond_true] at h;cases h
theorem sU_len (s:SttD):sU s s.ups.length = allSec s:=by unfold sU allSec;rw [List.take_length]
theorem ups_iff {s:SttD} {e:List (KV × Bool)} (hn:1 ≤ s.next ∧ s.next ≤ 1048576) (hS:SortB s.bkts) (h:Has e (sVall s)) (hb:SecOk (sVall s)) :
    ((upsF s e).1 = true ↔ ((∀ i,i < s.ups.length → mUp s i = false) ∧ SecOk (allSec s)) ∧ (s.ups.length:Int) ≤ 4) ∧ ((upsF s e).1 = true → Has (upsF s e).2 (allSec s)):=by
  obtain ⟨h1,h2⟩:=up_step hn hS h hb s.ups.length (Nat.le_refl _)
  rw [sU_len] at h1 h2
  have key:(upsF s e).1 = true ↔ (∀ i,i < s.ups.length → upOk s e i = false) ∧ (s.ups.length:Int) ≤ 4:=by
    constructor
    · intro h
      unfold upsF at h
      rw [Bool.and_eq_true,decide_eq_true_eq] at h
      exact ⟨fun i hi=>upGo_fst s.ups.length 0 (by omega) h.1 i (by omega) hi,h.2⟩
    · rintro ⟨ha,hb⟩
      rw [ups_all (k:=s.ups.length) (by simp) (Nat.le_refl _) ha]
      exact decide_eq_true hb
  refine ⟨key.trans (and_congr h1 Iff.rfl),fun h=>?_⟩
  have ha:=(key.1 h).1
  rw [ups_all (k:=s.ups.length) (by simp) (Nat.le_refl _) ha]
  exact h2 ha
theorem any_take (l:List AskD) (v:Int):∀ k,k ≤ l.length → (l.take k).any (fun b=>b.ver == v) = (List.range k).any (fun j=>l[j]!.ver == v)
  | 0,_=>rfl
  | k + 1,hk=>by
    rw [take_next (by omega),List.any_append,any_take l v k (by omega),List.range_succ,List.any_append]
    simp
theorem qu_eq {s:SttD} (hV:SortV s.vers) {k:Nat} (hk:k < s.queue.length):quBad s k = mQu s k:=by
  obtain ⟨h1,h2⟩:=thereV_eq hV s.queue[k]!.ver
  unfold quBad mQu
  rw [any_take _ _ k (by omega)]
  congr 1
  cases ht:thereV s s.queue[k]!.ver
  · rw [ht,ge_lt] at h1
    have:decide (idxD s.vers.length (pV s.vers s.queue[k]!.ver) < 0) = true:=by simpa using h1.symm
    rw [this];rfl
  · rw [h2 ht]
    have:decide (((verI s s.queue[k]!.ver:Nat):Int) < 0) = false:=by simp
    rw [this,Int.toNat_natCast]
    rw [Bool.eq_iff_iff]
    simp only [Bool.or_eq_true,decide_eq_true_eq,Bool.not_eq_true',inR_ne,bne_iff_ne,ne_eq,Bool.not_true,Bool.false_eq_true,false_or]
    constructor
    · rintro (h | h | h | h | h)
      · exact .inl h
      · right;left;left;omega
      · right;left;right;omega
      · right;right;left;omega
      · right;right;right;omega
    · rintro (h | (h | h) | (h | h))
      · exact .inl h
      · right;left;omega
      · right;right;left;omega
      · right;right;right;left;omega
      · right;right;right;right;omega
theorem sec_iff {l:List Int}:SecOk l ↔ ∀ k,k < l.length → mSec l k = false:=by
  unfold SecOk mSec
  constructor
  · rintro ⟨h1,h2⟩ k hk
    rw [Bool.or_eq_false_iff]
    refine ⟨?_,any_iff.2 fun j hj=>?_⟩
    · rw [getElem!_pos l k hk]
      have:=h1 _ (List.getElem_mem hk)
      simp only [Bool.not_eq_false',inR_iff];omega
    · rw [getElem!_pos l k hk,getElem!_pos l j (by omega)]
      have:=(List.pairwise_iff_getElem.1 h2) j k (by omega) hk hj
      simpa using fun e=>this e.symm
  · intro h
    refine ⟨fun x hx=>?_,List.pairwise_iff_getElem.2 fun i j hi hj hij e=>?_⟩
    · obtain ⟨k,hk,rfl⟩:=mem_get hx
      have:=(Bool.or_eq_false_iff.1 (h k hk)).1
      simp only [Bool.not_eq_false',inR_iff] at this
      omega
    · have:=any_iff.1 (Bool.or_eq_false_iff.1 (h j hj)).2 i hij
      rw [getElem!_pos l j hj,getElem!_pos l i hi] at this
      simp [e] at this
theorem all_congr {n:Nat} {p q:Nat → Bool} (h:∀ k,k < n → p k = q k):noneF n p = noneF n q:=by
  rw [Bool.eq_iff_iff,none_iff,none_iff]
  exact ⟨fun g k hk=>by rw [← h k hk];exact g k hk,fun g k hk=>by rw [h k hk];exact g k hk⟩
theorem check_iff (s:SttD):checkF s = 0 ↔ mayF s = true:=by
  unfold checkF mayF
  have hN:mNum s = false ↔ numBad s = false ∧ (s.bkts.length:Int) ≤ 4 ∧ (s.vers.length:Int) ≤ 40 ∧ (s.ups.length:Int) ≤ 4 ∧ (s.queue.length:Int) ≤ 10:=by
    unfold mNum numBad
    simp only [Bool.or_eq_false_iff,Bool.not_eq_false',inR_iff,decide_eq_false_iff_not]
    omega
  cases hb:numBad s
  case true =>
    have:mNum s = true:=by
      cases h:mNum s
      · have:=(hN.1 h).1;rw [hb] at this;cases this
      · rfl
    simp [this]
  have hn:1 ≤ s.next ∧ s.next ≤ 1048576:=by
    unfold numBad at hb
    simp only [Bool.or_eq_false_iff,decide_eq_false_iff_not] at hb
    omega
  have hg:goneF s.gone = noneF s.gone.length (mGone s.gone):=by
    unfold goneF;rw [rngF];exact all_congr fun k _=>gn_eq _ _
  simp only [cond_false]
  rw [hg]
  cases hgn:noneF s.gone.length (mGone s.gone)
  case false=>simp
  simp only [cond_true,Bool.true_and,Bool.and_eq_true,Bool.not_eq_true']
  rw [show ((bif restF s then (0:Int) else 9) = 0) = (restF s = true) from by cases restF s<;>simp]
  unfold restF
  simp only [Bool.and_eq_true]
  have hB:bktsF s.bkts = true ↔ noneF s.bkts.length (mBkt s.bkts) = true ∧ (s.bkts.length:Int) ≤ 4:=by
    unfold bktsF
    rw [Bool.and_eq_true,rngF,decide_eq_true_eq,all_congr fun k _=>bk_eq _ _]
  constructor
  · rintro ⟨b,v,u,q⟩
    have hS:SortB s.bkts:=sortB_of fun k hk=>by rw [bk_eq];exact none_iff.1 (hB.1 b).1 k hk
    obtain ⟨v1,v2⟩:=vers_iff hn hS
    have hv:=v1.1 v
    obtain ⟨u1,u2⟩:=ups_iff hn hS (v2 v) hv.1.2
    have hu:=u1.1 u
    have hV:=sortV_m hv.1.1
    unfold queueF at q
    rw [Bool.and_eq_true,rngF,decide_eq_true_eq,all_congr fun k hk=>qu_eq hV hk] at q
    exact ⟨hN.2 ⟨hb,(hB.1 b).2,hv.2,hu.2,q.2⟩,(hB.1 b).1,none_iff.2 hv.1.1,none_iff.2 hu.1.1,q.1,none_iff.2 (sec_iff.1 hu.1.2)⟩
  · rintro ⟨n,b,v,u,q,x⟩
    obtain ⟨_,l1,l2,l3,l4⟩:=hN.1 n
    have b':bktsF s.bkts = true:=hB.2 ⟨b,l1⟩
    have hS:SortB s.bkts:=sortB_of fun k hk=>by rw [bk_eq];exact none_iff.1 b k hk
    have hsec:SecOk (allSec s):=sec_iff.2 (none_iff.1 x)
    have hsv:SecOk (sVall s):=by unfold allSec at hsec;exact hsec.left
    obtain ⟨v1,v2⟩:=vers_iff hn hS
    have hv:=v1.2 ⟨⟨none_iff.1 v,hsv⟩,l2⟩
    obtain ⟨u1,u2⟩:=ups_iff hn hS (v2 hv) hsv
    have hV:=sortV_m (none_iff.1 v)
    refine ⟨b',hv,u1.2 ⟨⟨none_iff.1 u,hsec⟩,l3⟩,?_⟩
    unfold queueF
    rw [Bool.and_eq_true,rngF,decide_eq_true_eq,all_congr fun k hk=>qu_eq hV hk]
    exact ⟨q,l4⟩
theorem check_eq (s:SttD):checkF s = bif mayF s then 0 else 9:=by
  cases h:mayF s
  · have h1:¬ checkF s = 0:=fun e=>by rw [check_iff,h] at e;cases e
    revert h1
    unfold checkF
    cases numBad s<;>cases goneF s.gone<;>cases restF s<;>simp
  · exact check_iff s |>.2 h
end Go.Proofs.Ytikgiadbkjmabaa
