/- A state that may be: what the program asks is what the document asks. No program in sight. -/
import Derived.Test.YtikgiadbkjmabaaBnd
namespace Go.Proofs.Ytikgiadbkjmabaa
open Go.RowKit
set_option linter.unusedSimpArgs false
set_option linter.unusedVariables false
set_option maxRecDepth 20000
set_option maxHeartbeats 1000000
theorem gn_eq (l:List Int) (k:Nat):gnBad l k = mGone l k:=by
  unfold gnBad mGone
  rw [Bool.eq_iff_iff]
  simp only [Bool.or_eq_true,Bool.and_eq_true,decide_eq_true_eq,Bool.not_eq_true',inR_ne]
  omega
theorem bk_eq (l:List BktD) (k:Nat):bkBad l k = mBkt l k:=by
  unfold bkBad mBkt
  rw [less_tri]
  rw [Bool.eq_iff_iff]
  simp only [Bool.or_eq_true,Bool.and_eq_true,decide_eq_true_eq,Bool.not_eq_true',inR_ne,bne_iff_ne,ne_eq]
  constructor
  · rintro (h | h | h | h | h)
    · exact .inl h
    · exact .inr (.inl (.inl h))
    · exact .inr (.inl (.inr h))
    · exact .inr (.inr (.inl h))
    · exact .inr (.inr (.inr h))
  · rintro (h | (h | h) | h | h)
    · exact .inl h
    · exact .inr (.inl h)
    · exact .inr (.inr (.inl h))
    · exact .inr (.inr (.inr (.inl h)))
    · exact .inr (.inr (.inr (.inr h)))
theorem rngF {n:Nat} {p:Nat → Bool}:(List.range n).all (fun k=>!p k) = noneF n p:=rfl
def SortB (l:List BktD):Prop:=∀ i j,i < j → j < l.length → Op.bytesLess l[i]!.name.toList l[j]!.name.toList = true
theorem sortB_of {l:List BktD} (h:∀ k,k < l.length → bkBad l k = false):SortB l:=fun i j hij=>by
  induction j with
  | zero=>exact absurd hij (Nat.not_lt_zero _)
  | succ j ih =>
    intro hj
    have h1:=h (j + 1) hj
    unfold bkBad at h1
    simp only [Bool.or_eq_false_iff,Bool.and_eq_false_iff,decide_eq_false_iff_not,Nat.add_sub_cancel,Bool.not_eq_false'] at h1
    have h2:Op.bytesLess l[j]!.name.toList l[j + 1]!.name.toList = true:=h1.2.2.2.2.resolve_left (by omega)
    rcases Nat.lt_or_eq_of_le (Nat.le_of_lt_succ hij) with h' | h'
    · exact less_trans _ _ _ (ih h' (by omega)) h2
    · subst h';exact h2
theorem thereB_eq {s:SttD} (h:SortB s.bkts) (x:ByteArray):thereB s x = decide (idxD s.bkts.length (pB s.bkts x) ≥ 0):=by
  unfold thereB
  refine (there_eq (fun i _=>?_) (fun i j hij hj hc=>?_)).1
  · unfold pB cB cmpB
    rw [cmp_zero,ByteArray.toList_eq,ByteArray.toList_eq]
  · unfold cB cmpB at hc ⊢
    have h1:=h i j hij hj
    rw [ByteArray.toList_eq,ByteArray.toList_eq] at h1
    have h2:Op.bytesLess s.bkts[i]!.name.data.toList x.data.toList = true:=by
      rcases Int.lt_or_eq_of_le hc with h3 | h3
      · have:=decide_eq_true h3
        rw [cmp_neg] at this
        exact less_trans _ _ _ h1 this
      · have h3:(Lib.compareBytes s.bkts[j]!.name.data.toList x.data.toList == 0) = true:=by rw [h3];rfl
        rw [cmp_zero] at h3
        rw [← eq_of_beq h3];exact h1
    rw [← cmp_neg] at h2
    exact of_decide_eq_true h2
def SortV (l:List VerD):Prop:=∀ i j,i < j → j < l.length → l[i]!.id < l[j]!.id
theorem sortV_of {l:List VerD} (h:∀ k,k < l.length → 0 < k → l[k - 1]!.id < l[k]!.id):SortV l:=fun i j hij=>by
  induction j with
  | zero=>exact absurd hij (Nat.not_lt_zero _)
  | succ j ih =>
    intro hj
    have h2:=h (j + 1) hj (by omega)
    simp only [Nat.add_sub_cancel] at h2
    rcases Nat.lt_or_eq_of_le (Nat.le_of_lt_succ hij) with h' | h'
    · have:=ih h' (by omega);omega
    · subst h';exact h2
theorem thereV_eq {s:SttD} (h:SortV s.vers) (x:Int):thereV s x = decide (idxD s.vers.length (pV s.vers x) ≥ 0) ∧ (thereV s x = true → idxD s.vers.length (pV s.vers x) = verI s x):=by
  have key:=there_eq (c:=cV s.vers x) (n:=s.vers.length) (p:=pV s.vers x) (fun i _=>by
    unfold pV cV cmpI
    rw [Bool.eq_iff_iff,beq_iff_eq,beq_iff_eq]
    split
    · omega
    · split<;>omega) (fun i j hij hj hc=>by
    have h1:=h i j hij hj
    unfold cV cmpI at hc ⊢
    split at hc
    · rw [if_pos (by omega)];decide
    · split at hc
      · omega
      · rw [if_pos (by omega)];decide)
  unfold thereV verI
  exact ⟨key.1,fun h=>key.2 (key.1 ▸ h)⟩
theorem idx_pI {l:List Int} {v:Int}:idxD l.length (pI l v) = idxD l.length (pG l v):=by
  have:pI l v = pG l v:=by
    funext k;unfold pI pG
    rw [Bool.eq_iff_iff,beq_iff_eq,beq_iff_eq]
    exact ⟨fun h=>h.symm,fun h=>h.symm⟩
  rw [this]
theorem ge_lt (x:Int):decide (x ≥ 0) = !decide (x < 0):=by
  rw [Bool.eq_iff_iff];simp
theorem takeF_has {es:List (KV × Bool)} {base l:List Int} {size:Int} (h:Has es base) (hb:SecOk base):((takeF es l size).1 = true ↔ (l.length:Int) = secN size ∧ SecOk (base ++ l)) ∧ ((takeF es l size).1 = true → Has (takeF es l size).2 (base ++ l)):=by
  unfold takeF
  split
  · rename_i e
    have:=takeL_has l es base h hb
    exact ⟨⟨fun h=>⟨e,this.1.1 h⟩,fun h=>this.1.2 h.2⟩,this.2⟩
  · rename_i e
    simp [e]
theorem nil_of_len {l:List Int} (h:(l.length:Int) = 0):l = []:=List.length_eq_zero_iff.1 (by omega)
theorem sound_has {s:SttD} {v:VerD} {es:List (KV × Bool)} {base:List Int} (hn:1 ≤ s.next ∧ s.next ≤ 1048576) (hS:SortB s.bkts) (h:Has es base) (hb:SecOk base) :
    ((soundF s v es).1 = true ↔ vmF s v = true ∧ SecOk (base ++ v.secs)) ∧ ((soundF s v es).1 = true → Has (soundF s v es).2 (base ++ v.secs)):=by
  have hbad:badF s v = vmBad s v:=by
    unfold badF vmBad
    rw [thereB_eq hS,ge_lt,Bool.not_not,IntWalk.i64_in (s.next - 1) (by omega)]
    rw [Bool.eq_iff_iff]
    simp only [Bool.or_eq_true,decide_eq_true_eq,Bool.not_eq_true',inR_ne,bne_iff_ne,ne_eq]
    omega
  unfold soundF vmF
  rw [hbad]
  cases vmBad s v
  case true=>simp
  simp only [cond_false]
  cases hm:v.mark
  case true =>
    simp only [cond_true]
    constructor
    · constructor
      · intro hk
        refine ⟨hk,?_⟩
        unfold markF at hk
        simp only [Bool.and_eq_true,beq_iff_eq] at hk
        rw [nil_of_len hk.2.2.1];simpa using hb
      · exact fun h=>h.1
    · intro hk
      unfold markF at hk
      simp only [Bool.and_eq_true,beq_iff_eq] at hk
      rw [nil_of_len hk.2.2.1];simpa using h
  simp only [cond_false]
  have T:=takeF_has (l:=v.secs) (size:=v.size) h hb
  have htp:tapedF s v = (inR v.vol 0 7 && (inR v.pos 0 4000 && !decide (idxD s.gone.length (pG s.gone v.vol) ≥ 0))):=by
    unfold tapedF
    rw [idx_pI]
    cases decide (idxD s.gone.length (pG s.gone v.vol) ≥ 0)
    · rw [Bool.eq_iff_iff]
      simp only [Bool.and_eq_true,decide_eq_true_eq,inR_iff,Bool.not_false,and_true]
      omega
    · simp
  by_cases hsz:0 ≤ v.size ∧ v.size ≤ 600
  case neg =>
    have e1:(decide (v.size ≥ 0) && decide (v.size ≤ 600)) = false:=by
      rw [Bool.and_eq_false_iff,decide_eq_false_iff_not,decide_eq_false_iff_not];omega
    have e2:inR v.size 0 600 = false:=inR_ne.2 (by omega)
    simp [e1,e2]
  have e1:(decide (v.size ≥ 0) && decide (v.size ≤ 600)) = true:=by
    rw [Bool.and_eq_true,decide_eq_true_eq,decide_eq_true_eq];omega
  have e2:inR v.size 0 600 = true:=inR_iff.2 hsz
  simp only [e1,e2,cond_true,Bool.not_true,Bool.false_or]
  unfold tierF
  rw [htp]
  by_cases t1:v.tier = 1
  · have i1:inR v.tier 1 3 = true:=inR_iff.2 (by omega)
    simp only [t1,beq_self_eq_true,cond_true,show ((1:Int) == 2) = false from rfl,cond_false,show inR 1 1 3 = true from rfl,Bool.not_true]
    cases hz:(v.vol == 0 && (v.pos == 0 && v.till == 0))
    · simp
    · simp only [cond_true]
      refine ⟨T.1.trans ?_,T.2⟩
      by_cases hl:(v.secs.length:Int) = secN v.size
      · simp [hl]
      · have:((v.secs.length:Int) != secN v.size) = true:=by simpa using hl
        simp [hl,this]
  by_cases t2:v.tier = 2
  · simp only [t2,beq_self_eq_true,cond_true,show ((2:Int) == 1) = false from rfl,cond_false,show inR 2 1 3 = true from rfl,Bool.not_true]
    by_cases hl:(v.secs.length:Int) = 0
    · have hl':((v.secs.length:Int) != 0) = false:=by simpa using hl
      have hl2:((v.secs.length:Int) == 0) = true:=by simpa using hl
      rw [nil_of_len hl] at hl' hl2 ⊢
      simp only [hl',hl2,cond_false,List.append_nil,Bool.and_true]
      refine ⟨?_,fun _=>h⟩
      cases inR v.vol 0 7<;>cases inR v.pos 0 4000<;>cases decide (idxD s.gone.length (pG s.gone v.vol) ≥ 0)<;>cases (v.till == 0)<;>simp [hb]
    · have hl':((v.secs.length:Int) != 0) = true:=by simpa using hl
      have hl2:((v.secs.length:Int) == 0) = false:=by simpa using hl
      simp [hl',hl2]
  by_cases t3:v.tier = 3
  · simp only [t3,beq_self_eq_true,cond_true,show ((3:Int) == 1) = false from rfl,show ((3:Int) == 2) = false from rfl,cond_false,show inR 3 1 3 = true from rfl,Bool.not_true]
    have e4:(decide (v.till ≥ 0) && decide (v.till ≤ 1073742824)) = inR v.till 0 1073742824:=rfl
    rw [e4]
    by_cases hl:(v.secs.length:Int) = secN v.size
    · have hl':((v.secs.length:Int) != secN v.size) = false:=by simpa using hl
      simp only [hl',cond_false]
      cases inR v.vol 0 7<;>cases inR v.pos 0 4000<;>cases decide (idxD s.gone.length (pG s.gone v.vol) ≥ 0)<;>cases inR v.till 0 1073742824<;>simp only [Bool.and_self,Bool.and_true,Bool.and_false,Bool.not_true,Bool.not_false,cond_true,cond_false,Bool.or_true,Bool.or_false,Bool.true_and,Bool.false_and,Bool.true_or,Bool.false_or]<;>first | exact ⟨T.1.trans ⟨fun h=>⟨rfl,h.2⟩,fun h=>⟨hl,h.2⟩⟩,T.2⟩ | (simp;done) | (simp;exact ⟨T.1.trans ⟨fun h=>h.2,fun h=>⟨hl,h⟩⟩,T.2⟩)
    · have hl':((v.secs.length:Int) != secN v.size) = true:=by simpa using hl
      simp only [hl',cond_true]
      have hT:(takeF es v.secs v.size).1 = false:=by
        cases hh:(takeF es v.secs v.size).1
        · rfl
        · exact absurd (T.1.1 hh).1 hl
      cases inR v.vol 0 7<;>cases inR v.pos 0 4000<;>cases decide (idxD s.gone.length (pG s.gone v.vol) ≥ 0)<;>cases inR v.till 0 1073742824<;>simp [hT]
  · have i1:inR v.tier 1 3 = false:=inR_ne.2 (by omega)
    have j1:(v.tier == 1) = false:=by simpa using t1
    have j2:(v.tier == 2) = false:=by simpa using t2
    have j3:(v.tier == 3) = false:=by simpa using t3
    simp [i1,j1,j2,j3]
end Go.Proofs.Ytikgiadbkjmabaa
