/- The order of versions by key,the latest one first: plain facts. No program in sight. -/
import Derived.Test.YtikgiadbkjmabaaLkA
import Derived.Test.YtikgiadbkjmabaaPlA
import Derived.Shelf.SlSortCmp.WholeK
namespace Go.Proofs.Ytikgiadbkjmabaa
open Go.RowKit
set_option linter.unusedSimpArgs false
set_option linter.unusedVariables false
set_option linter.unusedSimpArgs false
def ltR (a b:VerD):Bool:=Op.bytesLess a.key.data.toList b.key.data.toList || (a.key.data.toList == b.key.data.toList && decide (b.id < a.id))
theorem ordV_lt (a b:VerD):decide (ordV a b < 0) = ltR a b:=by
  unfold ordV orI ltR
  have h1:=cmp_neg a.key.data.toList b.key.data.toList
  have h2:=cmp_zero a.key.data.toList b.key.data.toList
  rw [← h1,← h2]
  unfold cmpB
  generalize Lib.compareBytes a.key.data.toList b.key.data.toList = c
  unfold cmpI
  by_cases h:c = 0
  · subst h
    simp only [bne_self_eq_false,cond_false,beq_self_eq_true,Bool.true_and]
    by_cases h3:b.id < a.id
    · simp [h3]
    · by_cases h4:b.id > a.id<;>simp [h3,h4]
  · have:(c != 0) = true:=by simpa using h
    have h5:(c == 0) = false:=by simpa using h
    simp [this,h5]
theorem ltR_irrefl (x:VerD):ltR x x = false:=by simp [ltR,less_irrefl]
theorem ltR_trans (x y z:VerD) (h1:ltR x y = true) (h2:ltR y z = true):ltR x z = true:=by
  simp only [ltR,Bool.or_eq_true,Bool.and_eq_true,beq_iff_eq,decide_eq_true_eq] at *
  rcases h1 with h1 | ⟨e1,h1⟩<;>rcases h2 with h2 | ⟨e2,h2⟩
  · exact .inl (less_trans _ _ _ h1 h2)
  · rw [← e2];exact .inl h1
  · rw [e1];exact .inl h2
  · exact .inr ⟨e1.trans e2,by omega⟩
theorem ltR_false (x y:VerD):ltR x y = false ↔ Op.bytesLess y.key.data.toList x.key.data.toList = true ∨ y.key.data.toList = x.key.data.toList ∧ x.id ≤ y.id:=by
  have h:=less_tri x.key.data.toList y.key.data.toList
  simp only [ltR,Bool.or_eq_false_iff,Bool.and_eq_false_iff,beq_eq_false_iff_ne,decide_eq_false_iff_not]
  rw [Bool.eq_iff_iff] at h
  simp only [Bool.not_eq_true',Bool.or_eq_true,beq_iff_eq] at h
  constructor
  · rintro ⟨h1,h2⟩
    rcases h.1 h1 with h3 | h3
    · exact .inl h3
    · exact .inr ⟨h3,(h2.resolve_left fun h4=>h4 h3.symm) |> Int.not_lt.1⟩
  · rintro (h3 | ⟨h3,h4⟩)
    · refine ⟨h.2 (.inl h3),.inl fun e=>?_⟩
      rw [e,less_irrefl] at h3;cases h3
    · exact ⟨h.2 (.inr h3),.inr (Int.not_lt.2 h4)⟩
theorem ltR_ntrans (x y z:VerD) (h1:ltR x y = false) (h2:ltR y z = false):ltR x z = false:=by
  rw [ltR_false] at *
  rcases h1 with h1 | ⟨e1,h1⟩<;>rcases h2 with h2 | ⟨e2,h2⟩
  · exact .inl (less_trans _ _ _ h2 h1)
  · rw [e2];exact .inl h1
  · rw [← e1];exact .inl h2
  · exact .inr ⟨e2.trans e1,by omega⟩
abbrev VerM:=VerD × (Option Addr × Nat × Nat)
def cfM (x y:VerM):Int:=ordV x.1 y.1
theorem ltM (x y:VerM):ltOf cfM x y = ltR x.1 y.1:=ordV_lt x.1 y.1
theorem swoM:Go.Sort.SWO (ltOf cfM) where
  irrefl x:=by rw [ltM];exact ltR_irrefl _
  trans x y z h1 h2:=by rw [ltM] at *;exact ltR_trans _ _ _ h1 h2
  ntrans x y z h1 h2:=by rw [ltM] at *;exact ltR_ntrans _ _ _ h1 h2
theorem sorted_uniq:∀ (ys l:List VerD),l.Perm ys → ys.Pairwise (fun a b=>ltR a b = true) → l.Pairwise (fun a b=>ltR b a = false) → l = ys
  | [],l,hp,_,_=>hp.eq_nil
  | y :: ys,[],hp,_,_=>(by have:=hp.length_eq;simp at this)
  | y :: ys,x :: l,hp,h1,h2=>by
    obtain ⟨h3,h4⟩:=List.pairwise_cons.1 h1
    obtain ⟨h5,h6⟩:=List.pairwise_cons.1 h2
    have hxy:x = y:=by
      have hy:y ∈ x :: l:=hp.mem_iff.2 (by simp)
      have hx:x ∈ y :: ys:=hp.mem_iff.1 (by simp)
      rcases List.mem_cons.1 hy with e | hy
      · exact e.symm
      · rcases List.mem_cons.1 hx with e | hx
        · exact e
        · have a:=h3 x hx
          have b:=h5 y hy
          rw [a] at b;cases b
    subst hxy
    rw [sorted_uniq ys l (List.Perm.cons_inv hp) h4 h6]
def insR (v:VerD):List VerD → List VerD
  | []=>[v]
  | o :: l=>bif !Op.bytesLess o.key.data.toList v.key.data.toList then v :: o :: l else o :: insR v l
def srtR (l:List VerD):List VerD:=l.foldl (fun acc v=>insR v acc) []
theorem insR_perm (v:VerD):∀ l,(insR v l).Perm (v :: l)
  | []=>.refl _
  | o :: l=>by
    unfold insR
    cases Op.bytesLess o.key.data.toList v.key.data.toList
    · exact .refl _
    · exact (List.Perm.cons o (insR_perm v l)).trans (List.Perm.swap v o l)
theorem insR_sorted (v:VerD):∀ l,(∀ x ∈ l,x.id < v.id) → l.Pairwise (fun a b=>ltR a b = true) → (insR v l).Pairwise (fun a b=>ltR a b = true)
  | [],_,_=>by simp [insR]
  | o :: l,hid,h=>by
    obtain ⟨h1,h2⟩:=List.pairwise_cons.1 h
    unfold insR
    cases hl:Op.bytesLess o.key.data.toList v.key.data.toList
    · have hvo:ltR v o = true:=by
        have:=less_tri o.key.data.toList v.key.data.toList
        rw [hl] at this
        simp only [Bool.not_false] at this
        simp only [ltR,Bool.or_eq_true,Bool.and_eq_true,beq_iff_eq,decide_eq_true_eq]
        rcases Bool.or_eq_true_iff.1 this.symm with h3 | h3
        · exact .inl h3
        · exact .inr ⟨eq_of_beq h3,hid o (by simp)⟩
      refine List.pairwise_cons.2 ⟨fun x hx=>?_,h⟩
      rcases List.mem_cons.1 hx with rfl | hx
      · exact hvo
      · exact ltR_trans _ _ _ hvo (h1 x hx)
    · refine List.pairwise_cons.2 ⟨fun x hx=>?_,insR_sorted v l (fun x hx=>hid x (by simp [hx])) h2⟩
      rcases List.mem_cons.1 ((insR_perm v l).mem_iff.1 hx) with rfl | hx
      · simp [ltR,hl]
      · exact h1 x hx
theorem srtR_go (l:List VerD):∀ acc:List VerD,(∀ x ∈ acc,∀ v ∈ l,x.id < v.id) → l.Pairwise (fun a b=>a.id < b.id) → acc.Pairwise (fun a b=>ltR a b = true) → (l.foldl (fun acc v=>insR v acc) acc).Perm (acc ++ l) ∧ (l.foldl (fun acc v=>insR v acc) acc).Pairwise (fun a b=>ltR a b = true):=by
  induction l with
  | nil=>intro acc _ _ h;exact ⟨by simp,h⟩
  | cons v l ih =>
    intro acc h1 h2 h3
    obtain ⟨h4,h5⟩:=List.pairwise_cons.1 h2
    have hmem:∀ x ∈ insR v acc,∀ u ∈ l,x.id < u.id:=fun x hx u hu=>by
      rcases List.mem_cons.1 ((insR_perm v acc).mem_iff.1 hx) with rfl | hx
      · exact h4 u hu
      · exact h1 x hx u (by simp [hu])
    obtain ⟨g1,g2⟩:=ih (insR v acc) hmem h5 (insR_sorted v acc (fun x hx=>h1 x hx v (by simp)) h3)
    refine ⟨?_,g2⟩
    rw [List.foldl_cons]
    refine g1.trans ?_
    refine ((insR_perm v acc).append_right l).trans ?_
    rw [List.cons_append]
    exact List.perm_middle.symm
theorem srtR_ok (l:List VerD) (h:l.Pairwise (fun a b=>a.id < b.id)):(srtR l).Perm l ∧ (srtR l).Pairwise (fun a b=>ltR a b = true):=by
  have:=srtR_go l [] (by simp) h List.Pairwise.nil
  simpa [srtR] using this
end Go.Proofs.Ytikgiadbkjmabaa
