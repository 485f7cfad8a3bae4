/- The last version for a key is the one of the greatest number: in states that may be. -/
import Derived.Test.YtobbkfldjemgkaaRgM
namespace Go.Proofs.Ytobbkfldjemgkaa
open Go.RowKit
set_option maxHeartbeats 4000000
set_option maxRecDepth 20000
attribute [local irreducible] SW SWL SWLn SWD SEcall SEcallv SDv SE SO1 SOg ACalls ACallv Wk EndV
set_option linter.unusedSimpArgs false
set_option linter.unusedVariables false
structure IdOk (l : List VerD) : Prop where
  pos : ∀ k, k < l.length → 1 ≤ (l[k]!).id
  up : ∀ k, k + 1 < l.length → (l[k]!).id < (l[k + 1]!).id
theorem IdOk.mono {l : List VerD} (h : IdOk l) {i : Nat} : ∀ {j : Nat}, i < j → j < l.length → (l[i]!).id < (l[j]!).id
  | 0, hij, _ => absurd hij (Nat.not_lt_zero _)
  | j + 1, hij, hj => by
    have h1 := h.up j hj
    rcases Nat.lt_or_eq_of_le (Nat.le_of_lt_succ hij) with h2 | h2
    · have := h.mono h2 (by omega); omega
    · subst h2; exact h1
theorem idOk_of {s : SttD} (h : mayF s = true) : IdOk s.vers := by
  unfold mayF at h
  simp only [Bool.and_eq_true, none_iff, Bool.not_eq_true'] at h
  have key : ∀ k, k < s.vers.length → 1 ≤ (s.vers[k]!).id ∧ (decide ((k : Int) > 0) && decide ((s.vers[k]!).id ≤ (s.vers[k - 1]!).id)) = false := fun k hk => by
    have hv := h.2.2.2.1 k hk
    unfold mVer at hv
    simp only [Bool.or_eq_false_iff, Bool.not_eq_false'] at hv
    refine ⟨?_, hv.1.2⟩
    have h1 := hv.1.1
    unfold vmF at h1
    generalize s.vers[k]! = v at h1 ⊢
    cases hb : vmBad s v
    · unfold vmBad at hb
      simp only [Bool.or_eq_false_iff, Bool.not_eq_false'] at hb
      exact (inR_iff.1 hb.2.2.1).1
    · rw [hb] at h1; cases h1
  refine ⟨fun k hk => (key k hk).1, fun k hk => ?_⟩
  have := (key (k + 1) hk).2
  simp only [Bool.and_eq_false_iff, decide_eq_false_iff_not] at this
  rw [Nat.add_sub_cancel] at this
  omega
theorem best_last {l : List VerD} (h : IdOk l) (name key : ByteArray) : ∀ k, k ≤ l.length → bestK l name key k = (lastV l name key k).getD verZ ∧ ∀ j, k ≤ j → j < l.length → (bestK l name key k).id < (l[j]!).id
  | 0, _ => ⟨rfl, fun j _ hj => by have := h.pos j hj; show (0 : Int) < _; omega⟩
  | k + 1, hk => by
    obtain ⟨h1, h2⟩ := best_last h name key k (by omega)
    have h3 := h2 k (Nat.le_refl _) (by omega)
    have hd : decide ((l[k]!).id > (bestK l name key k).id) = true := by simpa using h3
    cases hf : forB l[k]! name key
    · have e1 : bestK l name key (k + 1) = bestK l name key k := by show cond _ _ _ = _; rw [hf]; rfl
      have e2 : lastV l name key (k + 1) = lastV l name key k := by show cond _ _ _ = _; rw [hf]; rfl
      rw [e1, e2]
      exact ⟨h1, fun j hj hj2 => h2 j (by omega) hj2⟩
    · have e1 : bestK l name key (k + 1) = l[k]! := by show cond _ _ _ = _; rw [hf, hd]; rfl
      have e2 : lastV l name key (k + 1) = some l[k]! := by show cond _ _ _ = _; rw [hf]; rfl
      rw [e1, e2]
      exact ⟨rfl, fun j hj hj2 => h.mono (by omega) hj2⟩
theorem last_mem {l : List VerD} {name key : ByteArray} {v : VerD} : ∀ {k : Nat}, lastV l name key k = some v → ∃ i, i < k ∧ v = l[i]!
  | 0, h => by cases h
  | k + 1, h => by
    cases hf : forB l[k]! name key
    · have e2 : lastV l name key (k + 1) = lastV l name key k := by show cond _ _ _ = _; rw [hf]; rfl
      rw [e2] at h
      obtain ⟨i, hi, e⟩ := last_mem h
      exact ⟨i, by omega, e⟩
    · have e2 : lastV l name key (k + 1) = some l[k]! := by show cond _ _ _ = _; rw [hf]; rfl
      rw [e2] at h
      exact ⟨k, by omega, (Option.some.inj h).symm⟩
theorem lat_eq (s : SttD) (name key : ByteArray) : lat2 s name key = latV s name key := by
  unfold lat2 latV
  cases hm : mayF s
  · rfl
  · simp only [cond_true]
    have hi := idOk_of hm
    have hb := (best_last hi name key _ (Nat.le_refl _)).1
    rw [hb]
    cases hl : lastV s.vers name key s.vers.length with
    | none => rfl
    | some v =>
      obtain ⟨i, hi2, rfl⟩ := last_mem hl
      have h1 := hi.pos i hi2
      have hd : decide ((s.vers[i]!).id > 0) = true := decide_eq_true (by omega)
      show AV.tup _ = AV.tup [_, AV.d (.v (.bool (decide ((s.vers[i]!).id > 0)))), _]
      rw [hd]; rfl
theorem secs_wf {s : SttD} (hw : s.wf) : ∀ k : Nat, (s.vers[k]!).secs.length * 8 ≤ 2 ^ 47 := fun k => by
  rcases Nat.lt_or_ge k s.vers.length with h | h
  · exact (st_fit hw).vs k h
  · rw [getElem!_neg s.vers k (by omega)]; decide
theorem latV_noName (s : SttD) (name key : ByteArray) : noName (latV s name key) := by
  unfold latV
  cases mayF s <;> rfl
theorem latest_p (s : SttD) (hw : s.wf) (name key : ByteArray) : Pure Try.prog 8 [s.av, .d (.v (.string name)), .d (.v (.string key))] (latV s name key) := by
  rw [← lat_eq]
  refine (latest_g s hw (secs_wf hw) name key).p ?_ ?_
  · rw [lat_eq]; exact latV_noName s name key
  · intro c hc
    simp only [List.mem_cons, List.not_mem_nil, or_false] at hc
    rcases hc with rfl | rfl | rfl <;> rfl
theorem e8 : enters Try.prog 8 = true := by kernel_rfl
end Go.Proofs.Ytobbkfldjemgkaa
