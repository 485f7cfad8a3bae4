/- What code.Encode answers: plain. -/
import Derived.Test.YtckjgipcephmfaaDoorKWD
import Derived.Test.YtckjgipcephmfaaDoorNz
namespace Go.Proofs.YtckjgipcephmfaaDoor
open Go.RowKit
set_option maxHeartbeats 4000000
set_option maxRecDepth 20000
attribute [local irreducible] SW SWL SWLn SWD SEcall SEcallv SDv SE SO1 SOg ACalls ACallv Wk EndV
set_option linter.unusedSimpArgs false
set_option linter.unusedVariables false
def firstF : List RecD → Int
  | [] => 0
  | r :: l => bif recF r == 0 then firstF l else recF r
def encE (l : List RecD) : Int := bif decide ((l.length : Int) > 255) then 1 else firstF l
def catR (l : List RecD) (k : Nat) : List UInt8 := ((l.take k).map recB).flatten
def encB (l : List RecD) : List UInt8 := [b8 l.length] ++ catR l l.length
def encL (l : List RecD) : List UInt8 := bif encE l == 0 then encB l else []
def encV (l : List RecD) : AV := .tup [.d (bytes (encL l)), I (encE l)]
theorem catR_0 (l : List RecD) : catR l 0 = [] := rfl
theorem catR_next {l : List RecD} {k : Nat} (h : k < l.length) : catR l (k + 1) = catR l k ++ recB l[k]! := by
  simp only [catR, take_next h, List.map_append, List.map_cons, List.map_nil, List.flatten_append, List.flatten_cons, List.flatten_nil, List.append_nil]
def okN (l : List RecD) (k : Nat) : Prop := ∀ j, j < k → recF l[j]! = 0
theorem okN_0 (l : List RecD) : okN l 0 := fun _ h => absurd h (Nat.not_lt_zero _)
theorem okN_next {l : List RecD} {k : Nat} (h : okN l k) (h1 : recF l[k]! = 0) : okN l (k + 1) := fun j hj => by
  rcases Nat.lt_or_eq_of_le (Nat.le_of_lt_succ hj) with h2 | h2
  · exact h j h2
  · subst h2; exact h1
theorem first_bad : ∀ {l : List RecD} {k : Nat}, k < l.length → okN l k → (recF l[k]! == 0) = false → firstF l = recF l[k]!
  | [], _, hk, _, _ => absurd hk (Nat.not_lt_zero _)
  | r :: l, 0, _, _, h => by
    simp only [List.getElem!_cons_zero] at h ⊢
    unfold firstF; rw [h]; rfl
  | r :: l, k + 1, hk, h1, h => by
    have h0 : recF r = 0 := by simpa using h1 0 (by omega)
    simp only [List.getElem!_cons_succ] at h ⊢
    unfold firstF
    rw [show (recF r == 0) = true by rw [h0]; rfl]
    exact first_bad (l := l) (k := k) (by simpa using hk) (fun j hj => by simpa using h1 (j + 1) (by omega)) h
theorem first_ok : ∀ {l : List RecD}, okN l l.length → firstF l = 0
  | [], _ => rfl
  | r :: l, h => by
    have h0 : recF r = 0 := by simpa using h 0 (by simp)
    unfold firstF
    rw [show (recF r == 0) = true by rw [h0]; rfl]
    exact first_ok (l := l) fun j hj => by simpa using h (j + 1) (by simp; omega)
structure RecD.sm (r : RecD) : Prop where
  k1 : 1 ≤ r.kind
  k2 : r.kind ≤ 14
  name : r.name.size ≤ 255
  key : r.key.size ≤ 255
  pre : r.pre.size ≤ 255
  bkt : r.ver.bkt.size ≤ 255
  vkey : r.ver.key.size ≤ 255
  secs : r.secs.length ≤ 255
  vsecs : r.ver.secs.length ≤ 255
  psecs : r.part.secs.length ≤ 255
theorem RecD.sm.sh {r : RecD} (h : r.sm) : r.sh := ⟨by have := h.name; omega, by have := h.key; omega, by have := h.pre; omega, by have := h.bkt; omega, by have := h.vkey; omega⟩
theorem recF_parts {r : RecD} (h : recF r = 0) : kindF r = true ∧ rngF r = true ∧ szF r = true ∧ bareF r = true := by
  unfold recF at h
  cases h1 : kindF r
  · rw [h1] at h; cases h
  · cases h2 : rngF r
    · rw [h1, h2] at h; cases h
    · cases h3 : szF r
      · rw [h1, h2, h3] at h; cases h
      · cases h4 : bareF r
        · rw [h1, h2, h3, h4] at h; cases h
        · exact ⟨rfl, rfl, rfl, rfl⟩
theorem recF_sm {r : RecD} (h : recF r = 0) : r.sm := by
  obtain ⟨h1, _, h3, _⟩ := recF_parts h
  unfold kindF at h1
  unfold szF namesF at h3
  simp only [Bool.and_eq_true, decide_eq_true_eq, List.any_cons, List.any_nil, longT, Bool.or_false, Bool.not_eq_true', Bool.or_eq_false_iff, decide_eq_false_iff_not] at h1 h3
  obtain ⟨⟨⟨⟨a1, _⟩, a2, a3, a4, a5, a6⟩, ⟨b1, _⟩, _⟩, ⟨c1, _⟩, _⟩ := h3
  exact ⟨by omega, by omega, by omega, by omega, by omega, by omega, by omega, by omega, by omega, by omega⟩
theorem recF_rng {r : RecD} (h : recF r = 0) : rngF r = true := (recF_parts h).2.1
theorem recB_len {r : RecD} (h : r.sm) : (recB r).length ≤ 2200 := by
  have h1 := h.name; have h2 := h.key; have h3 := h.pre; have h4 := h.bkt; have h5 := h.vkey; have h6 := h.secs; have h7 := h.vsecs; have h8 := h.psecs
  have k1 := h.k1; have k2 := h.k2
  rcases (by omega : r.kind = 1 ∨ r.kind = 2 ∨ r.kind = 3 ∨ r.kind = 4 ∨ r.kind = 5 ∨ r.kind = 6 ∨ r.kind = 7 ∨ r.kind = 8 ∨ r.kind = 9 ∨ r.kind = 10 ∨ r.kind = 11 ∨ r.kind = 12 ∨ r.kind = 13 ∨ r.kind = 14) with hk | hk | hk | hk | hk | hk | hk | hk | hk | hk | hk | hk | hk | hk
  · rw [recB_1 hk]; simp [textB_len]; omega
  · rw [recB_2 hk]; simp [textB_len, bigB_len]; omega
  · rw [recB_3 hk]; simp [textB_len, bigB_len, ruleB]; omega
  · rw [recB_4 hk]; simp [textB_len, bigB_len, verB, bitB, intsB_len]; omega
  · rw [recB_5 hk]; simp [bigB_len]
  · rw [recB_6 hk]; simp [bigB_len]
  · rw [recB_7 hk]; simp [bigB_len, askB]
  · rw [recB_8 hk]; simp [bigB_len, intsB_len]; omega
  · rw [recB_9 hk]; simp [bigB_len]
  · rw [recB_10 hk]; simp [bigB_len, textB_len]; omega
  · rw [recB_11 hk]; simp [bigB_len, partB, intsB_len]; omega
  · rw [recB_12 hk]; simp [bigB_len]
  · rw [recB_13 hk]; simp [bigB_len]
  · rw [recB_14 hk]; simp
theorem catR_len {l : List RecD} : ∀ {k : Nat}, k ≤ l.length → okN l k → (catR l k).length ≤ 2200 * k
  | 0, _, _ => by simp [catR]
  | k + 1, hk, h => by
    have h1 := catR_len (l := l) (k := k) (by omega) (fun j hj => h j (by omega))
    have h2 := recB_len (recF_sm (h k (by omega)))
    rw [catR_next (by omega), List.length_append]; omega
theorem enc_size {l : List RecD} (h : decide ((l.length : Int) > 255) = true) : AV.tup [.d (.ro []), I 1] = encV l := by
  have e : encE l = 1 := by unfold encE; rw [h]; rfl
  unfold encV encL; rw [e]; rfl
theorem enc_bad {l : List RecD} (h : decide ((l.length : Int) > 255) = false) {k : Nat} (hk : k < l.length) (h1 : okN l k) (h2 : (recF l[k]! == 0) = false) : AV.tup [.d (.ro []), I (recF l[k]!)] = encV l := by
  have e : encE l = recF l[k]! := by unfold encE; rw [h]; exact first_bad hk h1 h2
  unfold encV encL; rw [e, h2]; rfl
theorem enc_ok {l : List RecD} (h : decide ((l.length : Int) > 255) = false) {k : Nat} (hk : k = l.length) (h1 : okN l k) : AV.tup [.d (.ro (([b8 l.length] ++ catR l k).map by_)), I 0] = encV l := by
  subst hk
  have e : encE l = 0 := by unfold encE; rw [h]; exact first_ok h1
  unfold encV encL; rw [e]; rfl
end Go.Proofs.YtckjgipcephmfaaDoor
