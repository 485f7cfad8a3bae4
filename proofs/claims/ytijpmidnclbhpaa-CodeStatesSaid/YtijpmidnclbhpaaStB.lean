/- A state as bytes: plain; what a state that may be is like, to be written. -/
import Derived.Test.YtijpmidnclbhpaaKB
import Derived.Test.YtijpmidnclbhpaaMayQ
namespace Go.Proofs.Ytijpmidnclbhpaa
open Go.RowKit
set_option maxHeartbeats 4000000
set_option maxRecDepth 20000
attribute [local irreducible] SW SWL SWLn SWD SEcall SEcallv SDv SE SO1 SOg ACalls ACallv Wk EndV
set_option linter.unusedSimpArgs false
set_option linter.unusedVariables false
def catF {α : Type} (f : α → List UInt8) (l : List α) (k : Nat) : List UInt8 := ((l.take k).map f).flatten
theorem catF_0 {α : Type} (f : α → List UInt8) (l : List α) : catF f l 0 = [] := rfl
theorem catF_next {α : Type} [Inhabited α] {f : α → List UInt8} {l : List α} {k : Nat} (h : k < l.length) : catF f l (k + 1) = catF f l k ++ f l[k]! := by
  simp only [catF, take_next h, List.map_append, List.map_cons, List.map_nil, List.flatten_append, List.flatten_cons, List.flatten_nil, List.append_nil]
theorem catF_end {α : Type} {f : α → List UInt8} {l : List α} {k : Nat} (h : decide ((k : Int) < (l.length : Int)) = false) : catF f l k = catF f l l.length := by
  have : l.length ≤ k := by simp at h; omega
  simp only [catF, List.take_of_length_le this, List.take_length]
theorem catF_len {α : Type} [Inhabited α] {f : α → List UInt8} {l : List α} {c : Nat} (h : ∀ j, j < l.length → (f l[j]!).length ≤ c) : ∀ k, (catF f l k).length ≤ c * l.length := fun k => by
  have : ∀ k, k ≤ l.length → (catF f l k).length ≤ c * k := fun k => by
    induction k with
    | zero => intro _; simp [catF]
    | succ k ih =>
      intro hk
      have h1 := ih (by omega)
      have h2 := h k (by omega)
      rw [catF_next (by omega), List.length_append, Nat.mul_add]; omega
  rcases Nat.lt_or_ge k l.length with hk | hk
  · have h1 := this k (by omega)
    have h2 : c * k ≤ c * l.length := Nat.mul_le_mul_left c (by omega)
    omega
  · rw [catF_end (k := k) (by simp; omega)]; exact this _ (Nat.le_refl _)
def bkB (b : BktD) : List UInt8 := textB b.name ++ (b8 b.mode :: ruleB b.pre b.frz b.drop)
def upH (u : UpD) : List UInt8 := bigB u.id 3 ++ (textB u.bkt ++ (textB u.key ++ [b8 u.parts.length]))
def upB (u : UpD) : List UInt8 := upH u ++ catF partB u.parts u.parts.length
def sbB (s : SttD) (k : Nat) : List UInt8 := bigB s.next 3 ++ (bigB s.clock 4 ++ [b8 s.bkts.length]) ++ catF bkB s.bkts k
def sbBe (s : SttD) : List UInt8 := sbB s s.bkts.length
def sbV (s : SttD) (k : Nat) : List UInt8 := sbBe s ++ [b8 s.vers.length] ++ catF verB s.vers k
def sbVe (s : SttD) : List UInt8 := sbV s s.vers.length
def sbU (s : SttD) (k : Nat) : List UInt8 := sbVe s ++ [b8 s.ups.length] ++ catF upB s.ups k
def sbUe (s : SttD) : List UInt8 := sbU s s.ups.length
def sbP (s : SttD) (k j : Nat) : List UInt8 := sbU s k ++ upH s.ups[k]! ++ catF partB s.ups[k]!.parts j
def sbQ (s : SttD) (k : Nat) : List UInt8 := sbUe s ++ [b8 s.queue.length] ++ catF askB s.queue k
def sbQe (s : SttD) : List UInt8 := sbQ s s.queue.length
def stB (s : SttD) : List UInt8 := sbQe s ++ intsB s.gone
theorem sbB_0 (s : SttD) : sbB s 0 = bigB s.next 3 ++ (bigB s.clock 4 ++ [b8 s.bkts.length]) := by simp [sbB, catF_0]
theorem sbB_next {s : SttD} {k : Nat} (h : k < s.bkts.length) : sbB s (k + 1) = sbB s k ++ (textB s.bkts[k]!.name ++ (b8 s.bkts[k]!.mode :: ruleB s.bkts[k]!.pre s.bkts[k]!.frz s.bkts[k]!.drop)) := by unfold sbB; rw [catF_next h]; simp [bkB]
theorem sbB_end {s : SttD} {k : Nat} (h : decide ((k : Int) < (s.bkts.length : Int)) = false) : sbB s k = sbBe s := by unfold sbBe sbB; rw [catF_end h]
theorem sbV_0 (s : SttD) : sbV s 0 = sbBe s ++ [b8 s.vers.length] := by simp [sbV, catF_0]
theorem sbV_next {s : SttD} {k : Nat} (h : k < s.vers.length) : sbV s (k + 1) = sbV s k ++ verB s.vers[k]! := by unfold sbV; rw [catF_next h]; simp
theorem sbV_end {s : SttD} {k : Nat} (h : decide ((k : Int) < (s.vers.length : Int)) = false) : sbV s k = sbVe s := by unfold sbVe sbV; rw [catF_end h]
theorem sbU_0 (s : SttD) : sbU s 0 = sbVe s ++ [b8 s.ups.length] := by simp [sbU, catF_0]
theorem sbP_0 (s : SttD) (k : Nat) : sbP s k 0 = sbU s k ++ (bigB s.ups[k]!.id 3 ++ (textB s.ups[k]!.bkt ++ (textB s.ups[k]!.key ++ [b8 s.ups[k]!.parts.length]))) := by simp [sbP, catF_0, upH]
theorem sbP_next {s : SttD} {k j : Nat} (h : j < s.ups[k]!.parts.length) : sbP s k (j + 1) = sbP s k j ++ partB s.ups[k]!.parts[j]! := by unfold sbP; rw [catF_next h]; simp
theorem sbP_end {s : SttD} {k j : Nat} (hk : k < s.ups.length) (h : decide ((j : Int) < (s.ups[k]!.parts.length : Int)) = false) : sbP s k j = sbU s (k + 1) := by unfold sbP sbU; rw [catF_end h, catF_next hk]; simp [upB]
theorem sbU_end {s : SttD} {k : Nat} (h : decide ((k : Int) < (s.ups.length : Int)) = false) : sbU s k = sbUe s := by unfold sbUe sbU; rw [catF_end h]
theorem sbQ_0 (s : SttD) : sbQ s 0 = sbUe s ++ [b8 s.queue.length] := by simp [sbQ, catF_0]
theorem sbQ_next {s : SttD} {k : Nat} (h : k < s.queue.length) : sbQ s (k + 1) = sbQ s k ++ askB s.queue[k]! := by unfold sbQ; rw [catF_next h]; simp
theorem sbQ_end {s : SttD} {k : Nat} (h : decide ((k : Int) < (s.queue.length : Int)) = false) : sbQ s k = sbQe s := by unfold sbQe sbQ; rw [catF_end h]
structure WrOk (s : SttD) : Prop where
  next : 0 ≤ s.next ∧ s.next ≤ 2 ^ 40
  clock : 0 ≤ s.clock ∧ s.clock ≤ 2 ^ 40
  lb : s.bkts.length ≤ 4
  lv : s.vers.length ≤ 40
  lu : s.ups.length ≤ 4
  lq : s.queue.length ≤ 10
  lg : s.gone.length ≤ 8
  b1 : ∀ k, k < s.bkts.length → s.bkts[k]!.name.size ≤ 16
  b2 : ∀ k, k < s.bkts.length → 0 ≤ s.bkts[k]!.mode ∧ s.bkts[k]!.mode ≤ 2 ^ 40
  b3 : ∀ k, k < s.bkts.length → s.bkts[k]!.pre.size ≤ 16
  b4 : ∀ k, k < s.bkts.length → -1 ≤ s.bkts[k]!.frz ∧ s.bkts[k]!.frz ≤ 2 ^ 39
  b5 : ∀ k, k < s.bkts.length → -1 ≤ s.bkts[k]!.drop ∧ s.bkts[k]!.drop ≤ 2 ^ 39
  v1 : ∀ k, k < s.vers.length → VerD.rg s.vers[k]!
  v2 : ∀ k, k < s.vers.length → s.vers[k]!.bkt.size ≤ 16 ∧ s.vers[k]!.key.size ≤ 16 ∧ s.vers[k]!.secs.length ≤ 10
  u1 : ∀ k, k < s.ups.length → 0 ≤ s.ups[k]!.id ∧ s.ups[k]!.id ≤ 2 ^ 40
  u2 : ∀ k, k < s.ups.length → s.ups[k]!.bkt.size ≤ 16 ∧ s.ups[k]!.key.size ≤ 16 ∧ s.ups[k]!.parts.length ≤ 5
  p1 : ∀ k j, k < s.ups.length → j < s.ups[k]!.parts.length → 0 ≤ s.ups[k]!.parts[j]!.num ∧ s.ups[k]!.parts[j]!.num ≤ 2 ^ 40
  p2 : ∀ k j, k < s.ups.length → j < s.ups[k]!.parts.length → 0 ≤ s.ups[k]!.parts[j]!.size ∧ s.ups[k]!.parts[j]!.size ≤ 2 ^ 40
  p3 : ∀ k j, k < s.ups.length → j < s.ups[k]!.parts.length → s.ups[k]!.parts[j]!.secs.length ≤ 10
  q1 : ∀ k, k < s.queue.length → 0 ≤ s.queue[k]!.ver ∧ s.queue[k]!.ver ≤ 2 ^ 40
  q2 : ∀ k, k < s.queue.length → 0 ≤ s.queue[k]!.days ∧ s.queue[k]!.days ≤ 2 ^ 40
  q3 : ∀ k, k < s.queue.length → 0 ≤ s.queue[k]!.cls ∧ s.queue[k]!.cls ≤ 2 ^ 40
theorem size_eq {a b : ByteArray} (h : (a.toList == b.toList) = true) : a.size = b.size := by
  rw [bs_eq] at h; rw [of_decide_eq_true h]
theorem word_size {a : ByteArray} {m : Int} (h : (wordF a m != 0) = false) : (a.size : Int) ≤ m := by
  unfold wordF at h
  cases hi : inR a.size 1 m
  · rw [hi] at h; cases h
  · exact (inR_iff.1 hi).2
theorem rule_rg {a : ByteArray} {x y : Int} (h : (ruleF a x y != 0) = false) : a.size ≤ 16 ∧ (-1 ≤ x ∧ x ≤ 1073741824) ∧ (-1 ≤ y ∧ y ≤ 1073741824) := by
  unfold ruleF at h
  cases h1 : decide ((a.size : Int) > 16)
  · rw [h1] at h
    simp only [cond_false] at h
    cases h2 : lettersF a
    · rw [h2] at h; cases h
    · rw [h2] at h
      simp only [cond_true] at h
      cases h3 : inR x (-1) 1073741824 && inR y (-1) 1073741824
      · rw [h3] at h; cases h
      · rw [Bool.and_eq_true, inR_iff, inR_iff] at h3
        have := of_decide_eq_false h1
        exact ⟨by omega, h3.1, h3.2⟩
  · rw [h1] at h; cases h
theorem gone_len {l : List Int} (h : ∀ k, k < l.length → mGone l k = false) : l.length ≤ 8 := by
  have h1 : ∀ k, k < l.length → (k : Int) ≤ l[k]! ∧ l[k]! ≤ 7 := fun k => by
    induction k with
    | zero =>
      intro hk
      have := h 0 hk
      unfold mGone at this
      simp only [Bool.or_eq_false_iff, Bool.not_eq_false', inR_iff] at this
      exact ⟨by have := this.1.1; omega, this.1.2⟩
    | succ k ih =>
      intro hk
      have h2 := ih (by omega)
      have := h (k + 1) hk
      unfold mGone at this
      simp only [Bool.or_eq_false_iff, Bool.not_eq_false', inR_iff, Bool.and_eq_false_iff, decide_eq_false_iff_not, Nat.add_sub_cancel] at this
      obtain ⟨h3, h4⟩ := this
      have : l[k]! < l[k + 1]! := by
        rcases h4 with h4 | h4
        · exact absurd (by omega : ((k + 1 : Nat) : Int) > 0) h4
        · omega
      exact ⟨by omega, h3.2⟩
  rcases Nat.lt_or_ge 8 l.length with h2 | h2
  · have := h1 8 h2; omega
  · exact h2
theorem vm_rg {s : SttD} (hn : 1 ≤ s.next ∧ s.next ≤ 1048576) (hc : 0 ≤ s.clock ∧ s.clock ≤ 1073741824) (hb : ∀ k, k < s.bkts.length → s.bkts[k]!.name.size ≤ 16) {v : VerD} (h : vmF s v = true) : v.rg ∧ (v.bkt.size ≤ 16 ∧ v.key.size ≤ 16 ∧ v.secs.length ≤ 10) := by
  unfold vmF at h
  cases hB : vmBad s v
  · rw [hB] at h
    simp only [cond_false] at h
    unfold vmBad at hB
    simp only [Bool.or_eq_false_iff, Bool.not_eq_false', inR_iff, decide_eq_false_iff_not] at hB
    obtain ⟨b1, b2, b3, b4⟩ := hB
    rw [IntWalk.i64_in (s.next - 1) (by omega)] at b3
    obtain ⟨k, hk, hp⟩ := idxD_ge.1 (by omega : idxD s.bkts.length (pB s.bkts v.bkt) ≥ 0)
    have e1 : v.bkt.size ≤ 16 := by rw [← size_eq hp]; exact hb k hk
    have e2 : v.key.size ≤ 16 := by have := word_size b2; omega
    cases hm : v.mark
    · rw [hm] at h
      simp only [cond_false] at h
      cases hA : (!inR v.size 0 600 || !inR v.tier 1 3)
      · rw [hA] at h
        simp only [cond_false] at h
        simp only [Bool.or_eq_false_iff, Bool.not_eq_false', inR_iff] at hA
        obtain ⟨a1, a2⟩ := hA
        cases hS : ((v.secs.length : Int) != (bif v.tier == 2 then 0 else secN v.size))
        · rw [hS] at h
          simp only [cond_false] at h
          have e3 : v.secs.length ≤ 10 := by
            have h1 : (v.secs.length : Int) = (bif v.tier == 2 then 0 else secN v.size) := by simpa [bne] using hS
            cases ht : v.tier == 2
            · rw [ht] at h1
              simp only [cond_false] at h1
              rw [secN_of a1.1 a1.2] at h1; omega
            · rw [ht] at h1; simp only [cond_true] at h1; omega
          cases h1 : v.tier == 1
          · rw [h1] at h
            simp only [cond_false] at h
            cases hV : (!inR v.vol 0 7 || (!inR v.pos 0 4000 || decide (idxD s.gone.length (pG s.gone v.vol) ≥ 0)))
            · rw [hV] at h
              simp only [cond_false] at h
              simp only [Bool.or_eq_false_iff, Bool.not_eq_false', inR_iff] at hV
              obtain ⟨g1, g2, _⟩ := hV
              have g3 : 0 ≤ v.till ∧ v.till ≤ 1073742824 := by
                cases h2 : v.tier == 2
                · rw [h2] at h; exact inR_iff.1 h
                · rw [h2] at h
                  have : v.till = 0 := by simpa using h
                  omega
              exact ⟨⟨by omega, by omega, by omega, by omega, by omega, by omega, by omega, by omega, by omega, by omega⟩, e1, e2, e3⟩
            · rw [hV] at h; cases h
          · rw [h1] at h
            simp only [cond_true, Bool.and_eq_true, beq_iff_eq] at h
            obtain ⟨g1, g2, g3⟩ := h
            exact ⟨⟨by omega, by omega, by omega, by omega, by omega, by omega, by omega, by omega, by omega, by omega⟩, e1, e2, e3⟩
        · rw [hS] at h; cases h
      · rw [hA] at h; cases h
    · rw [hm] at h
      simp only [cond_true, markF, Bool.and_eq_true, beq_iff_eq] at h
      obtain ⟨g1, g2, g3, g4, g5, g6⟩ := h
      exact ⟨⟨by omega, by omega, by omega, by omega, by omega, by omega, by omega, by omega, by omega, by omega⟩, e1, e2, by omega⟩
  · rw [hB] at h; cases h
theorem may_wr {s : SttD} (h : mayF s = true) : WrOk s := by
  obtain ⟨h1, h2, h3, h4, h5⟩ := may_parts h
  have hn := may_next h5
  have hg : ∀ k, k < s.gone.length → mGone s.gone k = false := by
    unfold mayF at h
    simp only [Bool.and_eq_true, none_iff] at h
    exact h.2.1
  have hq : ∀ k, k < s.queue.length → mQu s k = false := by
    unfold mayF at h
    simp only [Bool.and_eq_true, none_iff] at h
    exact h.2.2.2.2.2.1
  unfold mNum at h5
  simp only [Bool.or_eq_false_iff, Bool.not_eq_false', inR_iff, decide_eq_false_iff_not] at h5
  obtain ⟨_, c1, c2, c3, c4, c5⟩ := h5
  have hb : ∀ k, k < s.bkts.length → s.bkts[k]!.name.size ≤ 8 ∧ (0 ≤ s.bkts[k]!.mode ∧ s.bkts[k]!.mode ≤ 2) ∧ s.bkts[k]!.pre.size ≤ 16 ∧ (-1 ≤ s.bkts[k]!.frz ∧ s.bkts[k]!.frz ≤ 1073741824) ∧ (-1 ≤ s.bkts[k]!.drop ∧ s.bkts[k]!.drop ≤ 1073741824) := fun k hk => by
    have := h4 k hk
    unfold mBkt at this
    simp only [Bool.or_eq_false_iff, Bool.not_eq_false', inR_iff] at this
    obtain ⟨a1, a2, a3, _⟩ := this
    have e := word_size a1
    obtain ⟨r1, r2, r3⟩ := rule_rg a3
    exact ⟨by omega, a2, r1, r2, r3⟩
  have hv : ∀ k, k < s.vers.length → VerD.rg s.vers[k]! ∧ (s.vers[k]!.bkt.size ≤ 16 ∧ s.vers[k]!.key.size ≤ 16 ∧ s.vers[k]!.secs.length ≤ 10) := fun k hk => by
    have := h1 k hk
    unfold mVer at this
    simp only [Bool.or_eq_false_iff, Bool.not_eq_false'] at this
    exact vm_rg hn c1 (fun k hk => by have := (hb k hk).1; omega) this.1.1
  have hid : ∀ k, k < s.vers.length → s.vers[k]!.id ≤ 1048576 := fun k hk => by
    have := h1 k hk
    unfold mVer vmF at this
    simp only [Bool.or_eq_false_iff, Bool.not_eq_false'] at this
    have := this.1.1
    cases hB : vmBad s s.vers[k]!
    · unfold vmBad at hB
      simp only [Bool.or_eq_false_iff, Bool.not_eq_false', inR_iff] at hB
      have b3 := hB.2.2.1
      rw [IntWalk.i64_in (s.next - 1) (by omega)] at b3
      omega
    · rw [hB] at this; cases this
  have hu : ∀ k, k < s.ups.length → (0 ≤ s.ups[k]!.id ∧ s.ups[k]!.id ≤ 2 ^ 40) ∧ s.ups[k]!.bkt.size ≤ 16 ∧ s.ups[k]!.key.size ≤ 16 ∧ ∀ j, j < s.ups[k]!.parts.length → mPt s.ups[k]!.parts j = false := fun k hk => by
    have := h2 k hk
    unfold mUp at this
    simp only [Bool.or_eq_false_iff, Bool.not_eq_false', inR_iff, decide_eq_false_iff_not] at this
    obtain ⟨⟨a1, a2, a3, _⟩, a4⟩ := this
    rw [IntWalk.i64_in (s.next - 1) (by omega)] at a3
    obtain ⟨i, hi, hp⟩ := idxD_ge.1 (by omega : idxD s.bkts.length (pB s.bkts s.ups[k]!.bkt) ≥ 0)
    have e1 : s.ups[k]!.bkt.size ≤ 16 := by rw [← size_eq hp]; have := (hb i hi).1; omega
    have e2 : s.ups[k]!.key.size ≤ 16 := by have := word_size a2; omega
    refine ⟨by omega, e1, e2, fun j hj => ?_⟩
    rw [Bool.eq_false_iff] at a4 ⊢
    exact fun h => a4 (List.any_eq_true.2 ⟨j, List.mem_range.2 hj, h⟩)
  have hp : ∀ k j, k < s.ups.length → j < s.ups[k]!.parts.length → ((j : Int) + 1 ≤ s.ups[k]!.parts[j]!.num ∧ s.ups[k]!.parts[j]!.num ≤ 5) ∧ (0 ≤ s.ups[k]!.parts[j]!.size ∧ s.ups[k]!.parts[j]!.size ≤ 600) ∧ s.ups[k]!.parts[j]!.secs.length ≤ 10 := fun k j hk => by
    induction j with
    | zero =>
      intro hj
      have := (hu k hk).2.2.2 0 hj
      unfold mPt at this
      simp only [Bool.or_eq_false_iff, Bool.not_eq_false', inR_iff] at this
      obtain ⟨a1, a2, a3, _⟩ := this
      have : (s.ups[k]!.parts[0]!.secs.length : Int) = secN s.ups[k]!.parts[0]!.size := by simpa [bne] using a3
      rw [secN_of a2.1 a2.2] at this
      exact ⟨by omega, a2, by omega⟩
    | succ j ih =>
      intro hj
      have hi := ih (by omega)
      have := (hu k hk).2.2.2 (j + 1) hj
      unfold mPt at this
      simp only [Bool.or_eq_false_iff, Bool.not_eq_false', inR_iff, Bool.and_eq_false_iff, decide_eq_false_iff_not, Nat.add_sub_cancel] at this
      obtain ⟨a1, a2, a3, a4⟩ := this
      have : (s.ups[k]!.parts[j + 1]!.secs.length : Int) = secN s.ups[k]!.parts[j + 1]!.size := by simpa [bne] using a3
      rw [secN_of a2.1 a2.2] at this
      have h6 : s.ups[k]!.parts[j]!.num < s.ups[k]!.parts[j + 1]!.num := by
        rcases a4 with a4 | a4
        · exact absurd (by omega : ((j + 1 : Nat) : Int) > 0) a4
        · omega
      exact ⟨by omega, a2, by omega⟩
  have hpl : ∀ k, k < s.ups.length → s.ups[k]!.parts.length ≤ 5 := fun k hk => by
    rcases Nat.lt_or_ge 5 s.ups[k]!.parts.length with h6 | h6
    · have := (hp k 5 hk h6).1; omega
    · exact h6
  have hqq : ∀ k, k < s.queue.length → (0 ≤ s.queue[k]!.ver ∧ s.queue[k]!.ver ≤ 2 ^ 40) ∧ (0 ≤ s.queue[k]!.days ∧ s.queue[k]!.days ≤ 2 ^ 40) ∧ (0 ≤ s.queue[k]!.cls ∧ s.queue[k]!.cls ≤ 2 ^ 40) := fun k hk => by
    have := hq k hk
    unfold mQu at this
    simp only [Bool.or_eq_false_iff, Bool.not_eq_false', inR_iff, decide_eq_false_iff_not] at this
    obtain ⟨⟨a1, _, a2, a3⟩, _⟩ := this
    obtain ⟨i, hi, hv1⟩ := idxD_ge.1 (by omega : idxD s.vers.length (pV s.vers s.queue[k]!.ver) ≥ 0)
    have e : s.vers[i]!.id = s.queue[k]!.ver := by simpa [pV] using hv1
    have e2 := (hv i hi).1.id
    exact ⟨by rw [← e]; exact e2, by omega, by omega⟩
  exact ⟨by omega, by omega, by omega, by omega, by omega, by omega, gone_len hg, fun k hk => by have := (hb k hk).1; omega, fun k hk => by have := (hb k hk).2.1; omega, fun k hk => (hb k hk).2.2.1, fun k hk => by have := (hb k hk).2.2.2.1; omega, fun k hk => by have := (hb k hk).2.2.2.2; omega, fun k hk => (hv k hk).1, fun k hk => (hv k hk).2, fun k hk => (hu k hk).1, fun k hk => ⟨(hu k hk).2.1, (hu k hk).2.2.1, hpl k hk⟩,
    fun k j hk hj => by have := (hp k j hk hj).1; omega, fun k j hk hj => by have := (hp k j hk hj).2.1; omega, fun k j hk hj => (hp k j hk hj).2.2, fun k hk => (hqq k hk).1, fun k hk => (hqq k hk).2.1, fun k hk => (hqq k hk).2.2⟩
theorem bkB_len {s : SttD} (h : WrOk s) : ∀ k, (catF bkB s.bkts k).length ≤ 400 := fun k => by
  have := catF_len (f := bkB) (l := s.bkts) (c := 100) (fun j hj => by have h1 := h.b1 j hj; have h2 := h.b3 j hj; generalize s.bkts[j]! = x at h1 h2 ⊢; simp [bkB, textB_len, ruleB, bigB_len]; omega) k
  have := h.lb; omega
theorem verB_len {s : SttD} (h : WrOk s) : ∀ k, (catF verB s.vers k).length ≤ 4000 := fun k => by
  have := catF_len (f := verB) (l := s.vers) (c := 100) (fun j hj => by have h1 := h.v2 j hj; generalize s.vers[j]! = x at h1 ⊢; simp [verB, bitB, textB_len, intsB_len, bigB_len]; omega) k
  have := h.lv; omega
theorem partB_len {s : SttD} (h : WrOk s) {i : Nat} (hi : i < s.ups.length) : ∀ k, (catF partB s.ups[i]!.parts k).length ≤ 100 := fun k => by
  have := catF_len (f := partB) (l := s.ups[i]!.parts) (c := 20) (fun j hj => by have h1 := h.p3 i j hi hj; generalize s.ups[i]!.parts[j]! = x at h1 ⊢; simp [partB, intsB_len, bigB_len]; omega) k
  have := (h.u2 i hi).2.2; omega
theorem upH_len {s : SttD} (h : WrOk s) {i : Nat} (hi : i < s.ups.length) : (upH s.ups[i]!).length ≤ 100 := by
  have h1 := h.u2 i hi; generalize s.ups[i]! = x at h1 ⊢; simp [upH, textB_len, bigB_len]; omega
theorem upB_len {s : SttD} (h : WrOk s) : ∀ k, (catF upB s.ups k).length ≤ 800 := fun k => by
  have := catF_len (f := upB) (l := s.ups) (c := 200) (fun j hj => by
    have h1 := upH_len h hj; have h2 := partB_len h hj s.ups[j]!.parts.length
    unfold upB; rw [List.length_append]; omega) k
  have := h.lu; omega
theorem askB_len {s : SttD} (h : WrOk s) : ∀ k, (catF askB s.queue k).length ≤ 100 := fun k => by
  have := catF_len (f := askB) (l := s.queue) (c := 10) (fun j hj => by simp [askB, bigB_len]) k
  have := h.lq; omega
theorem ruleB_len (a : ByteArray) (x y : Int) : (ruleB a x y).length = 9 + a.size := by simp [ruleB, textB_len, bigB_len]; omega
theorem askB_le (a : AskD) : (askB a).length = 6 := by simp [askB, bigB_len]
theorem verB_le {s : SttD} (h : WrOk s) {k : Nat} (hk : k < s.vers.length) : (verB s.vers[k]!).length ≤ 100 := by
  have h1 := h.v2 k hk; generalize s.vers[k]! = x at h1 ⊢; simp [verB, bitB, textB_len, intsB_len, bigB_len]; omega
theorem partB_le {s : SttD} (h : WrOk s) {i j : Nat} (hi : i < s.ups.length) (hj : j < s.ups[i]!.parts.length) : (partB s.ups[i]!.parts[j]!).length ≤ 20 := by
  have h1 := h.p3 i j hi hj; generalize s.ups[i]!.parts[j]! = x at h1 ⊢; simp [partB, intsB_len, bigB_len]; omega
theorem sbB_len {s : SttD} (h : WrOk s) (k : Nat) : (sbB s k).length ≤ 1000 := by
  have := bkB_len h k; unfold sbB; simp [bigB_len]; omega
theorem sbV_len {s : SttD} (h : WrOk s) (k : Nat) : (sbV s k).length ≤ 6000 := by
  have h1 := verB_len h k; have h2 := sbB_len h s.bkts.length; unfold sbV sbBe; simp; omega
theorem sbU_len {s : SttD} (h : WrOk s) (k : Nat) : (sbU s k).length ≤ 8000 := by
  have h1 := upB_len h k; have h2 := sbV_len h s.vers.length; unfold sbU sbVe; simp; omega
theorem sbP_len' {s : SttD} (h : WrOk s) {i : Nat} (hi : i < s.ups.length) (k : Nat) : (sbP s i k).length ≤ 9000 := by
  have h1 := partB_len h hi k; have h2 := sbU_len h i; have h3 := upH_len h hi; unfold sbP; simp only [List.length_append]; omega
theorem sbQ_len {s : SttD} (h : WrOk s) (k : Nat) : (sbQ s k).length ≤ 9000 := by
  have h1 := askB_len h k; have h2 := sbU_len h s.ups.length; unfold sbQ sbUe; simp; omega
theorem stB_len {s : SttD} (h : WrOk s) : (stB s).length ≤ 10000 := by
  have h1 := sbQ_len h s.queue.length; have h2 := h.lg; unfold stB sbQe; simp [intsB_len]; omega
def stL (s : SttD) : List UInt8 := bif mayF s then stB s else []
def stE (s : SttD) : Int := bif mayF s then 0 else 9
def stV (s : SttD) : AV := .tup [.d (bytes (stL s)), I (stE s)]
theorem st_no {s : SttD} (h : mayF s = false) : AV.tup [.d (.ro []), I 9] = stV s := by unfold stV stL stE; rw [h]; rfl
theorem st_ok {s : SttD} (h : mayF s = true) : AV.tup [.d (.ro ((stB s).map by_)), I 0] = stV s := by unfold stV stL stE; rw [h]; rfl
end Go.Proofs.Ytijpmidnclbhpaa
