/-
  Regions that draw their order, where operations read, make memory, call, and at last write: one walk serves every order. What an operation makes is told by what stays true of it while memory grows; a call by a relation given ahead.
-/
import Derived.Test.YtkcfnhfbdcnhjaaLib
namespace Go.Proofs.Ytkcfnhfbdcnhjaa
open Go.RowKit
set_option linter.unusedVariables false

section
variable (P : Program) (md : Region.Mode) (ops : Array Oper) (E : Nat → Bool) (Φ : Nat → World → Value → World → Prop) (Q : Exit → Act → World → Prop)

/-- operation j waits for operation i, along its edges -/
def leads : Nat → Nat → Nat → Bool
  | 0, _, _ => false
  | n + 1, j, i => match ops[j]? with
    | none => false
    | some o => o.after.any fun e => Region.binds md e && (e.on == i || leads n e.on i)

/-- what has come up holds all that it waits for -/
def Shut (listed : Array Bool) : Prop := ∀ j o, listed.getD j false = true → ops[j]? = some o → ∀ e ∈ o.after, Region.binds md e = true → listed.getD e.on false = true

variable {md ops} in
theorem leads_listed {listed : Array Bool} (hs : Shut md ops listed) : ∀ (n j i : Nat), leads md ops n j i = true → (∀ o, ops[j]? = some o → ∀ e ∈ o.after, Region.binds md e = true → listed.getD e.on false = true) → listed.getD i false = true
  | 0, _, _, h, _ => by simp [leads] at h
  | n + 1, j, i, h, hj => by
    unfold leads at h
    cases ho : ops[j]? with
    | none => simp [ho] at h
    | some o =>
      simp only [ho] at h
      obtain ⟨e, he, hb⟩ := Array.any_eq_true'.1 h
      simp only [Bool.and_eq_true, Bool.or_eq_true, beq_iff_eq] at hb
      obtain ⟨hb1, hb2⟩ := hb
      have hl := hj o ho e he hb1
      rcases hb2 with hb2 | hb2
      · rw [← hb2]; exact hl
      · exact leads_listed hs n e.on i hb2 (fun o' ho' e' he' hb' => hs e.on o' hl ho' e' he' hb')

/-- one operation that makes memory, reads, or calls; what was there stays -/
def runG (o : Oper) (φ : World → Value → World → Prop) (a : Act) (u : World) (K : Act → World → Prop) : Prop :=
  match (execOp a.eval o).run P u with
  | .ok (.value v) w' => Grow u w' ∧ K (a.put o.dst v) w'
  | .ok .skip w' => Grow u w' ∧ K (a.put o.dst undef) w'
  | .ok (.enter f args) w' => Calls P f args w' (fun e w'' => ∃ v, e = .returned v ∧ Grow u w'' ∧ φ u v w'') ∧ ∀ v w'', Grow u w'' → φ u v w'' → K (a.put o.dst v) w''
  | _ => False

def opG (j : Nat) (K : Act → World → Prop) (a : Act) (u : World) : Prop :=
  match ops[j]? with
  | none => K a u
  | some o => if Region.wanted o (yielded ops a.tmps) then runG P o (Φ j) a u K else K (a.put o.dst undef) u

def upd (Ds : Nat → World → Prop) (i : Nat) (D : World → Prop) : Nat → World → Prop := fun k => if k = i then D else Ds k

/-- whatever order is picked from here on, in whatever world that has grown out of this one -/
def G : Nat → Array Bool → (Nat → World → Prop) → Act → World → Prop
  | 0, listed, Ds, a, w => ∀ u, Grow w u → Region.ready md ops listed = [] ∧ ((∀ i, Ds i u) → Q .normal a u)
  | n + 1, listed, Ds, a, w => ∀ u, Grow w u → (Region.ready md ops listed = [] → (∀ i, Ds i u) → Q .normal a u) ∧
    ∀ j ∈ Region.ready md ops listed, (∀ i, leads md ops ops.size j i = true → Ds i u) →
      if E j then (∀ i, Ds i u) → wpOp P ops Q j (wpAny P md ops Q n (listed.setIfInBounds j true)) a u
      else opG P ops Φ j (fun a' w' => G n (listed.setIfInBounds j true) (upd Ds j (Grow w')) a' w') a u
end

section
variable {P : Program} {md : Region.Mode} {ops : Array Oper} {E : Nat → Bool} {Φ : Nat → World → Value → World → Prop} {Q : Exit → Act → World → Prop}

theorem runG_mono {o : Oper} {φ : World → Value → World → Prop} {a : Act} {u : World} {K K' : Act → World → Prop} (h : ∀ a w, Grow u w → K a w → K' a w) (hh : runG P o φ a u K) : runG P o φ a u K' := by
  unfold runG at *
  generalize (execOp a.eval o).run P u = r at *
  cases r with
  | ok n w' =>
    cases n <;> simp only at hh ⊢
    case value v => exact ⟨hh.1, h _ _ hh.1 hh.2⟩
    case skip => exact ⟨hh.1, h _ _ hh.1 hh.2⟩
    case enter f args => exact ⟨hh.1, fun v w'' hg hφ => h _ _ hg (hh.2 v w'' hg hφ)⟩
  | halt x w' => simp only at hh

theorem opG_mono {j : Nat} {a : Act} {u : World} {K K' : Act → World → Prop} (h : ∀ a w, Grow u w → K a w → K' a w) (hh : opG P ops Φ j K a u) : opG P ops Φ j K' a u := by
  unfold opG at *
  split
  · exact h _ _ (Grow.refl u) (by simpa [*] using hh)
  · rename_i o ho
    simp only [ho] at hh
    split
    · rename_i hw; simp only [hw, if_true] at hh; exact runG_mono h hh
    · rename_i hw; simp only [hw] at hh; exact h _ _ (Grow.refl u) hh

theorem G_up {n : Nat} {listed : Array Bool} {Ds : Nat → World → Prop} {a : Act} {w u : World} (h : G P md ops E Φ Q n listed Ds a w) (hg : Grow w u) : G P md ops E Φ Q n listed Ds a u := by
  cases n with
  | zero => exact fun x hx => h x (hg.trans hx)
  | succ n => exact fun x hx => h x (hg.trans hx)

theorem G_tokens : ∀ {n : Nat} {Ds Ds' : Nat → World → Prop} {listed : Array Bool} {a : Act} {w : World}, (∀ i u, Ds' i u → Ds i u) → G P md ops E Φ Q n listed Ds a w → G P md ops E Φ Q n listed Ds' a w
  | 0, _, _, _, _, _, hd, h => fun u hu => ⟨(h u hu).1, fun ht => (h u hu).2 fun i => hd i u (ht i)⟩
  | n + 1, Ds, Ds', listed, a, w, hd, h => fun u hu => by
    refine ⟨fun h0 ht => (h u hu).1 h0 fun i => hd i u (ht i), fun j hj ht => ?_⟩
    have := (h u hu).2 j hj (fun i hi => hd i u (ht i hi))
    split
    · rename_i hE; rw [if_pos hE] at this; exact fun ht => this fun i => hd i u (ht i)
    · rename_i hE
      rw [if_neg hE] at this
      refine opG_mono (fun a' w' _ hk => G_tokens (fun i x hx => ?_) hk) this
      unfold upd at *
      split
      · rename_i e; simpa [e] using hx
      · rename_i e; exact hd i x (by simpa [e] using hx)

/-- From here to the kit's own word. -/
theorem G_sound : ∀ {n : Nat} {listed : Array Bool} {Ds : Nat → World → Prop} {a : Act} {w : World}, (∀ i u u', Ds i u → Grow u u' → Ds i u') → (∀ i, Ds i w) → G P md ops E Φ Q n listed Ds a w → wpAny P md ops Q n listed a w
  | 0, _, _, _, w, _, ht, h => ⟨(h w (Grow.refl w)).1, (h w (Grow.refl w)).2 ht⟩
  | n + 1, listed, Ds, a, w, hst, ht, h => by
    refine ⟨fun h0 => (h w (Grow.refl w)).1 h0 ht, fun j hj => ?_⟩
    have := (h w (Grow.refl w)).2 j hj (fun i _ => ht i)
    split at this
    · exact this ht
    · unfold opG at this
      unfold wpOp
      have next : ∀ a' w', Grow w w' → G P md ops E Φ Q n (listed.setIfInBounds j true) (upd Ds j (Grow w')) a' w' → wpAny P md ops Q n (listed.setIfInBounds j true) a' w' := fun a' w' hg hk => by
        refine G_sound (fun i u u' hu hg' => ?_) (fun i => ?_) hk
        · unfold upd at *
          split
          · rename_i e; simp only [e, if_true] at hu; exact hu.trans hg'
          · rename_i e; simp only [e, if_false] at hu; exact hst i u u' hu hg'
        · unfold upd
          split
          · exact Grow.refl w'
          · exact hst i w w' (ht i) hg
      split
      · rename_i ho; simp only [ho] at this; exact next _ _ (Grow.refl w) this
      · rename_i o ho
        simp only [ho] at this
        split
        · rename_i hw
          simp only [hw, if_true] at this
          refine .inl ?_
          unfold runG at this
          unfold Oper.wp
          generalize (execOp a.eval o).run P w = r at *
          cases r with
          | ok x w' =>
            cases x <;> simp only [Oper.upon] at this ⊢
            case value v => exact next _ _ this.1 this.2
            case skip => exact next _ _ this.1 this.2
            case enter f args =>
              refine this.1.mono fun e w'' ⟨v, he, hg, hφ⟩ => ?_
              subst he
              exact next _ _ hg (this.2 v w'' hg hφ)
          | halt x w' => simp only at this
        · rename_i hw; simp only [hw] at this; exact next _ _ (Grow.refl w) this

/-- in every world that has grown out of w operation o leaves v, and the world as it was -/
def exactAt (P : Program) (ops : Array Oper) (o : Oper) (a : Act) (w : World) (v : Value) : Prop :=
  (Region.wanted o (yielded ops a.tmps) = true ∧ ∀ u, Grow w u → (execOp a.eval o).run P u = .ok (.value v) u ∨ ((execOp a.eval o).run P u = .ok .skip u ∧ v = undef)) ∨
  (Region.wanted o (yielded ops a.tmps) = false ∧ v = undef)

theorem exactAt_up {o : Oper} {a : Act} {w u : World} {v : Value} (h : exactAt P ops o a w v) (hg : Grow w u) : exactAt P ops o a u v :=
  h.imp (fun h => ⟨h.1, fun x hx => h.2 x (hg.trans hx)⟩) id

theorem exactAt_put {oi oj : Oper} {a : Act} {w : World} {v : Value} (x : Value) (hsi : ∀ cs b, oi.op ≠ .select cs b) (h3 : ∀ d, oj.dst = some d → d ∉ oi.looksAt ops) (h : exactAt P ops oi a w v) : exactAt P ops oi (a.put oj.dst x) w v := by
  unfold exactAt at *
  rw [execOp_put oi hsi a oj.dst x h3, wanted_put oi a oj.dst x h3]
  exact h

/-- one operation, its own slot apart from another one's value -/
theorem opG_put {j : Nat} {oi oj : Oper} {v : Value} (hj : ops[j]? = some oj) (hap : oi.apart ops oj = true)
    (hsj : ∀ cs b, oj.op ≠ .select cs b) {K : Act → World → Prop} {a : Act} {w : World}
    (h : opG P ops Φ j K (a.put oi.dst v) w) : opG P ops Φ j (fun a' w' => ∃ x, a' = a.put oj.dst x ∧ K (a'.put oi.dst v) w') a w := by
  obtain ⟨h1, h2, h3⟩ := Oper.apart_spec hap
  unfold opG at *
  simp only [hj] at *
  rw [wanted_put oj a oi.dst v h1] at h
  split
  · rename_i hw
    simp only [hw, if_true] at h
    unfold runG at *
    rw [execOp_put oj hsj a oi.dst v h1] at h
    generalize (execOp a.eval oj).run P w = r at *
    cases r with
    | ok n w' =>
      cases n <;> simp only at h ⊢
      case value u => exact ⟨h.1, u, rfl, by rw [← Act.put_comm a v u h2]; exact h.2⟩
      case skip => exact ⟨h.1, undef, rfl, by rw [← Act.put_comm a v undef h2]; exact h.2⟩
      case enter f args => exact ⟨h.1, fun u w'' hg hφ => ⟨u, rfl, by rw [← Act.put_comm a v u h2]; exact h.2 u w'' hg hφ⟩⟩
    | halt x w' => simp only at h
  · rename_i hw
    simp only [hw] at h
    exact ⟨undef, rfl, by rw [← Act.put_comm a v undef h2]; exact h⟩

theorem ready_not_after {i : Nat} {listed : Array Bool} {oj : Oper} (hr : i ∈ Region.ready md ops listed) (hall : ∀ e ∈ oj.after, Region.binds md e = true → listed.getD e.on false = true) : ∀ e ∈ oj.after, Region.binds md e = true → e.on ≠ i := fun e he hb heq => by
  have h1 := hall e he hb
  have h0 := (mem_ready.1 hr).1
  rw [heq] at h1
  rcases Nat.lt_or_ge i listed.size with h' | h'
  · simp [h'] at h0 h1; rw [h0] at h1; cases h1
  · simp [Array.getElem?_eq_none h'] at h1

theorem unlisted {i : Nat} {listed : Array Bool} (hr : i ∈ Region.ready md ops listed) : listed.getD i false = false := by
  have h0 := (mem_ready.1 hr).1
  rcases Nat.lt_or_ge i listed.size with h' | h'
  · simpa [h'] using h0
  · simp [Array.getElem?_eq_none h']

theorem Shut_set {listed : Array Bool} {j : Nat} (hs : Shut md ops listed) (hj : j ∈ Region.ready md ops listed) : Shut md ops (listed.setIfInBounds j true) := by
  intro k o hk ho e he hb
  by_cases hkj : j = k
  · subst hkj
    obtain ⟨_, o', ho', hall⟩ := mem_ready.1 hj
    rw [ho] at ho'; cases ho'
    exact getD_set_true (hall e he hb)
  · rw [getD_set_ne false hkj] at hk
    exact getD_set_true (hs k o hk ho e he hb)

/-- what stays said of operation i while others come up -/
def Free (md : Region.Mode) (ops : Array Oper) (listed : Array Bool) (i : Nat) (oi : Oper) : Prop :=
  ∀ j oj, ops[j]? = some oj → j ≠ i → listed.getD j true = false → (∀ e ∈ oj.after, Region.binds md e = true → e.on ≠ i) → oi.apart ops oj = true

theorem Free_set {listed : Array Bool} {i j : Nat} {oi : Oper} (h : Free md ops listed i oi) : Free md ops (listed.setIfInBounds j true) i oi := fun k ok hk hki hun hno => by
  refine h k ok hk hki ?_ hno
  by_cases hjk : j = k
  · subst hjk
    rcases Nat.lt_or_ge j listed.size with h' | h'
    · simp [h'] at hun
    · simp [Array.getElem?_eq_none (show (listed.setIfInBounds j true).size ≤ j by simpa using h')] at hun
  · rw [getD_set_ne true hjk] at hun; exact hun

/-- every operation of E that has not come up waits for i -/
def Waits (md : Region.Mode) (ops : Array Oper) (E : Nat → Bool) (listed : Array Bool) (i : Nat) : Prop := ∀ j, E j = true → j < ops.size → listed.getD j true = false → leads md ops ops.size j i = true

theorem Waits_set {listed : Array Bool} {i j : Nat} (h : Waits md ops E listed i) : Waits md ops E (listed.setIfInBounds j true) i := fun k hE hk hun => by
  refine h k hE hk ?_
  by_cases hjk : j = k
  · subst hjk
    rcases Nat.lt_or_ge j listed.size with h' | h'
    · simp [h'] at hun
    · simp [Array.getElem?_eq_none (show (listed.setIfInBounds j true).size ≤ j by simpa using h')] at hun
  · rw [getD_set_ne true hjk] at hun; exact hun

theorem upd_weak {Ds : Nat → World → Prop} {D : World → Prop} {i : Nat} (hD : ∀ u, Ds i u) : ∀ k x, upd Ds i D k x → Ds k x := fun k x hx => by
  unfold upd at hx
  split at hx
  · rename_i e; subst e; exact hD x
  · exact hx

theorem opG_all {ι : Type} [Nonempty ι] {j : Nat} {oi oj : Oper} (val : ι → Value) (hj : ops[j]? = some oj) (hap : oi.apart ops oj = true)
    (hsj : ∀ cs b, oj.op ≠ .select cs b) {K : ι → Act → World → Prop} {a : Act} {w : World}
    (h : ∀ x, opG P ops Φ j (K x) (a.put oi.dst (val x)) w) : opG P ops Φ j (fun a' w' => ∃ y, a' = a.put oj.dst y ∧ ∀ x, K x (a'.put oi.dst (val x)) w') a w := by
  have x0 : ι := Classical.choice inferInstance
  have h' := fun x => opG_put hj hap hsj (h x)
  unfold opG at *
  simp only [hj] at *
  split
  · rename_i hw
    simp only [hw, if_true] at h'
    unfold runG at *
    generalize (execOp a.eval oj).run P w = r at *
    obtain ⟨_, h2, _⟩ := Oper.apart_spec hap
    cases r with
    | ok n w' =>
      cases n <;> (try (exact h' x0)) <;> simp only at h' ⊢
      case value u =>
        refine ⟨(h' x0).1, u, rfl, fun x => ?_⟩
        obtain ⟨y, hy, hk⟩ := (h' x).2
        exact hk
      case skip =>
        refine ⟨(h' x0).1, undef, rfl, fun x => ?_⟩
        obtain ⟨y, hy, hk⟩ := (h' x).2
        exact hk
      case enter f args =>
        refine ⟨(h' x0).1, fun u w'' hg hφ => ⟨u, rfl, fun x => ?_⟩⟩
        obtain ⟨y, hy, hk⟩ := (h' x).2 u w'' hg hφ
        exact hk
    | halt x w' => exact h' x0
  · rename_i hw
    simp only [hw] at h'
    refine ⟨undef, rfl, fun x => ?_⟩
    obtain ⟨y, hy, hk⟩ := h' x
    exact hk

/-- what an operation yields, and in what world -/
def valG (P : Program) (ops : Array Oper) (φ : World → Value → World → Prop) (o : Oper) (a : Act) (u : World) (S : Value → World → Prop) : Prop :=
  if Region.wanted o (yielded ops a.tmps) then
    match (execOp a.eval o).run P u with
    | .ok (.value v) w' => Grow u w' ∧ S v w'
    | .ok .skip w' => Grow u w' ∧ S undef w'
    | .ok (.enter f args) w' => Calls P f args w' (fun e w'' => ∃ v, e = .returned v ∧ Grow u w'' ∧ φ u v w'') ∧ ∀ v w'', Grow u w'' → φ u v w'' → S v w''
    | _ => False
  else S undef u

theorem valG_want {φ : World → Value → World → Prop} {o : Oper} {a : Act} {u : World} {S : Value → World → Prop} (hw : Region.wanted o (yielded ops a.tmps) = true)
    (h : match (execOp a.eval o).run P u with
      | .ok (.value v) w' => Grow u w' ∧ S v w'
      | .ok .skip w' => Grow u w' ∧ S undef w'
      | .ok (.enter f args) w' => Calls P f args w' (fun e w'' => ∃ v, e = .returned v ∧ Grow u w'' ∧ φ u v w'') ∧ ∀ v w'', Grow u w'' → φ u v w'' → S v w''
      | _ => False) : valG P ops φ o a u S := by
  unfold valG; rw [if_pos hw]; exact h

theorem opG_of_val {i : Nat} {oi : Oper} (hi : ops[i]? = some oi) {a : Act} {u : World} {S : Value → World → Prop} {K : Act → World → Prop} (h : valG P ops (Φ i) oi a u S) (hk : ∀ v w', Grow u w' → S v w' → K (a.put oi.dst v) w') : opG P ops Φ i K a u := by
  unfold opG
  simp only [hi]
  unfold valG at h
  split
  · rename_i hw
    rw [if_pos hw] at h
    unfold runG
    generalize (execOp a.eval oi).run P u = r at *
    cases r with
    | ok n w' =>
      cases n <;> (try (exact h)) <;> simp only at h ⊢
      case value v => exact ⟨h.1, hk _ _ h.1 h.2⟩
      case skip => exact ⟨h.1, hk _ _ h.1 h.2⟩
      case enter f args => exact ⟨h.1, fun v w'' hg hφ => hk _ _ hg (h.2 v w'' hg hφ)⟩
    | halt x w' => exact h
  · rename_i hw
    rw [if_neg hw] at h
    exact hk _ _ (Grow.refl u) h

theorem valG_put {oi : Oper} {φ : World → Value → World → Prop} {d : Option Tmp} {x : Value} (hsi : ∀ cs b, oi.op ≠ .select cs b) (h3 : ∀ d', d = some d' → d' ∉ oi.looksAt ops) {a : Act} {u : World} {S : Value → World → Prop}
    (h : valG P ops φ oi a u S) : valG P ops φ oi (a.put d x) u S := by
  unfold valG at *
  rw [wanted_put oi a d x h3, execOp_put oi hsi a d x h3]
  exact h

/-- **An operation may be taken first**: for each x of some kind it may yield val x, behind which tok x holds. -/
theorem G_take {ι : Type} [Nonempty ι] (val : ι → Value) (tok : ι → World → Prop) {i : Nat} {oi : Oper} (hi : ops[i]? = some oi) (hsel : ∀ (j : Nat) (o : Oper) cs b, ops[j]? = some o → o.op ≠ .select cs b) :
    ∀ (n : Nat) (listed : Array Bool) (Ds : Nat → World → Prop) (a : Act) (w : World), Shut md ops listed → Free md ops listed i oi → Waits md ops E listed i →
      i ∈ Region.ready md ops listed → E i = false →
      (∀ u, Grow w u → (∀ k, leads md ops ops.size i k = true → Ds k u) → valG P ops (Φ i) oi a u (fun v w' => ∃ x, v = val x ∧ ∀ y, Grow w' y → tok x y)) →
      (∀ x, G P md ops E Φ Q n (listed.setIfInBounds i true) (upd Ds i (tok x)) (a.put oi.dst (val x)) w) → G P md ops E Φ Q (n + 1) listed Ds a w := by
  intro n
  induction n with
  | zero =>
    intro listed Ds a w hs hf hw hr hEi hrun H u hu
    refine ⟨fun h => (by rw [h] at hr; cases hr), fun j hj ht => ?_⟩
    by_cases hji : j = i
    · subst hji
      rw [if_neg (by rw [hEi]; exact Bool.false_ne_true)]
      refine opG_of_val hi (hrun u hu ht) fun v w' hg hx => ?_
      obtain ⟨x, rfl, hx⟩ := hx
      refine G_tokens (fun k y hy => ?_) (G_up (H x) (hu.trans hg))
      unfold upd at *
      split
      · rename_i e; rw [if_pos e] at hy; exact hx y hy
      · rename_i e; rw [if_neg e] at hy; exact hy
    · have := ready_mono hj hji
      have x0 : ι := Classical.choice inferInstance
      rw [(H x0 u hu).1] at this
      cases this
  | succ n ih =>
    intro listed Ds a w hs hf hw hr hEi hrun H u hu
    refine ⟨fun h => (by rw [h] at hr; cases hr), fun j hj ht => ?_⟩
    by_cases hji : j = i
    · subst hji
      rw [if_neg (by rw [hEi]; exact Bool.false_ne_true)]
      refine opG_of_val hi (hrun u hu ht) fun v w' hg hx => ?_
      obtain ⟨x, rfl, hx⟩ := hx
      refine G_tokens (fun k y hy => ?_) (G_up (H x) (hu.trans hg))
      unfold upd at *
      split
      · rename_i e; rw [if_pos e] at hy; exact hx y hy
      · rename_i e; rw [if_neg e] at hy; exact hy
    · obtain ⟨hjun, oj, hoj, hall⟩ := mem_ready.1 hj
      obtain ⟨hiun, oi', hoi, halli⟩ := mem_ready.1 hr
      have hjs : j < ops.size := (Array.getElem?_eq_some_iff.1 hoj).1
      have noti : leads md ops ops.size j i = false := by
        cases hl : leads md ops ops.size j i with
        | false => rfl
        | true =>
          have := leads_listed hs _ _ _ hl (fun o ho e he hb => by rw [hoj] at ho; cases ho; exact hall e he hb)
          rw [unlisted hr] at this; cases this
      have notj : leads md ops ops.size i j = false := by
        cases hl : leads md ops ops.size i j with
        | false => rfl
        | true =>
          have := leads_listed hs _ _ _ hl (fun o ho e he hb => by rw [hoi] at ho; cases ho; exact halli e he hb)
          rw [unlisted hj] at this; cases this
      have hnE : E j = false := by
        cases hE : E j with
        | false => rfl
        | true => rw [hw j hE hjs hjun] at noti; cases noti
      rw [if_neg (by rw [hnE]; exact Bool.false_ne_true)]
      have hap := hf j oj hoj hji hjun (ready_not_after hr hall)
      have h1 : ∀ x, opG P ops Φ j (fun a' w' => G P md ops E Φ Q n ((listed.setIfInBounds i true).setIfInBounds j true) (upd (upd Ds i (tok x)) j (Grow w')) a' w') (a.put oi.dst (val x)) u := fun x => by
        have := (H x u hu).2 j (ready_mono hj hji) (fun k hk => by
          unfold upd
          split
          · rename_i e; subst e; rw [noti] at hk; cases hk
          · exact ht k hk)
        rwa [if_neg (by rw [hnE]; exact Bool.false_ne_true)] at this
      refine opG_mono (fun a' w' hg h3 => ?_) (opG_all val hoj hap (fun cs b => hsel j oj cs b hoj) h1)
      obtain ⟨y, rfl, h3⟩ := h3
      refine ih (listed.setIfInBounds j true) _ _ w' (Shut_set hs hj) (Free_set hf) (Waits_set hw) (ready_mono hr (Ne.symm hji)) hEi ?_ ?_
      · intro x hx ht'
        refine valG_put (fun cs b => hsel i oi cs b hi) (Oper.apart_spec hap).2.2 (hrun x (hu.trans (hg.trans hx)) fun k hk => ?_)
        have := ht' k hk
        unfold upd at this
        split at this
        · rename_i e; subst e; rw [notj] at hk; cases hk
        · exact this
      · intro x
        rw [Array.setIfInBounds_comm _ _ hji]
        refine G_tokens (fun k z hz => ?_) (h3 x)
        unfold upd at *
        by_cases e1 : k = i
        · have e2 : k ≠ j := by rw [e1]; exact Ne.symm hji
          simp only [e1, if_true, Ne.symm hji, if_false] at hz ⊢
          exact hz
        · by_cases e2 : k = j
          · simp only [e2, if_true, hji, if_false] at hz ⊢; exact hz
          · simp only [e1, e2, if_false] at hz ⊢; exact hz

/-- **An operation whose value is the same in every world to come may be taken first.** -/
theorem G_exact {i : Nat} {oi : Oper} {v : Value} (hi : ops[i]? = some oi) (hsel : ∀ (j : Nat) (o : Oper) cs b, ops[j]? = some o → o.op ≠ .select cs b)
    (n : Nat) (listed : Array Bool) (Ds : Nat → World → Prop) (a : Act) (w : World) (hs : Shut md ops listed) (hf : Free md ops listed i oi) (hw : Waits md ops E listed i)
    (hr : i ∈ Region.ready md ops listed) (hy : exactAt P ops oi a w v) (hD : ∀ u, Ds i u) (hE : E i = false)
    (h : G P md ops E Φ Q n (listed.setIfInBounds i true) Ds (a.put oi.dst v) w) : G P md ops E Φ Q (n + 1) listed Ds a w := by
  refine G_take (ι := Unit) (fun _ => v) (fun _ _ => True) hi hsel n listed Ds a w hs hf hw hr hE (fun u hu _ => ?_) (fun _ => ?_)
  · unfold valG
    rcases hy with ⟨hw1, hy⟩ | ⟨hw1, rfl⟩
    · rw [if_pos hw1]
      rcases hy u hu with he | ⟨he, rfl⟩
      · rw [he]; exact ⟨Grow.refl u, (), rfl, fun _ _ => trivial⟩
      · rw [he]; exact ⟨Grow.refl u, (), rfl, fun _ _ => trivial⟩
    · rw [if_neg (by rw [hw1]; exact Bool.false_ne_true)]; exact ⟨(), rfl, fun _ _ => trivial⟩
  · refine G_tokens (fun k u hk => ?_) h
    unfold upd at hk
    split at hk
    · rename_i e; subst e; exact hD u
    · exact hk

/-! ### In the order of the text -/

/-- operations whose value hangs on no world -/
def plainKind (o : Oper) : Bool := match o.op with | .move _ | .assign _ | .fieldAddr .. | .extract .. => true | _ => false
/-- operations that never enter a function -/
def quietKind (o : Oper) : Bool := match o.op with
  | .move _ | .assign _ | .pick .. | .load .. | .fieldAddr .. | .field .. | .indexAddr .. | .index .. | .binOp .. | .unOp .. | .convert .. | .slice .. | .extract .. | .build .. | .makeInterface .. | .makeFunc .. | .lookup .. => true
  | .call { callee := .builtin b, .. } => match b with | .len | .cap | .min | .max => true | _ => false
  | _ => false

theorem run_value {s : Sem Value} {u w' : World} {n : Next} (h : (do pure (Next.value (← s)) : Sem Next).run P u = .ok n w') : ∃ v, n = .value v := by
  simp only [Sem.run_bind] at h
  generalize s.run P u = r at h
  cases r with
  | ok v w => exact ⟨v, by simp [Result.andThen, Sem.run_pure] at h; exact h.1.symm⟩
  | halt x w => simp [Result.andThen] at h

theorem quietKind_run {o : Oper} (hq : quietKind o = true) {ρ : Operand → Value} {u w' : World} {n : Next} (h : (execOp ρ o).run P u = .ok n w') : ∃ v, n = .value v := by
  obtain ⟨dst, op, ty, pos, after, guard⟩ := o
  cases op <;> simp only [quietKind, Bool.false_eq_true] at hq <;> simp only [execOp] at h
  case call c =>
    obtain ⟨callee, args, ats⟩ := c
    cases callee <;> simp only [Bool.false_eq_true] at hq
    rename_i b
    simp only [resolve, pure_bind, invoke] at h
    cases b <;> simp only [Bool.false_eq_true] at hq <;> exact run_value h
  case move x => exact ⟨_, by simp [Sem.run_pure] at h; exact h.1.symm⟩
  case assign x => exact ⟨_, by simp [Sem.run_pure] at h; exact h.1.symm⟩
  case pick c a b =>
    simp only [Sem.run_bind] at h
    generalize (asBool (ρ c)).run P u = r at h
    cases r with
    | ok v w => exact ⟨_, by simp [Result.andThen, Sem.run_pure] at h; exact h.1.symm⟩
    | halt x w => simp [Result.andThen] at h
  all_goals exact run_value h


/-- **A plain operation, whose value hangs on no world, may be taken first, whatever else is still to come.** -/
theorem G_pure {i : Nat} {oi : Oper} {v : Value} (hi : ops[i]? = some oi) (hsel : ∀ (j : Nat) (o : Oper) cs b, ops[j]? = some o → o.op ≠ .select cs b) (hQ : ∀ c a w, Q (.panic c) (a.put oi.dst v) w → Q (.panic c) a w) :
    ∀ (n : Nat) (listed : Array Bool) (Ds : Nat → World → Prop) (a : Act) (w : World), Shut md ops listed → Free md ops listed i oi →
      i ∈ Region.ready md ops listed → Yields P ops oi v a → (∀ u, Ds i u) → E i = false →
      G P md ops E Φ Q n (listed.setIfInBounds i true) Ds (a.put oi.dst v) w → G P md ops E Φ Q (n + 1) listed Ds a w := by
  have self : ∀ (n : Nat) (listed : Array Bool) (Ds : Nat → World → Prop) (a : Act) (w u : World), Grow w u → Yields P ops oi v a → (∀ u, Ds i u) →
      G P md ops E Φ Q n (listed.setIfInBounds i true) Ds (a.put oi.dst v) w → opG P ops Φ i (fun a' w' => G P md ops E Φ Q n (listed.setIfInBounds i true) (upd Ds i (Grow w')) a' w') a u := by
    intro n listed Ds a w u hu hy hD H
    have hk : G P md ops E Φ Q n (listed.setIfInBounds i true) (upd Ds i (Grow u)) (a.put oi.dst v) u := G_tokens (upd_weak hD) (G_up H hu)
    unfold opG
    simp only [hi]
    rcases hy with ⟨hw1, hy⟩ | ⟨hw1, rfl⟩
    · rw [if_pos hw1]
      unfold runG
      rw [hy u]; exact ⟨Grow.refl u, hk⟩
    · rw [if_neg (by rw [hw1]; exact Bool.false_ne_true)]; exact hk
  intro n
  induction n with
  | zero =>
    intro listed Ds a w hs hf hr hy hD hEi H u hu
    refine ⟨fun h => (by rw [h] at hr; cases hr), fun j hj ht => ?_⟩
    by_cases hji : j = i
    · subst hji
      rw [if_neg (by rw [hEi]; exact Bool.false_ne_true)]
      exact self _ _ _ _ _ _ hu hy hD H
    · have := ready_mono hj hji
      rw [(H u hu).1] at this
      cases this
  | succ n ih =>
    intro listed Ds a w hs hf hr hy hD hEi H u hu
    refine ⟨fun h => (by rw [h] at hr; cases hr), fun j hj ht => ?_⟩
    by_cases hji : j = i
    · subst hji
      rw [if_neg (by rw [hEi]; exact Bool.false_ne_true)]
      exact self _ _ _ _ _ _ hu hy hD H
    · obtain ⟨hjun, oj, hoj, hall⟩ := mem_ready.1 hj
      have hap := hf j oj hoj hji hjun (ready_not_after hr hall)
      have h1 := (H u hu).2 j (ready_mono hj hji) ht
      have hyp : ∀ (x : Value), Yields P ops oi v (a.put oj.dst x) := fun x => hy.of_same (execOp_put oi (fun cs b => hsel i oi cs b hi) a oj.dst x (Oper.apart_spec hap).2.2) (wanted_put oi a oj.dst x (Oper.apart_spec hap).2.2)
      split
      · rename_i hE
        rw [if_pos hE] at h1
        intro ht2
        refine wpOp_mono (fun a' w' h3 => ?_) (wpOp_put hoj hap (fun cs b => hsel i oi cs b hi) (fun cs b => hsel j oj cs b hoj) hQ hy (h1 ht2))
        refine wpAny_first hi hsel hQ n (listed.setIfInBounds j true) a' w' (Free_set hf) (ready_mono hr (Ne.symm hji)) h3.1 ?_
        rw [Array.setIfInBounds_comm _ _ hji]
        exact h3.2
      · rename_i hE
        rw [if_neg hE] at h1
        refine opG_mono (fun a' w' hg h3 => ?_) (opG_put hoj hap (fun cs b => hsel j oj cs b hoj) h1)
        obtain ⟨x, rfl, h3⟩ := h3
        refine ih (listed.setIfInBounds j true) _ _ w' (Shut_set hs hj) (Free_set hf) (ready_mono hr (Ne.symm hji)) (hyp x) (fun y => by unfold upd; rw [if_neg (Ne.symm hji)]; exact hD y) hEi ?_
        rw [Array.setIfInBounds_comm _ _ hji]; exact h3

/-- what has come up -/
def lst (n : Nat) (done : List Nat) : Array Bool := done.foldl (fun l i => l.setIfInBounds i true) (Array.replicate n false)

theorem lst_snoc (n : Nat) (done : List Nat) (i : Nat) : lst n (done ++ [i]) = (lst n done).setIfInBounds i true := by simp [lst]

def shutB (md : Region.Mode) (ops : Array Oper) (listed : Array Bool) : Bool := (List.range listed.size).all fun j => !listed.getD j false || match ops[j]? with
  | some o => o.after.all fun e => !Region.binds md e || listed.getD e.on false
  | none => true

theorem shutB_spec {listed : Array Bool} (h : shutB md ops listed = true) : Shut md ops listed := by
  intro j o hj ho e he hb
  have hlt : j < listed.size := by
    rcases Nat.lt_or_ge j listed.size with h' | h'
    · exact h'
    · simp [Array.getElem?_eq_none h'] at hj
  have := List.all_eq_true.1 h j (List.mem_range.2 hlt)
  simp only [hj, ho, Bool.not_true, Bool.false_or, Array.all_eq_true_iff_forall_mem, Bool.or_eq_true, Bool.not_eq_true'] at this
  rcases this e he with h1 | h1
  · rw [hb] at h1; cases h1
  · exact h1

def waitsB (md : Region.Mode) (ops : Array Oper) (E : Nat → Bool) (listed : Array Bool) (i : Nat) : Bool := (List.range ops.size).all fun j => !E j || listed.getD j true || leads md ops ops.size j i

theorem waitsB_spec {listed : Array Bool} {i : Nat} (h : waitsB md ops E listed i = true) : Waits md ops E listed i := by
  intro j hE hj hun
  have := List.all_eq_true.1 h j (List.mem_range.2 hj)
  rw [hE, hun] at this
  simpa using this

/-- the conditions under which operation i may be taken next; plain: it may be left behind by what writes -/
def stepB (ops : Array Oper) (E : Nat → Bool) (done : List Nat) (i : Nat) (plain : Bool) : Bool :=
  Region.noSelect ops && shutB .any ops (lst ops.size done) && Region.free .any ops (lst ops.size done) i && (Region.ready .any ops (lst ops.size done)).contains i && !E i && (plain || waitsB .any ops E (lst ops.size done) i)

/-- where a region stands: what has been taken, what is to come, what is known of it -/
def Lex (P : Program) (ops : Array Oper) (E : Nat → Bool) (Φ : Nat → Value → World → Prop) (Q : Exit → Act → World → Prop) (done rest : List Nat) (Ds : Nat → World → Prop) (a : Act) (w : World) : Prop :=
  G P .any ops E (fun i _ => Φ i) Q rest.length (lst ops.size done) Ds a w

theorem lex_enter {id : Nat} {l : List Oper} {a : Act} {w : World} (σ : List Nat) (E : Nat → Bool) (Φ : Nat → Value → World → Prop) (hm : P.follows .mixedOrders = true) (hn : σ.length = l.length)
    (h : Lex P l.toArray E Φ Q [] σ (fun _ _ => True) a w) : (Code.region id l.toArray true).wp P Q a w := by
  refine wp_region_any hm ?_
  unfold Lex at h
  rw [hn] at h
  have : Grow w { w with drawn := w.drawn + 1 } := ⟨rfl, rfl, rfl, Nat.le_refl _, fun _ _ => rfl⟩
  exact G_sound (fun _ _ _ _ _ => trivial) (fun _ => trivial) (by simpa [lst] using G_up h this)

/-- the operation at a place -/
def look : List Oper → Nat → Option Oper
  | [], _ => none
  | o :: _, 0 => some o
  | _ :: l, n + 1 => look l n

theorem look_list (l : List Oper) : ∀ (i : Nat) (o : Oper), look l i = some o → l[i]? = some o := by
  induction l with
  | nil => intro i o h; simp [look] at h
  | cons x l ih =>
    intro i o h
    cases i with
    | zero => simpa [look] using h
    | succ n => simpa using ih n o h

theorem look_spec {l : List Oper} {i : Nat} {o : Oper} (h : look l i = some o) : l.toArray[i]? = some o := by
  simpa using look_list l i o h

section
variable {Φ : Nat → Value → World → Prop} {done rest : List Nat} {Ds : Nat → World → Prop} {a : Act} {w : World} {i : Nat} {oi : Oper}

theorem stepB_spec {plain : Bool} (h : stepB ops E done i plain = true) (hi : ops[i]? = some oi) :
    (∀ (j : Nat) (o : Oper) cs b, ops[j]? = some o → o.op ≠ .select cs b) ∧ Shut .any ops (lst ops.size done) ∧ Free .any ops (lst ops.size done) i oi ∧ i ∈ Region.ready .any ops (lst ops.size done) ∧ E i = false ∧ (plain = false → Waits .any ops E (lst ops.size done) i) := by
  simp only [stepB, Bool.and_eq_true, Bool.or_eq_true, Bool.not_eq_true'] at h
  obtain ⟨⟨⟨⟨⟨h1, h2⟩, h3⟩, h4⟩, h5⟩, h6⟩ := h
  exact ⟨Region.noSelect_spec h1, shutB_spec h2, Region.free_spec hi h3, by simpa using h4, h5, fun hp => waitsB_spec (h6.resolve_left (by rw [hp]; exact Bool.false_ne_true))⟩

theorem exactAt_of_quiet {C : World → Prop} {K : Act → Prop} (hk : quietKind oi = true) (hw : Region.wanted oi (yielded ops a.tmps) = true) (h : oi.quiet P a C K) : ∃ v, (∀ u, C u → (execOp a.eval oi).run P u = .ok (.value v) u) ∧ K (a.put oi.dst v) := by
  obtain ⟨v, h1, h2⟩ := h
  refine ⟨v, fun u hu => ?_, h2⟩
  have := h1 u hu
  unfold Oper.quietAt at this
  cases hr : (execOp a.eval oi).run P u with
  | ok n w' =>
    obtain ⟨x, rfl⟩ := quietKind_run hk hr
    rw [hr] at this
    simp only [Oper.quietUpon] at this
    rw [this.1, this.2]
  | halt x w' => rw [hr] at this; simp only [Oper.quietUpon] at this

/-- a reading or reckoning operation -/
theorem lexA_q (hi : ops[i]? = some oi) (hc : stepB ops E done i false = true) (hk : quietKind oi = true) (hw : Region.wanted oi (yielded ops a.tmps) = true) (hD : ∀ u, Ds i u)
    (h : oi.quiet P a (fun u => ∃ g : Grown' w, u = g.w) (fun a' => Lex P ops E Φ Q (done ++ [i]) rest Ds a' w)) : Lex P ops E Φ Q done (i :: rest) Ds a w := by
  obtain ⟨c1, c2, c3, c4, c5, c6⟩ := stepB_spec hc hi
  obtain ⟨v, hv, hL⟩ := exactAt_of_quiet hk hw h
  refine G_exact hi c1 rest.length (lst ops.size done) Ds a w c2 c3 (c6 rfl) c4 (.inl ⟨hw, fun u hu => .inl (hv u ⟨⟨u, hu⟩, rfl⟩)⟩) hD c5 ?_
  unfold Lex at hL
  rwa [lst_snoc] at hL

/-- one that is passed over -/
theorem lexA_s (hi : ops[i]? = some oi) (hc : stepB ops E done i false = true) (hw : Region.wanted oi (yielded ops a.tmps) = false) (hD : ∀ u, Ds i u)
    (h : Lex P ops E Φ Q (done ++ [i]) rest Ds (a.put oi.dst undef) w) : Lex P ops E Φ Q done (i :: rest) Ds a w := by
  obtain ⟨c1, c2, c3, c4, c5, c6⟩ := stepB_spec hc hi
  refine G_exact hi c1 rest.length (lst ops.size done) Ds a w c2 c3 (c6 rfl) c4 (.inr ⟨hw, rfl⟩) hD c5 ?_
  unfold Lex at h
  rwa [lst_snoc] at h

/-- one whose value hangs on no world -/
theorem lexA_p (hi : ops[i]? = some oi) (hc : stepB ops E done i true = true) (hk : quietKind oi = true) (hw : Region.wanted oi (yielded ops a.tmps) = true) (hD : ∀ u, Ds i u) (hQ : ∀ v c a w, Q (.panic c) (a.put oi.dst v) w → Q (.panic c) a w)
    (h : oi.quiet P a (fun _ => True) (fun a' => Lex P ops E Φ Q (done ++ [i]) rest Ds a' w)) : Lex P ops E Φ Q done (i :: rest) Ds a w := by
  obtain ⟨c1, c2, c3, c4, c5, c6⟩ := stepB_spec hc hi
  obtain ⟨v, hv, hL⟩ := exactAt_of_quiet hk hw h
  refine G_pure hi c1 (hQ v) rest.length (lst ops.size done) Ds a w c2 c3 c4 (.inl ⟨hw, fun u => hv u trivial⟩) hD c5 ?_
  unfold Lex at hL
  rwa [lst_snoc] at hL

/-- one that makes memory: S is what stays true of its value -/
theorem lexA_g (S : Value → World → Prop) (hS : ∀ v u u', S v u → Grow u u' → S v u') (hi : ops[i]? = some oi) (hc : stepB ops E done i false = true)
    (hrun : ∀ u, Grow w u → (∀ k, leads .any ops ops.size i k = true → Ds k u) → valG P ops (fun _ => Φ i) oi a u S)
    (h : ∀ v (D : World → Prop), (∀ u u', D u → Grow u u' → D u') → (∀ u, D u → S v u) → Lex P ops E Φ Q (done ++ [i]) rest (upd Ds i D) (a.put oi.dst v) w) : Lex P ops E Φ Q done (i :: rest) Ds a w := by
  obtain ⟨c1, c2, c3, c4, c5, c6⟩ := stepB_spec hc hi
  let ι := { p : Value × (World → Prop) // (∀ u u', p.2 u → Grow u u' → p.2 u') ∧ ∀ u, p.2 u → S p.1 u }
  have : Nonempty ι := ⟨⟨(undef, fun _ => False), fun _ _ h _ => h, fun _ h => h.elim⟩⟩
  refine G_take (ι := ι) (fun p => p.1.1) (fun p => p.1.2) hi c1 rest.length (lst ops.size done) Ds a w c2 c3 (c6 rfl) c4 c5 (fun u hu ht => ?_) (fun p => ?_)
  · have := hrun u hu ht
    unfold valG at *
    have conv : ∀ v w', S v w' → ∃ x : ι, v = x.1.1 ∧ ∀ y, Grow w' y → x.1.2 y := fun v w' hs => ⟨⟨(v, Grow w'), fun _ _ h k => h.trans k, fun y hy => hS v w' y hs hy⟩, rfl, fun y hy => hy⟩
    split
    · rename_i hw
      rw [if_pos hw] at this
      generalize (execOp a.eval oi).run P u = r at *
      cases r with
      | ok n w' =>
        cases n <;> (try (exact this)) <;> simp only at this ⊢
        case value v => exact ⟨this.1, conv _ _ this.2⟩
        case skip => exact ⟨this.1, conv _ _ this.2⟩
        case enter f args => exact ⟨this.1, fun v w'' hg hφ => conv _ _ (this.2 v w'' hg hφ)⟩
      | halt x w' => exact this
    · rename_i hw
      rw [if_neg hw] at this
      exact conv _ _ this
  · have := h p.1.1 p.1.2 p.2.1 p.2.2
    unfold Lex at this
    rwa [lst_snoc] at this

/-- a call whose value is known -/
theorem lexA_k (c : Value) (hi : ops[i]? = some oi) (hc : stepB ops E done i false = true)
    (hrun : ∀ u, Grow w u → (∀ k, leads .any ops ops.size i k = true → Ds k u) → valG P ops (fun _ => Φ i) oi a u (fun v _ => v = c)) (hD : ∀ u, Ds i u)
    (h : Lex P ops E Φ Q (done ++ [i]) rest Ds (a.put oi.dst c) w) : Lex P ops E Φ Q done (i :: rest) Ds a w := by
  obtain ⟨c1, c2, c3, c4, c5, c6⟩ := stepB_spec hc hi
  refine G_take (ι := Unit) (fun _ => c) (fun _ _ => True) hi c1 rest.length (lst ops.size done) Ds a w c2 c3 (c6 rfl) c4 c5 (fun u hu ht => ?_) (fun _ => ?_)
  · have := hrun u hu ht
    unfold valG at *
    split
    · rename_i hw
      rw [if_pos hw] at this
      generalize (execOp a.eval oi).run P u = r at *
      cases r with
      | ok n w' =>
        cases n <;> (try (exact this)) <;> simp only at this ⊢
        case value v => exact ⟨this.1, (), this.2, fun _ _ => trivial⟩
        case skip => exact ⟨this.1, (), this.2, fun _ _ => trivial⟩
        case enter f args => exact ⟨this.1, fun v w'' hg hφ => ⟨(), this.2 v w'' hg hφ, fun _ _ => trivial⟩⟩
      | halt x w' => exact this
    · rename_i hw
      rw [if_neg hw] at this
      exact ⟨(), this, fun _ _ => trivial⟩
  · unfold Lex at h
    rw [lst_snoc] at h
    refine G_tokens (fun k u hk => ?_) h
    unfold upd at hk
    split at hk
    · rename_i e; subst e; exact hD u
    · exact hk

/-- the operations at the end that write, one behind the other -/
def chainB (ops : Array Oper) (listed : Array Bool) : List Nat → Bool
  | [] => (Region.ready .any ops listed).isEmpty
  | i :: rest => Region.ready .any ops listed == [i] && chainB ops (listed.setIfInBounds i true) rest

/-- a list of operations by their places -/
inductive At (ops : Array Oper) : List Nat → List Oper → Prop
  | nil : At ops [] []
  | cons {i : Nat} {o : Oper} {is : List Nat} {os : List Oper} : ops[i]? = some o → At ops is os → At ops (i :: is) (o :: os)

theorem At.more {l : List Oper} {i : Nat} {o : Oper} {is : List Nat} {os : List Oper} (h : look l i = some o) (t : At l.toArray is os) : At l.toArray (i :: is) (o :: os) := .cons (look_spec h) t

theorem chain_any {is : List Nat} {os : List Oper} (hat : At ops is os) : ∀ {listed : Array Bool} {a : Act} {w : World}, chainB ops listed is = true → wpList P ops Q os a w → wpAny P .any ops Q is.length listed a w := by
  induction hat with
  | nil =>
    intro listed a w hc h
    exact wpAny_done (by simpa [chainB] using hc) h _
  | @cons i o is os hi hat ih =>
    intro listed a w hc h
    simp only [chainB, Bool.and_eq_true, beq_iff_eq] at hc
    refine wpAny_all hc.1 (by simp) fun j hj => ?_
    have hj : j = i := by simpa using hj
    subst hj
    unfold wpOp
    simp only [hi]
    unfold wpList at h
    split
    · rename_i hw; rw [if_pos hw] at h; exact h.imp (Oper.wp_mono fun a w hk => ih hc.2 hk) _root_.id
    · rename_i hw; rw [if_neg hw] at h; exact ih hc.2 h

/-- the end: what is left is done in its one order, with all that is known of what was made -/
theorem lex_tail {is : List Nat} {os : List Oper} (hat : At ops is os) (hc : chainB ops (lst ops.size done) is = true) (hE : is.all E = true)
    (h : ∀ u, Grow w u → (∀ i, Ds i u) → wpList P ops Q os a u) : Lex P ops E Φ Q done is Ds a w := by
  unfold Lex
  cases hat with
  | nil => exact fun u hu => ⟨by simpa [chainB] using hc, fun ht => h u hu ht⟩
  | @cons i o is os hi hat =>
    simp only [chainB, Bool.and_eq_true, beq_iff_eq] at hc
    simp only [List.all_cons, Bool.and_eq_true] at hE
    refine fun u hu => ⟨fun h0 => (by rw [hc.1] at h0; cases h0), fun j hj ht => ?_⟩
    have hj : j = i := by rw [hc.1] at hj; simpa using hj
    subst hj
    rw [if_pos hE.1]
    intro ht
    have := h u hu ht
    unfold wpOp
    simp only [hi]
    unfold wpList at this
    split
    · rename_i hw; rw [if_pos hw] at this; exact this.imp (Oper.wp_mono fun a w hk => chain_any hat hc.2 hk) _root_.id
    · rename_i hw; rw [if_neg hw] at this; exact chain_any hat hc.2 this
end
end

section
variable {P : Program} {E : Nat → Bool} {Φ : Nat → Value → World → Prop} {Q : Exit → Act → World → Prop} {l : List Oper} {done rest : List Nat} {Ds : Nat → World → Prop} {a : Act} {w : World} {i : Nat} {oi : Oper}
/-- a reading or reckoning operation -/
theorem lex_q (hi : look l i = some oi) (hc : stepB l.toArray E done i false = true) (hk : quietKind oi = true) (hw : Region.wanted oi (yielded l.toArray a.tmps) = true) (hD : ∀ u, Ds i u)
    (h : oi.quiet P a (fun u => ∃ g : Grown' w, u = g.w) (fun a' => Lex P l.toArray E Φ Q (done ++ [i]) rest Ds a' w)) : Lex P l.toArray E Φ Q done (i :: rest) Ds a w := lexA_q (look_spec hi) hc hk hw hD h
/-- one that is passed over -/
theorem lex_s (hi : look l i = some oi) (hc : stepB l.toArray E done i false = true) (hw : Region.wanted oi (yielded l.toArray a.tmps) = false) (hD : ∀ u, Ds i u)
    (h : Lex P l.toArray E Φ Q (done ++ [i]) rest Ds (a.put oi.dst undef) w) : Lex P l.toArray E Φ Q done (i :: rest) Ds a w := lexA_s (look_spec hi) hc hw hD h
/-- one whose value hangs on no world -/
theorem lex_p (hi : look l i = some oi) (hc : stepB l.toArray E done i true = true) (hk : quietKind oi = true) (hw : Region.wanted oi (yielded l.toArray a.tmps) = true) (hD : ∀ u, Ds i u) (hQ : ∀ v c a w, Q (.panic c) (a.put oi.dst v) w → Q (.panic c) a w)
    (h : oi.quiet P a (fun _ => True) (fun a' => Lex P l.toArray E Φ Q (done ++ [i]) rest Ds a' w)) : Lex P l.toArray E Φ Q done (i :: rest) Ds a w := lexA_p (look_spec hi) hc hk hw hD hQ h
/-- one that makes memory: S is what stays true of its value -/
theorem lex_g (S : Value → World → Prop) (hS : ∀ v u u', S v u → Grow u u' → S v u') (hi : look l i = some oi) (hc : stepB l.toArray E done i false = true)
    (hrun : ∀ u, Grow w u → (∀ k, leads .any l.toArray l.toArray.size i k = true → Ds k u) → valG P l.toArray (fun _ => Φ i) oi a u S)
    (h : ∀ v (D : World → Prop), (∀ u u', D u → Grow u u' → D u') → (∀ u, D u → S v u) → Lex P l.toArray E Φ Q (done ++ [i]) rest (upd Ds i D) (a.put oi.dst v) w) : Lex P l.toArray E Φ Q done (i :: rest) Ds a w := lexA_g S hS (look_spec hi) hc hrun h
/-- a call whose value is known -/
theorem lex_k (c : Value) (hi : look l i = some oi) (hc : stepB l.toArray E done i false = true)
    (hrun : ∀ u, Grow w u → (∀ k, leads .any l.toArray l.toArray.size i k = true → Ds k u) → valG P l.toArray (fun _ => Φ i) oi a u (fun v _ => v = c)) (hD : ∀ u, Ds i u)
    (h : Lex P l.toArray E Φ Q (done ++ [i]) rest Ds (a.put oi.dst c) w) : Lex P l.toArray E Φ Q done (i :: rest) Ds a w := lexA_k c (look_spec hi) hc hrun hD h
end
end Go.Proofs.Ytkcfnhfbdcnhjaa
