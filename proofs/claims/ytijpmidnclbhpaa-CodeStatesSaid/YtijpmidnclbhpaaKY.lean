/- One who writes bytes: numbers behind one another. -/
import Derived.Test.YtijpmidnclbhpaaKW
namespace Go.Proofs.Ytijpmidnclbhpaa
open Go.RowKit
set_option maxHeartbeats 4000000
set_option maxRecDepth 20000
attribute [local irreducible] SW SWL SWLn SWD SEcall SEcallv SDv SE SO1 SOg ACalls ACallv Wk EndV
set_option linter.unusedSimpArgs false
set_option linter.unusedVariables false
theorem aokB (n : Nat) (cs : List AV) : (AO.box cs).kill n = .box (cs.map (AV.kill n)) := rfl
theorem aokD (n : Nat) : AO.dead.kill n = .dead := rfl
theorem aokA (n k : Nat) (E : TypeId) (rows : List (List RV)) : (AO.arr k E rows).kill n = .arr k E rows := rfl
theorem arO_allN (bs : List UInt8) (q : Nat → Bool) : (arO bs).allN q = true := rfl
theorem wrO_allN (m : Nat) (bs : List UInt8) (q : Nat → Bool) : (wrO m bs).allN q = q m := by simp [wrO, AO.allN, AV.allN, AV.allNL]
theorem arO_kill (bs : List UInt8) (n : Nat) : (arO bs).kill n = arO bs := rfl
theorem wrO_kill (m : Nat) (bs : List UInt8) (n : Nat) (h : (m = n) = False) : (wrO m bs).kill n = wrO m bs := by
  simp [wrO, AO.kill, AV.kill, AV.mapN, h]
theorem sto_free {l : Loc} {m n : Nat} {r : Sto} (hr : ∀ x, (r x).kill m = r x) (hl : ∀ p ∈ l, p.1 = m ∨ p.1 = n ∨ p.2.kill m = p.2) : ∀ x, x ≠ m → x ≠ n → (sto l r x).kill m = sto l r x := by
  intro x h1 h2
  induction l with
  | nil => exact hr x
  | cons p l ih =>
    rw [sto_cons]
    split
    · rename_i e
      rcases hl p (by simp) with h | h | h
      · exact absurd (e.trans h) h1
      · exact absurd (e.trans h) h2
      · exact h
    · exact ih fun q hq => hl q (List.mem_cons_of_mem _ hq)
theorem wr_end3 {F σ : Sto} {m n : Nat} {bs : List UInt8} (h1 : F m = arO bs) (h2 : F n = wrO m bs) (h3 : ∀ x, x ≠ m → x ≠ n → F x = σ x) : F = sto (wrL m n bs) σ := by
  funext x
  by_cases e1 : x = m
  · subst e1; rw [h1]; simp [wrL, sto]
  · by_cases e2 : x = n
    · subst e2; rw [h2]; simp [wrL, sto, e1]
    · rw [h3 x e1 e2]; simp [wrL, sto, e1, e2]
theorem sto_swap {Q : Loc} {m n : Nat} {A C : AO} {pre : Loc} {r : Sto} (h : ∀ p ∈ Q, p.1 ≠ m ∧ p.1 ≠ n) : sto (Q ++ (m, A) :: (n, C) :: pre) r = sto ((m, A) :: (n, C) :: (Q ++ pre)) r := by
  funext x
  induction Q with
  | nil => rfl
  | cons q Q ih =>
    have h1 := h q (by simp)
    have h2 := ih fun p hp => h p (List.mem_cons_of_mem _ hp)
    obtain ⟨q1, q2⟩ := q
    simp only [List.cons_append, sto_cons] at h1 h2 ⊢
    by_cases e3 : x = q1
    · have e1 : ¬ x = m := fun e => h1.1 (e3.symm.trans e)
      have e2 : ¬ x = n := fun e => h1.2 (e3.symm.trans e)
      simp only [if_pos e3, if_neg e1, if_neg e2]
    · simp only [if_neg e3]
      exact h2
theorem sto_over (m n : Nat) (A C A' C' : AO) (pre : Loc) (r : Sto) : sto [(m, A'), (n, C')] (sto ((m, A) :: (n, C) :: pre) r) = sto ((m, A') :: (n, C') :: pre) r := by
  funext x
  simp only [sto]
  split
  · rfl
  · split <;> rfl
theorem call_w0 {P : Program} {B : Nat} {T0 : List Nat} {r : Sto} {a : Fr} {d : Option Nat} {K : Fr → Loc → Prop} {f : FuncId} {args : List Operand} {vs : List AV} {X bs : List UInt8} {m n : Nat} {pre : Loc} (hm : m < B + 100000) (hn : n < B + 100000) (ne : m ≠ n) (hT : m < B → m ∈ T0) (hr3 : ∀ x, (r x).kill m = r x) (he : enters P f = true) (hW : Writes P f vs X) (hv : (args.map fun x => (opd a x).2) = .lp n 0 :: vs) (hb : bs.length + X.length ≤ 2 ^ 40) (hpre : ∀ p ∈ pre, (p.1 = m) = False ∧ (p.1 = n) = False ∧ p.2.kill m = p.2) (hp : allP (args.map fun x => (opd a x).1)) (hF : Fr.below (B + 100000) (killT [m] a)) (hL : Loc.below (B + 100000) ((m, arO bs) :: (n, wrO m bs) :: pre)) (hk : K (putO d (.tup []) (killT [m] a)) ((m, arO (bs ++ X)) :: (n, wrO m (bs ++ X)) :: pre)) : SEcall P B T0 r d K a ((m, arO bs) :: (n, wrO m bs) :: pre) f args := by
  have e : ∀ Y, sto ((m, arO Y) :: (n, wrO m Y) :: pre) r = sto ((m, arO Y) :: (n, wrO m Y) :: pre) r := fun Y => sto_swap (Q := []) (fun p hp => by
    have := hpre p (List.mem_append_left (bs := pre) hp)
    exact ⟨of_eq_false this.1, of_eq_false this.2.1⟩)
  have e2 : sto (wrL m n (bs ++ X)) (sto ((m, arO bs) :: (n, wrO m bs) :: pre) r) = sto ((m, arO (bs ++ X)) :: (n, wrO m (bs ++ X)) :: pre) r := by
    rw [e]; exact sto_over _ _ _ _ _ _ _ _
  have hS : WrS (B + 100000) (sto ((m, arO bs) :: (n, wrO m bs) :: pre) r) m n bs := by
    rw [e]
    refine ⟨by omega, by omega, ne, by simp [sto], by simp [sto, ne.symm], sto_free hr3 fun p hp => ?_⟩
    simp only [List.mem_cons] at hp
    rcases hp with h | h | hp
    · subst h; exact .inl rfl
    · subst h; exact .inr (.inl rfl)
    · exact .inr (.inr (hpre p (by simpa using hp)).2.2)
  unfold SEcall
  refine ⟨[m], fun v' σ' => v' = .tup [] ∧ σ' = sto (wrL m n (bs ++ X)) (sto ((m, arO bs) :: (n, wrO m bs) :: pre) r), a, _, Wk.refl _ _ _ _ _, he, fun x hx hlt => by simp at hx; subst hx; exact hT hlt, by rw [hv]; exact hW _ _ m n bs hS hb, hp, hF, hL, fun v' σ' ⟨h1, h2⟩ => ⟨(m, arO (bs ++ X)) :: (n, wrO m (bs ++ X)) :: pre, by rw [h2, e2], by rw [h1]; exact hk⟩⟩
theorem call_w1 {P : Program} {B : Nat} {T0 : List Nat} {r : Sto} {a : Fr} {d : Option Nat} {K : Fr → Loc → Prop} {f : FuncId} {args : List Operand} {vs : List AV} {X bs : List UInt8} {m n : Nat} {p1 : Nat × AO} {pre : Loc} (hm : m < B + 100000) (hn : n < B + 100000) (ne : m ≠ n) (hT : m < B → m ∈ T0) (hr3 : ∀ x, (r x).kill m = r x) (he : enters P f = true) (hW : Writes P f vs X) (hv : (args.map fun x => (opd a x).2) = .lp n 0 :: vs) (hb : bs.length + X.length ≤ 2 ^ 40) (hpre : ∀ p ∈ p1 :: pre, (p.1 = m) = False ∧ (p.1 = n) = False ∧ p.2.kill m = p.2) (hp : allP (args.map fun x => (opd a x).1)) (hF : Fr.below (B + 100000) (killT [m] a)) (hL : Loc.below (B + 100000) (p1 :: (m, arO bs) :: (n, wrO m bs) :: pre)) (hk : K (putO d (.tup []) (killT [m] a)) ((m, arO (bs ++ X)) :: (n, wrO m (bs ++ X)) :: p1 :: pre)) : SEcall P B T0 r d K a (p1 :: (m, arO bs) :: (n, wrO m bs) :: pre) f args := by
  have e : ∀ Y, sto (p1 :: (m, arO Y) :: (n, wrO m Y) :: pre) r = sto ((m, arO Y) :: (n, wrO m Y) :: p1 :: pre) r := fun Y => sto_swap (Q := [p1]) (fun p hp => by
    have := hpre p (List.mem_append_left (bs := pre) hp)
    exact ⟨of_eq_false this.1, of_eq_false this.2.1⟩)
  have e2 : sto (wrL m n (bs ++ X)) (sto (p1 :: (m, arO bs) :: (n, wrO m bs) :: pre) r) = sto ((m, arO (bs ++ X)) :: (n, wrO m (bs ++ X)) :: p1 :: pre) r := by
    rw [e]; exact sto_over _ _ _ _ _ _ _ _
  have hS : WrS (B + 100000) (sto (p1 :: (m, arO bs) :: (n, wrO m bs) :: pre) r) m n bs := by
    rw [e]
    refine ⟨by omega, by omega, ne, by simp [sto], by simp [sto, ne.symm], sto_free hr3 fun p hp => ?_⟩
    simp only [List.mem_cons] at hp
    rcases hp with h | h | hp
    · subst h; exact .inl rfl
    · subst h; exact .inr (.inl rfl)
    · exact .inr (.inr (hpre p (by simpa using hp)).2.2)
  unfold SEcall
  refine ⟨[m], fun v' σ' => v' = .tup [] ∧ σ' = sto (wrL m n (bs ++ X)) (sto (p1 :: (m, arO bs) :: (n, wrO m bs) :: pre) r), a, _, Wk.refl _ _ _ _ _, he, fun x hx hlt => by simp at hx; subst hx; exact hT hlt, by rw [hv]; exact hW _ _ m n bs hS hb, hp, hF, hL, fun v' σ' ⟨h1, h2⟩ => ⟨(m, arO (bs ++ X)) :: (n, wrO m (bs ++ X)) :: p1 :: pre, by rw [h2, e2], by rw [h1]; exact hk⟩⟩
theorem call_w2 {P : Program} {B : Nat} {T0 : List Nat} {r : Sto} {a : Fr} {d : Option Nat} {K : Fr → Loc → Prop} {f : FuncId} {args : List Operand} {vs : List AV} {X bs : List UInt8} {m n : Nat} {p1 : Nat × AO} {p2 : Nat × AO} {pre : Loc} (hm : m < B + 100000) (hn : n < B + 100000) (ne : m ≠ n) (hT : m < B → m ∈ T0) (hr3 : ∀ x, (r x).kill m = r x) (he : enters P f = true) (hW : Writes P f vs X) (hv : (args.map fun x => (opd a x).2) = .lp n 0 :: vs) (hb : bs.length + X.length ≤ 2 ^ 40) (hpre : ∀ p ∈ p1 :: p2 :: pre, (p.1 = m) = False ∧ (p.1 = n) = False ∧ p.2.kill m = p.2) (hp : allP (args.map fun x => (opd a x).1)) (hF : Fr.below (B + 100000) (killT [m] a)) (hL : Loc.below (B + 100000) (p1 :: p2 :: (m, arO bs) :: (n, wrO m bs) :: pre)) (hk : K (putO d (.tup []) (killT [m] a)) ((m, arO (bs ++ X)) :: (n, wrO m (bs ++ X)) :: p1 :: p2 :: pre)) : SEcall P B T0 r d K a (p1 :: p2 :: (m, arO bs) :: (n, wrO m bs) :: pre) f args := by
  have e : ∀ Y, sto (p1 :: p2 :: (m, arO Y) :: (n, wrO m Y) :: pre) r = sto ((m, arO Y) :: (n, wrO m Y) :: p1 :: p2 :: pre) r := fun Y => sto_swap (Q := [p1, p2]) (fun p hp => by
    have := hpre p (List.mem_append_left (bs := pre) hp)
    exact ⟨of_eq_false this.1, of_eq_false this.2.1⟩)
  have e2 : sto (wrL m n (bs ++ X)) (sto (p1 :: p2 :: (m, arO bs) :: (n, wrO m bs) :: pre) r) = sto ((m, arO (bs ++ X)) :: (n, wrO m (bs ++ X)) :: p1 :: p2 :: pre) r := by
    rw [e]; exact sto_over _ _ _ _ _ _ _ _
  have hS : WrS (B + 100000) (sto (p1 :: p2 :: (m, arO bs) :: (n, wrO m bs) :: pre) r) m n bs := by
    rw [e]
    refine ⟨by omega, by omega, ne, by simp [sto], by simp [sto, ne.symm], sto_free hr3 fun p hp => ?_⟩
    simp only [List.mem_cons] at hp
    rcases hp with h | h | hp
    · subst h; exact .inl rfl
    · subst h; exact .inr (.inl rfl)
    · exact .inr (.inr (hpre p (by simpa using hp)).2.2)
  unfold SEcall
  refine ⟨[m], fun v' σ' => v' = .tup [] ∧ σ' = sto (wrL m n (bs ++ X)) (sto (p1 :: p2 :: (m, arO bs) :: (n, wrO m bs) :: pre) r), a, _, Wk.refl _ _ _ _ _, he, fun x hx hlt => by simp at hx; subst hx; exact hT hlt, by rw [hv]; exact hW _ _ m n bs hS hb, hp, hF, hL, fun v' σ' ⟨h1, h2⟩ => ⟨(m, arO (bs ++ X)) :: (n, wrO m (bs ++ X)) :: p1 :: p2 :: pre, by rw [h2, e2], by rw [h1]; exact hk⟩⟩
theorem bigB1 (x : Int) : bigB x 1 = [b8 x] := by
  show [b8 (x / f2 1 0)] = _
  rw [show f2 1 0 = 1 from by decide, Int.ediv_one]
theorem put1_w (x : Int) : Writes Try.prog 12 [I x, I 1] [b8 x] := by
  rw [← bigB1]; exact put_w x 1 (by omega) (by omega)
def askB (a : AskD) : List UInt8 := bigB a.ver 3 ++ bigB a.days 2 ++ [b8 a.cls]
def AskD.av (a : AskD) : AV := .agg (a.row.map .d)
def PartD.avW (p : PartD) : AV := .agg (p.row.map .d)
def VerD.avW (v : VerD) : AV := .agg (v.row.map .d)
def bsT (s : ByteArray) : List UInt8 := s.data.toList
theorem bsT_len (s : ByteArray) : (bsT s).length = s.size := Array.length_toList
def textB (s : ByteArray) : List UInt8 := bigB s.size 1 ++ bsT s
def intsB (l : List Int) : List UInt8 := [b8 l.length] ++ l.map b8
def bitB (b : Bool) : List UInt8 := [b8 (bif b then 1 else 0)]
def partB (p : PartD) : List UInt8 := [b8 p.num] ++ bigB p.size 2 ++ intsB p.secs
def ruleB (a : ByteArray) (x y : Int) : List UInt8 := textB a ++ bigB (IntKind.i64.wrap (x + 1)) 4 ++ bigB (IntKind.i64.wrap (y + 1)) 4
def verB (v : VerD) : List UInt8 := bigB v.id 3 ++ textB v.bkt ++ textB v.key ++ bitB v.null ++ bitB v.mark ++ bigB v.size 2 ++ bigB v.time 4 ++ [b8 v.tier] ++ intsB v.secs ++ [b8 v.vol] ++ bigB v.pos 2 ++ bigB v.till 4
theorem map_by (l : List UInt8) : l.map (fun b => [RV.v (.int .u8 b.toNat)]) = l.map by_ := rfl
theorem textB_len (s : ByteArray) : (textB s).length = 1 + s.size := by simp [textB, bigB_len, bsT_len]
theorem intsB_len (l : List Int) : (intsB l).length = 1 + l.length := by simp [intsB]; omega
end Go.Proofs.Ytijpmidnclbhpaa
