/- A cell of a box that is nil, taken for an empty array of one's own. -/
import Derived.Test.YtelciiooegiikaaBase
namespace Go.Proofs.Ytelciiooegiikaa
open Go.RowKit
set_option linter.unusedSimpArgs false
set_option linter.unusedVariables false
theorem Wk.nameB {B : Nat} {T0 : List Nat} {r : Sto} {a : Fr} {l : Loc} {b j n k : Nat} {E : TypeId} {cs : List AV} (hb : sto l r b = .box cs) (hj : cs[j]? = some (.d (.v (.slice none 0 0)))) (hbn : b ≠ n) (hk : 0 < k) (hn : B ≤ n ∨ n ∈ T0) (hr : ∀ m, (r m).kill n = r m) : Wk B T0 r a l (newF n a) (Loc.set b (.box ((cs.map (AV.kill n)).set j (.os n 0))) (newL n (.arr k E []) l)) := fun t w K h1 h2 => by
  let K' : KS := { K with nl := fun m => if m = n then true else K.nl m, ad := fun m => if m = n then none else K.ad m }
  have hsame : ∀ m, m ≠ n → K.same K' m := fun m hm => ⟨rfl, rfl, if_neg hm, if_neg hm⟩
  have hσ : ∀ m, sto (newL n (.arr k E []) l) r m = if m = n then .arr k E [] else (sto l r m).kill n := fun m => sto_newL _ _ _ _ hr m
  have hnl : K'.nl n = true := if_pos rfl
  have hS1 : RepS K' (sto (newL n (.arr k E []) l) r) w := h1.bind (fun b => Iff.rfl) (Keep.refl _ _) hsame (fun _ _ _ => rfl) (o := .arr k E []) ⟨hk, .inl ⟨hnl, rfl⟩⟩ (fun m hm hl hl2 => by simp only [AO.live, hnl] at hl2; cases hl2) hσ
  let cs' : List AV := (cs.map (AV.kill n)).set j (.os n 0)
  have hσ2 : ∀ m, sto (Loc.set b (.box cs') (newL n (.arr k E []) l)) r m = if m = b then .box cs' else sto (newL n (.arr k E []) l) r m := fun m => sto_set _ _ _ _ m
  have hlive : ∀ m, (sto (Loc.set b (.box cs') (newL n (.arr k E []) l)) r m).live K' m → (sto (newL n (.arr k E []) l) r m).live K' m := fun m h => by
    rw [hσ2] at h
    split at h
    · rename_i e; subst e; rw [hσ, if_neg hbn, hb]; trivial
    · exact h
  refine ⟨K', ⟨fun m hm hT => hsame m (fun e => hn.elim (by omega) (fun h => hT (e ▸ h))), fun b h => h, Keep.refl _ _, fun b' hb' => ?_⟩, ⟨hS1.gl, hS1.inI, fun m => ?_, fun i j' hi hj' e => hS1.inj i j' (hlive i hi) (hlive j' hj') e⟩, ?_⟩
  · rcases hb' with hb' | ⟨m, hl, rfl⟩
    · exact .inl hb'
    · have hl := hlive m hl
      by_cases hm : m = n
      · subst hm; rw [hσ, if_pos rfl] at hl; simp only [AO.live, hnl] at hl; cases hl
      · rw [hσ, if_neg hm, AO.kill_live, live_same (hsame m hm)] at hl
        exact .inr (.inr ⟨m, hl, rfl⟩)
  · rw [hσ2]
    split
    · rename_i e
      subst e
      have hO := h1.obj m
      rw [hb] at hO
      obtain ⟨g1, xs, T, g2, g3, g4, g5⟩ := hO
      refine ⟨g1, xs, T, g2, by simpa [cs'] using g3, fun i c x hc hx => ?_, g5⟩
      simp only [cs', List.getElem?_set, List.length_map, List.getElem?_map] at hc
      split at hc
      · rename_i e
        subst e
        split at hc
        · cases hc
          have := g4 j _ x hj hx
          have hv : x = .slice none 0 0 := by cases this with | d h => exact h.int
          subst hv
          have : Rep K' w (.os n 0) (K'.sl n 0) := .os
          simpa [KS.sl, K'] using this
        · cases hc
      · rcases hcs : cs[i]? with _ | c0
        · rw [hcs] at hc; cases hc
        · rw [hcs] at hc
          cases hc
          exact Rep.kill (K := K) (K' := K') (w := w) (w' := w) (n := n) (fun b h => h) (Keep.refl _ _) hsame (g4 i c0 x hcs hx)
    · exact hS1.obj m
  · exact RepF.kill (K' := K') (n := n) h2 (fun b h => h) (Keep.refl _ _) hsame
theorem Wk.name3 {B : Nat} {T0 : List Nat} {r : Sto} {a : Fr} {l : Loc} {b m1 m2 m3 k1 k2 k3 : Nat} {E1 E2 E3 : TypeId} {f : Int} (hb : sto l r b = .box [.d (.v (.slice none 0 0)), .d (.v (.slice none 0 0)), .d (.v (.slice none 0 0)), I f]) (b1 : b ≠ m1) (b2 : b ≠ m2) (b3 : b ≠ m3)
    (h12 : m1 ≠ m2) (h13 : m1 ≠ m3) (h23 : m2 ≠ m3) (p1 : 0 < k1) (p2 : 0 < k2) (p3 : 0 < k3) (n1 : B ≤ m1 ∨ m1 ∈ T0) (n2 : B ≤ m2 ∨ m2 ∈ T0) (n3 : B ≤ m3 ∨ m3 ∈ T0) (r1 : ∀ m, (r m).kill m1 = r m) (r2 : ∀ m, (r m).kill m2 = r m) (r3 : ∀ m, (r m).kill m3 = r m) :
    Wk B T0 r a l (newF m3 (newF m2 (newF m1 a))) (Loc.set b (.box [.os m1 0, .os m2 0, .os m3 0, I f]) (newL m3 (.arr k3 E3 []) (Loc.set b (.box [.os m1 0, .os m2 0, .d (.v (.slice none 0 0)), I f]) (newL m2 (.arr k2 E2 []) (Loc.set b (.box [.os m1 0, .d (.v (.slice none 0 0)), .d (.v (.slice none 0 0)), I f]) (newL m1 (.arr k1 E1 []) l)))))) := by
  have w1 := Wk.nameB (B := B) (T0 := T0) (a := a) (j := 0) (n := m1) (k := k1) (E := E1) hb rfl b1 p1 n1 r1
  simp only [List.map_cons, List.map_nil, AV.kill, AV.mapN, List.set_cons_zero] at w1
  have w2 := Wk.nameB (B := B) (T0 := T0) (r := r) (a := newF m1 a) (l := Loc.set b (.box [.os m1 0, .d (.v (.slice none 0 0)), .d (.v (.slice none 0 0)), I f]) (newL m1 (.arr k1 E1 []) l)) (b := b) (j := 1) (n := m2) (k := k2) (E := E2) (by rw [sto_set, if_pos rfl]) rfl b2 p2 n2 r2
  simp only [List.map_cons, List.map_nil, AV.kill, AV.mapN, List.set_cons_zero, List.set_cons_succ, if_neg h12] at w2
  have w3 := Wk.nameB (B := B) (T0 := T0) (r := r) (a := newF m2 (newF m1 a)) (l := Loc.set b (.box [.os m1 0, .os m2 0, .d (.v (.slice none 0 0)), I f]) (newL m2 (.arr k2 E2 []) (Loc.set b (.box [.os m1 0, .d (.v (.slice none 0 0)), .d (.v (.slice none 0 0)), I f]) (newL m1 (.arr k1 E1 []) l)))) (b := b) (j := 2) (n := m3) (k := k3) (E := E3) (by rw [sto_set, if_pos rfl]) rfl b3 p3 n3 r3
  simp only [List.map_cons, List.map_nil, AV.kill, AV.mapN, List.set_cons_zero, List.set_cons_succ, if_neg h13, if_neg h23] at w3
  exact w1.trans (w2.trans w3)
end Go.Proofs.Ytelciiooegiikaa
