/- The package-level table is there, where the program's text lays it. -/
import Derived.Test.YtckjgipcephmfaaDoorEngA
import Derived.Test.YtckjgipcephmfaaDoorRows
import Derived.ProofKit
import Derived.LaidMore
import Derived.OpenShut
namespace Go.Proofs.YtckjgipcephmfaaDoor
open Go.ChangeShapes Go.WideShapes Go.ChangeAt Go.RowKit
set_option linter.unusedSimpArgs false
set_option linter.unusedVariables false
set_option maxRecDepth 20000
def litOf {H : Type} : Value → DataW H
  | .bool b => .lit (.bool b)
  | _ => .nil
theorem laid_eq {H : Type} : (Rows.laid_icehouse_code_kinds : DataW H) = .agg ((List.range 15).map fun i => .agg ((globR i).map litOf)) := rfl
theorem globR_bool (i : Nat) : ∀ c ∈ globR i, ∃ b, c = .bool b := by
  intro c hc
  match i with
  | 0 => rw [globR_0] at hc; simp only [List.mem_cons, List.not_mem_nil, or_false, or_self] at hc; exact ⟨_, hc⟩
  | i + 1 =>
    have key : ∀ j, j < 15 → (globR j).all (fun c => match c with | .bool _ => true | _ => false) = true := by
      intro j hj
      have : j = 0 ∨ j = 1 ∨ j = 2 ∨ j = 3 ∨ j = 4 ∨ j = 5 ∨ j = 6 ∨ j = 7 ∨ j = 8 ∨ j = 9 ∨ j = 10 ∨ j = 11 ∨ j = 12 ∨ j = 13 ∨ j = 14 := by omega
      rcases this with rfl | rfl | rfl | rfl | rfl | rfl | rfl | rfl | rfl | rfl | rfl | rfl | rfl | rfl | rfl <;> rfl
    by_cases hi : i + 1 < 15
    · have h := List.all_eq_true.1 (key _ hi) c hc
      cases c <;> first | exact ⟨_, rfl⟩ | cases h
    · have : globR (i + 1) = [] := by
        match i, hi with
        | n + 14, _ => rfl
      rw [this] at hc; cases hc
def arrOk (P : Program) (t : TypeId) : Bool := match P.underlying t with
  | some (.array 15 e) => P.cellsOf e == 11 && (match P.underlying e with
    | some (.struct fs) => fs.size == 11 && (List.range 11).all fun j => match fs[j]? with
      | some f => f.offset == j && P.cellsOf f.type == 1 && (match P.underlying f.type with | some .bool => true | _ => false)
      | none => false
    | _ => false)
  | _ => false
theorem cells_of {H : Type} {enc : TypeId × Value → H} {P : Program} {w : World} {base : Nat} {spare : Nat → Bool} {held : Bool} {fuel : Nat} {t : TypeId} {cs : List Value} {p : List MemPlace} (hA : arrOk P t = true) (h : DataW.trod enc P w base spare held fuel t cs = some ((Rows.laid_icehouse_code_kinds : DataW H), p)) (i j : Nat) (c : Value) (hi : i < 15) (hc : (globR i)[j]? = some c) : cs[i * 11 + j]? = some c := by
  unfold arrOk at hA
  split at hA
  · rename_i e hu
    simp only [Bool.and_eq_true, beq_iff_eq] at hA
    obtain ⟨he, hA⟩ := hA
    split at hA
    · rename_i fs hs
      simp only [Bool.and_eq_true, beq_iff_eq] at hA
      obtain ⟨hn, hA⟩ := hA
      obtain ⟨xs, m, rfl, hx, hl, hxl, hel⟩ := DataW.trod_array hu h
      have h1 := hel i hi
      rw [laid_eq] at hx
      simp only [Prod.mk.injEq, DataW.agg.injEq] at hx
      have h2 : (xs.map (·.1))[i]? = some (.agg ((globR i).map litOf)) := by
        rw [← hx.1]
        simp [hi]
      rw [List.getElem?_map] at h2
      cases hxi : xs[i]? with
      | none => rw [hxi] at h2; cases h2
      | some x =>
        rw [hxi] at h1 h2
        simp only [Option.map_some, Option.some.injEq] at h2
        obtain ⟨ys, n, rfl, hy, hyl, hyn, hf⟩ := DataW.trod_struct hs h1
        rw [hy] at h2
        simp only [DataW.agg.injEq] at h2
        have hj : j < 11 := by
          have := (List.getElem?_eq_some_iff.1 hc).1
          rw [globR_len hi] at this; exact this
        have h3 := List.all_eq_true.1 hA j (List.mem_range.2 hj)
        cases hfj : fs[j]? with
        | none => rw [hfj] at h3; cases h3
        | some f =>
          rw [hfj] at h3
          simp only [Bool.and_eq_true, beq_iff_eq] at h3
          obtain ⟨⟨ho, hc1⟩, hb⟩ := h3
          have h4 := hf j f hfj
          have h5 : (ys.map (·.1))[j]? = some (litOf c) := by rw [h2, List.getElem?_map, hc]; rfl
          rw [List.getElem?_map] at h5
          cases hyj : ys[j]? with
          | none => rw [hyj] at h5; cases h5
          | some y =>
            rw [hyj] at h4 h5
            simp only [Option.map_some, Option.some.injEq] at h5
            split at hb
            · rename_i hub
              obtain ⟨b, e1, e2⟩ := DataW.trod_bool hub h4
              obtain ⟨b', rfl⟩ := globR_bool i c (List.mem_of_getElem? hc)
              rw [e2] at h5
              simp only [litOf, DataW.lit.injEq, Lit.bool.injEq] at h5
              subst h5
              rw [he, ho, hc1] at e1
              have e3 : ((cs.drop (i * 11)).take 11)[j]? = some (.bool b) := by
                have : (((cs.drop (i * 11)).take 11).drop j).head? = some (.bool b) := by
                  have := congrArg List.head? e1
                  rw [List.head?_take] at this
                  simpa using this
                rwa [List.head?_drop] at this
              rw [List.getElem?_take_of_lt hj, List.getElem?_drop] at e3
              exact e3
            · cases hb
    · cases hA
  · cases hA
theorem gKinds : Tryd.prog.globalNamed "icehouse/code.kinds" = some 0 := by kernel_rfl
theorem arrK : ((Tryd.prog.globals[0]?).map (·.type)).all (arrOk Tryd.prog) = true := by kernel_rfl
def laidL : List (String × DataW Unit) := [("icehouse/code.kinds", Rows.laid_icehouse_code_kinds)]
theorem gl_of {W : World} (h : laidMetH Tryd.prog laidL W) : GL (fun b => b < W.heap.size) W := by
  rw [MakeChecks.laidMetH_plain _ _ _ (by kernel_rfl)] at h
  obtain ⟨ps, ⟨g0, t0, cs0, f0, p0, q0, hg0, ht0, hv0, hd0, _⟩, _⟩ := h
  obtain rfl := Option.some.inj (gKinds.symm.trans hg0)
  have hA := arrK
  rw [ht0] at hA
  have hA' : arrOk Tryd.prog t0 = true := by simpa using hA
  intro g k n e
  simp only [globD, Option.some.injEq, Prod.mk.injEq] at e
  obtain ⟨rfl, rfl, rfl⟩ := e
  have key : ∀ i j c, i < 15 → (globR i)[j]? = some c → W.cell? ⟨0, i * 11 + j, none⟩ = some c := fun i j c hi hc => by
    rw [World.var?_cell hg0 hv0, ← Array.getElem?_toList]
    exact cells_of hA' hd0 i j c hi hc
  refine ⟨?_, key⟩
  have h0 := key 1 2 (.bool true) (by decide) rfl
  rcases Nat.lt_or_ge 0 W.heap.size with h | h
  · exact h
  · simp [World.cell?, Array.getElem?_eq_none h] at h0
end Go.Proofs.YtckjgipcephmfaaDoor
