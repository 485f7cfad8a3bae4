/- Names and keys. -/
import Derived.Test.YtinjcpmpanffmaaIn
namespace Go.Proofs.Ytinjcpmpanffmaa
open Go.RowKit
set_option linter.unusedVariables false

/-- bytes from 33 to 126 -/
def okText (b : ByteArray) : Bool := b.data.toList.all fun c => inB c.toNat 33 126

theorem okText_true {b : ByteArray} (h : ∀ m (hm : m < b.size), inB b[m].toNat 33 126 = true) : okText b = true := by
  unfold okText
  rw [List.all_eq_true]
  intro c hc
  obtain ⟨m, hm, rfl⟩ := List.mem_iff_getElem.1 hc
  exact h m hm

theorem okText_false {b : ByteArray} {m : Nat} (hm : m < b.size) (h : inB b[m].toNat 33 126 = false) : okText b = false := by
  unfold okText
  rw [List.all_eq_false]
  exact ⟨b[m], List.mem_iff_getElem.2 ⟨m, hm, rfl⟩, by simpa using h⟩

theorem letters_any (b : ByteArray) (hb : b.size ≤ 2 ^ 47) (w : World) :
    Calls Try.prog 62 #[.string b] w fun e w' => e = .returned (.bool (okText b)) ∧ w = w' := by
  go_enter Try.func62, Try.ntmps62
  go_wp2
  go_loopw [6] (fun i wr => ∃ k : Nat, k ≤ b.size ∧ i = .int .i64 k ∧ w = wr ∧ ∀ m (hm : m < b.size), m < k → inB b[m].toNat 33 126 = true) (fun i _ => b.size - (intOf i).toNat)
  case atStart => exact ⟨0, by omega, rfl, rfl, fun m _ h => by omega⟩
  case round =>
    obtain ⟨k, hk, rfl, rfl, hall⟩ := hrel
    by_cases hlt : k < b.size
    · have hget : b[k]? = some b[k] := getElem?_pos b k hlt
      generalize hc : b[k] = c at hget
      by_cases h1 : (c.toNat : Int) < 33
      · go_wp2
        go_ret
        exact ⟨by rw [okText_false hlt (by rw [hc]; simp [inB]; omega)]; rfl, rfl⟩
      · by_cases h2 : (126 : Int) < c.toNat
        · go_wp2
          go_ret
          exact ⟨by rw [okText_false hlt (by rw [hc]; simp [inB]; omega)]; rfl, rfl⟩
        · go_wp2
          refine ⟨⟨k + 1, by omega, by go_num, trivial, fun m hm hmk => ?_⟩, by simp [intOf]; omega⟩
          by_cases e : m = k
          · subst e; rw [hc]; simp [inB]; omega
          · exact hall m hm (by omega)
    · go_wp2
      go_ret
      exact ⟨by rw [okText_true (fun m hm => hall m hm (by omega))]; rfl, rfl⟩

theorem plainText_any (b : ByteArray) (hb : b.size ≤ 2 ^ 47) (w : World) :
    Calls Try.prog 64 #[.string b] w fun e w' => e = .returned (.bool (okText b)) ∧ w = w' := by
  go_enter Try.func64, Try.ntmps64
  go_wp2
  go_loopw [3] (fun i wr => ∃ k : Nat, k ≤ b.size ∧ i = .int .i64 k ∧ w = wr ∧ ∀ m (hm : m < b.size), m < k → inB b[m].toNat 33 126 = true) (fun i _ => b.size - (intOf i).toNat)
  case atStart => exact ⟨0, by omega, rfl, rfl, fun m _ h => by omega⟩
  case round =>
    obtain ⟨k, hk, rfl, rfl, hall⟩ := hrel
    by_cases hlt : k < b.size
    · have hget : b[k]? = some b[k] := getElem?_pos b k hlt
      generalize hc : b[k] = c at hget
      have hcl : c.toNat < 256 := c.toNat_lt
      have hw64 : wrap64 (c.toNat : Int) = c.toNat := by unfold wrap64; omega
      rcases two (inB c.toNat 33 126) with h1 | h1
      · go_wp2_with (go_at_call 65; refine (In_any _ _ _ _).mono ?_; rintro e w' ⟨rfl, rfl⟩)
        go_ret
        exact ⟨by rw [okText_false hlt (by rw [hc]; exact h1)]; rfl, rfl⟩
      · go_wp2_with (go_at_call 65; refine (In_any _ _ _ _).mono ?_; rintro e w' ⟨rfl, rfl⟩)
        refine ⟨⟨k + 1, by omega, by go_num, trivial, fun m hm hmk => ?_⟩, by simp [intOf]; omega⟩
        by_cases e : m = k
        · subst e; rw [hc]; exact h1
        · exact hall m hm (by omega)
    · go_wp2
      go_ret
      exact ⟨by rw [okText_true (fun m hm => hall m hm (by omega))]; rfl, rfl⟩
end Go.Proofs.Ytinjcpmpanffmaa
