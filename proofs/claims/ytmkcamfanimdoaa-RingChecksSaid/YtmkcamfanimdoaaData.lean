/- Slices of values of one make, bytes, devices: what a value in memory stands for. -/
import Derived.Test.YtmkcamfanimdoaaLib
namespace Go.Proofs.Ytmkcamfanimdoaa
open Go.RowKit
set_option linter.unusedVariables false

/-- a slice whose elements, of k cells each, stand for xs -/
def SLR {α : Type} (L : Nat → Prop) (w : World) (v : Value) (k : Nat) (R : World → Array Value → α → Prop) (xs : List α) : Prop :=
  ∃ es : List (Array Value), SL L w v k es ∧ es.length = xs.length ∧ ∀ (i : Nat) (e : Array Value) (x : α), es[i]? = some e → xs[i]? = some x → R w e x

theorem SLR.grow {α : Type} {L : Nat → Prop} {w w' : World} {v : Value} {k : Nat} {R : World → Array Value → α → Prop} {xs : List α} (hR : ∀ e x, R w e x → R w' e x) (h : SLR L w v k R xs) (hg : Grow w w') : SLR L w' v k R xs := by
  obtain ⟨es, h1, h2, h3⟩ := h
  exact ⟨es, h1.grow hg, h2, fun i e x he hx => hR _ _ (h3 i e x he hx)⟩

section
variable {α : Type} {P : Program} {L : Nat → Prop} {w : World} {v : Value} {k : Nat} {R : World → Array Value → α → Prop} {xs : List α}

theorem SLR.run_len (h : SLR L w v k R xs) (t ty : TypeId) (w' : World) (ht : P.underlying t = some (.slice (P.elem t))) :
    (Builtin.len_ #[t] ty #[v]).run P w' = .ok (.int .i64 xs.length) w' := by
  obtain ⟨es, h1, h2, _⟩ := h
  rw [← h2]; exact h1.run_len t ty w' ht

theorem SLR.run_index (h : SLR L w v k R xs) (t : TypeId) (kk : IntKind) (i : Int) (w' : World) (ht : P.underlying t = some (.slice (P.elem t))) (h0 : 0 ≤ i) (h1 : i < xs.length) :
    (Instr.indexAt t v (.int kk i)).run P w' = ((sizeOf (P.elem t)).run P w').andThen fun s w => .ok (.pointer (some (elem v (i.toNat * s)))) w := by
  obtain ⟨es, a1, a2, _⟩ := h
  exact a1.run_index t kk i w' ht h0 (by rw [a2]; exact h1)

theorem SLR.bound (h : SLR L w v k R xs) : xs.length ≤ 2 ^ 47 := by
  obtain ⟨es, a1, a2, _⟩ := h
  rw [← a2]; exact a1.bound

/-- the i'th element: its cells, and what they stand for -/
theorem SLR.get (h : SLR L w v k R xs) (i : Nat) (hi : i < xs.length) : ∃ e : Array Value, e.size = k ∧ R w e xs[i] ∧ ∀ j w', j < k → Grow w w' → w'.cell? (elem v (i * k + j)) = e[j]? := by
  obtain ⟨es, a1, a2, a3⟩ := h
  have hi' : i < es.length := by omega
  refine ⟨es[i], a1.size _ (List.getElem_mem hi'), a3 i _ _ (List.getElem?_eq_getElem hi') (List.getElem?_eq_getElem hi), fun j w' hj hg => ?_⟩
  rw [a1.cell hg i j hi' hj]
  simp [List.getD, hi']
end

theorem SLR.get1 {α : Type} {L : Nat → Prop} {w : World} {v : Value} {R : World → Array Value → α → Prop} {xs : List α} (h : SLR L w v 1 R xs) (i : Nat) (hi : i < xs.length) : ∃ c : Value, R w #[c] xs[i] ∧ ∀ w', Grow w w' → w'.cell? (elem v i) = some c := by
  obtain ⟨e, hs, hR, hc⟩ := h.get i hi
  obtain ⟨l⟩ := e
  match l, hs with
  | [c], _ => exact ⟨c, hR, fun w' hg => by simpa using hc 0 w' (by decide) hg⟩

theorem SLR.get2 {α : Type} {L : Nat → Prop} {w : World} {v : Value} {R : World → Array Value → α → Prop} {xs : List α} (h : SLR L w v 2 R xs) (i : Nat) (hi : i < xs.length) : ∃ c d : Value, R w #[c, d] xs[i] ∧ (∀ w', Grow w w' → w'.cell? (elem v (i * 2)) = some c) ∧ (∀ w', Grow w w' → w'.cell? (elem v (i * 2 + 1)) = some d) := by
  obtain ⟨e, hs, hR, hc⟩ := h.get i hi
  obtain ⟨l⟩ := e
  match l, hs with
  | [c, d], _ => exact ⟨c, d, hR, fun w' hg => by simpa using hc 0 w' (by decide) hg, fun w' hg => by simpa using hc 1 w' (by decide) hg⟩

theorem SLR.get3 {α : Type} {L : Nat → Prop} {w : World} {v : Value} {R : World → Array Value → α → Prop} {xs : List α} (h : SLR L w v 3 R xs) (i : Nat) (hi : i < xs.length) : ∃ c d e : Value, R w #[c, d, e] xs[i] ∧ (∀ w', Grow w w' → w'.cell? (elem v (i * 3)) = some c) ∧ (∀ w', Grow w w' → w'.cell? (elem v (i * 3 + 1)) = some d) ∧ (∀ w', Grow w w' → w'.cell? (elem v (i * 3 + 2)) = some e) := by
  obtain ⟨e, hs, hR, hc⟩ := h.get i hi
  obtain ⟨l⟩ := e
  match l, hs with
  | [c, d, e], _ => exact ⟨c, d, e, hR, fun w' hg => by simpa using hc 0 w' (by decide) hg, fun w' hg => by simpa using hc 1 w' (by decide) hg, fun w' hg => by simpa using hc 2 w' (by decide) hg⟩

/-- a slice of bytes -/
def Bytes (L : Nat → Prop) (w : World) (v : Value) (bs : List UInt8) : Prop := SL L w v 1 (bs.map fun b => #[.int .u8 b.toNat])

section
variable {P : Program} {L : Nat → Prop} {w : World} {v : Value} {bs : List UInt8}
theorem Bytes.grow {w' : World} (h : Bytes L w v bs) (hg : Grow w w') : Bytes L w' v bs := SL.grow h hg
theorem Bytes.run_len (h : Bytes L w v bs) (t ty : TypeId) (w' : World) (ht : P.underlying t = some (.slice (P.elem t))) :
    (Builtin.len_ #[t] ty #[v]).run P w' = .ok (.int .i64 bs.length) w' := by
  have := SL.run_len h t ty w' ht; simpa using this
theorem Bytes.run_index (h : Bytes L w v bs) (t : TypeId) (kk : IntKind) (i : Int) (w' : World) (ht : P.underlying t = some (.slice (P.elem t))) (h0 : 0 ≤ i) (h1 : i < bs.length) :
    (Instr.indexAt t v (.int kk i)).run P w' = ((sizeOf (P.elem t)).run P w').andThen fun s w => .ok (.pointer (some (elem v (i.toNat * s)))) w :=
  SL.run_index h t kk i w' ht h0 (by simpa using h1)
theorem Bytes.bound (h : Bytes L w v bs) : bs.length ≤ 2 ^ 47 := by have := SL.bound h; simpa using this
theorem Bytes.cell (h : Bytes L w v bs) (i : Nat) (w' : World) (hi : i < bs.length) (hg : Grow w w') : w'.cell? (elem v i) = some (.int .u8 (bs.getD i 0).toNat) := by
  have := SL.cell h hg i 0 (by simpa using hi) (by decide)
  simp only [Nat.mul_one, Nat.add_zero] at this
  rw [this]; simp [hi]
end

/-- the bytes as a text -/
def textOf (bs : List UInt8) : ByteArray := ⟨bs.toArray⟩

theorem strOfNums_bytes (bs : List UInt8) : strOfNums (bs.map fun b => (b.toNat : Int)) = textOf bs := by
  unfold strOfNums textOf
  congr 1
  simp only [List.map_map]
  rw [show ((fun n : Int => UInt8.ofNat n.toNat) ∘ fun b : UInt8 => (b.toNat : Int)) = id from by funext b; simp]
  simp

theorem Bytes.run_string {P : Program} {L : Nat → Prop} {w : World} {v : Value} {bs : List UInt8} (h : Bytes L w v bs) (src dst : TypeId) (w' : World) (hs : P.underlying src = some (.slice (P.elem src))) (he : P.underlying (P.elem src) = some (.int .u8)) (hd : P.underlying dst = some .string) (hg : Grow w w') :
    (convert src dst v).run P w' = .ok (.string (textOf bs)) w' := by
  obtain ⟨a, cap, hv, hle, hp⟩ := h.ex
  have hlen : (bs.map fun b => #[Value.int .u8 b.toNat]).length = bs.length := by simp
  rw [hlen] at hv
  by_cases hb : bs = []
  · subst hb
    rw [hv]
    cases a with
    | none => rw [run_convert_bytes_nil w' src (P.elem src) hs he _ _ dst hd]; rfl
    | some a =>
      rw [run_convert_bytes_string w' src dst (P.elem src) _ _ cap hs he hd, run_bytesToString w' _ _ cap [] (by simp [loadCells, loadCellsFrom])]
      rfl
  · obtain ⟨b, o, ha⟩ := hp (by simpa using hb)
    subst ha
    rw [← strOfNums_bytes]
    have hc := fun i hi => h.cell i w' hi hg
    rw [hv] at hc ⊢
    refine run_convert_bytes_arg w' src (P.elem src) hs he b o bs.length cap _ (by simp) (fun i hi => ?_) dst hd
    have := hc i hi
    simp only [elem] at this
    rw [this]; simp [List.getD, hi]

/-- one cell that holds a slice of bytes -/
def RowC (L : Nat → Prop) (w : World) (e : Array Value) (bs : List UInt8) : Prop := ∃ v, e = #[v] ∧ Bytes L w v bs
/-- a slice of slices of bytes -/
def Rows2 (L : Nat → Prop) (w : World) (v : Value) (l : List (List UInt8)) : Prop := SLR L w v 1 (RowC L) l

structure Wr where
  pos : Int
  data : List UInt8
structure Vol where
  data : List UInt8
  synced : Int
  gone : Bool
structure Dev where
  safe : List (List UInt8)
  cache : List Wr
  vols : List Vol
  fuel : Int

def WrC (L : Nat → Prop) (w : World) (e : Array Value) (x : Wr) : Prop := ∃ v, e = #[.int .i64 x.pos, v] ∧ Bytes L w v x.data
def VolC (L : Nat → Prop) (w : World) (e : Array Value) (x : Vol) : Prop := ∃ v, e = #[v, .int .i64 x.synced, .bool x.gone] ∧ Bytes L w v x.data

/-- the parts of devices -/
structure DevP (L : Nat → Prop) (w : World) (vs vc vv : Value) (d : Dev) : Prop where
  safe : Rows2 L w vs d.safe
  cache : SLR L w vc 2 (WrC L) d.cache
  vols : SLR L w vv 3 (VolC L) d.vols

def DevR (L : Nat → Prop) (w : World) (v : Value) (d : Dev) : Prop := ∃ vs vc vv, v = .agg #[vs, vc, vv, .int .i64 d.fuel] ∧ DevP L w vs vc vv d

section
variable {L : Nat → Prop} {w w' : World}
theorem RowC.grow {e : Array Value} {x : List UInt8} (hg : Grow w w') (h : RowC L w e x) : RowC L w' e x := by
  obtain ⟨v, a, b⟩ := h; exact ⟨v, a, b.grow hg⟩
theorem WrC.grow {e : Array Value} {x : Wr} (hg : Grow w w') (h : WrC L w e x) : WrC L w' e x := by
  obtain ⟨v, a, b⟩ := h; exact ⟨v, a, b.grow hg⟩
theorem VolC.grow {e : Array Value} {x : Vol} (hg : Grow w w') (h : VolC L w e x) : VolC L w' e x := by
  obtain ⟨v, a, b⟩ := h; exact ⟨v, a, b.grow hg⟩
theorem Rows2.grow {v : Value} {l : List (List UInt8)} (h : Rows2 L w v l) (hg : Grow w w') : Rows2 L w' v l := SLR.grow (fun _ _ => RowC.grow hg) h hg
theorem DevP.grow {vs vc vv : Value} {d : Dev} (h : DevP L w vs vc vv d) (hg : Grow w w') : DevP L w' vs vc vv d :=
  ⟨h.safe.grow hg, SLR.grow (fun _ _ => WrC.grow hg) h.cache hg, SLR.grow (fun _ _ => VolC.grow hg) h.vols hg⟩
theorem DevR.grow {v : Value} {d : Dev} (h : DevR L w v d) (hg : Grow w w') : DevR L w' v d := by
  obtain ⟨vs, vc, vv, a, b⟩ := h; exact ⟨vs, vc, vv, a, b.grow hg⟩
end

theorem Rows2.get {L : Nat → Prop} {w : World} {v : Value} {l : List (List UInt8)} (h : Rows2 L w v l) (i : Nat) (hi : i < l.length) : ∃ c : Value, Bytes L w c l[i] ∧ ∀ w', Grow w w' → w'.cell? (elem v i) = some c := by
  obtain ⟨c, ⟨c', h1, h2⟩, h3⟩ := SLR.get1 h i hi
  simp only [Array.mk.injEq, List.cons.injEq, and_true] at h1
  subst h1; exact ⟨c, h2, h3⟩

theorem wr_get {L : Nat → Prop} {w : World} {v : Value} {l : List Wr} (h : SLR L w v 2 (WrC L) l) (i : Nat) (hi : i < l.length) : ∃ c : Value, Bytes L w c l[i].data ∧ (∀ w', Grow w w' → w'.cell? (elem v (i * 2)) = some (.int .i64 l[i].pos)) ∧ (∀ w', Grow w w' → w'.cell? (elem v (i * 2 + 1)) = some c) := by
  obtain ⟨c, d, ⟨c', h1, h2⟩, h3, h4⟩ := SLR.get2 h i hi
  simp only [Array.mk.injEq, List.cons.injEq, and_true] at h1
  obtain ⟨rfl, rfl⟩ := h1
  exact ⟨_, h2, h3, h4⟩

theorem vol_get {L : Nat → Prop} {w : World} {v : Value} {l : List Vol} (h : SLR L w v 3 (VolC L) l) (i : Nat) (hi : i < l.length) : ∃ c : Value, Bytes L w c l[i].data ∧ (∀ w', Grow w w' → w'.cell? (elem v (i * 3)) = some c) ∧ (∀ w', Grow w w' → w'.cell? (elem v (i * 3 + 1)) = some (.int .i64 l[i].synced)) ∧ (∀ w', Grow w w' → w'.cell? (elem v (i * 3 + 2)) = some (.bool l[i].gone)) := by
  obtain ⟨c, d, e, ⟨c', h1, h2⟩, h3, h4, h5⟩ := SLR.get3 h i hi
  simp only [Array.mk.injEq, List.cons.injEq, and_true] at h1
  obtain ⟨rfl, rfl, rfl⟩ := h1
  exact ⟨_, h2, h3, h4, h5⟩
end Go.Proofs.Ytmkcamfanimdoaa
