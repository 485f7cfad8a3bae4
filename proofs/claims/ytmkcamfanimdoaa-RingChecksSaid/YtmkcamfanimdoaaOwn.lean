/- Memory that a call makes: slices that own their block, and what keeps them as they are. -/
import Derived.Test.YtmkcamfanimdoaaData
import Derived.Test.YtmkcamfanimdoaaRegion
import Derived.Test.YtmkcamfanimdoaaProg
namespace Go.Proofs.Ytmkcamfanimdoaa
open Go.RowKit
set_option linter.unusedVariables false

theorem cell_of_block' {w : World} {b : Nat} {cs : Array Value} {T : TypeId} {fr : Nat × Nat} (h : w.heap[b]? = some (.cells cs T fr)) {o : Nat} : w.cell? ⟨b, o, none⟩ = cs[o]? := by
  simp [World.cell?, h]

theorem hp_set {w : World} {b o : Nat} {cs : Array Value} {T : TypeId} {fr : Nat × Nat} {x : Value} (h : w.heap[b]? = some (.cells cs T fr)) : (w.setCell ⟨b, o, none⟩ x).heap[b]? = some (.cells (cs.setIfInBounds o x) T fr) := by
  simp [World.setCell, Array.getElem?_modify, h]
theorem hp_set_ne {w : World} {b : Nat} {p : Addr} {x : Value} (h : p.block ≠ b) : (w.setCell p x).heap[b]? = w.heap[b]? := by
  simp only [World.setCell, Array.getElem?_modify]; rw [if_neg h]
theorem hp_grown {w w' : World} {row : Option Nat} {b : Nat} {x : Obj} (hg : w.grownBy w' row) (h : w.heap[b]? = some x) (hr : row ≠ some b) : w'.heap[b]? = some x := by
  have hlt : b < w.heap.size := by
    rcases Nat.lt_or_ge b w.heap.size with h' | h'
    · exact h'
    · simp [Array.getElem?_eq_none h'] at h
  rw [hg.block b hlt (fun e => hr e.symm)]; exact h
theorem hp_lt {w : World} {b : Nat} {x : Obj} (h : w.heap[b]? = some x) : b < w.heap.size := by
  rcases Nat.lt_or_ge b w.heap.size with h' | h'
  · exact h'
  · simp [Array.getElem?_eq_none h'] at h
theorem Grow.hp {w w' : World} {b : Nat} {x : Obj} (hg : Grow w w') (h : w.heap[b]? = some x) : w'.heap[b]? = some x := by
  rw [hg.heap (hp_lt h)]; exact h
theorem Grow.grown {a w w' : World} {row : Option Nat} (h : Grow a w) (hg : w.grownBy w' row) (hr : ∀ k, row = some k → a.heap.size ≤ k) : Grow a w' := Below.grown h hg h.size hr

section
variable {L : Nat → Prop} {w w' : World} {B k n : Nat} {e : TypeId} {v : Value} {xs : List Value}

theorem owns_grow (h : w.ownsRow B e k v n xs) (hg : Grow w w') : w'.ownsRow B e k v n xs := by
  obtain ⟨h1, h2⟩ := h
  refine ⟨h1, h2.imp _root_.id fun ⟨g, cap, cur, hv, hb, hh, r⟩ => ⟨g, cap, cur, hv, hb, ?_, r⟩⟩
  have hlt : g < w.heap.size := by
    rcases Nat.lt_or_ge g w.heap.size with h' | h'
    · exact h'
    · simp [Array.getElem?_eq_none h'] at hh
  rw [hg.heap hlt]; exact hh

/-- a write into a block of another make -/
theorem owns_beside (h : w.ownsRow B e k v n xs) {row : Option Nat} (hg : w.grownBy w' row) (hrow : ∀ g cs t fr, row = some g → w.heap[g]? = some (.cells cs t fr) → t ≠ e) : w'.ownsRow B e k v n xs := by
  obtain ⟨h1, h2⟩ := h
  refine ⟨h1, h2.imp _root_.id fun ⟨g, cap, cur, hv, hb, hh, r⟩ => ⟨g, cap, cur, hv, hb, ?_, r⟩⟩
  have hlt : g < w.heap.size := by
    rcases Nat.lt_or_ge g w.heap.size with h' | h'
    · exact h'
    · simp [Array.getElem?_eq_none h'] at hh
  rw [hg.block g hlt (fun hr => hrow g _ _ _ hr.symm hh rfl)]; exact hh

theorem owns_mono {B' : Nat} (h : w.ownsRow B e k v n xs) (hB : B' ≤ B) : w.ownsRow B' e k v n xs := by
  obtain ⟨h1, h2⟩ := h
  exact ⟨h1, h2.imp _root_.id fun ⟨g, cap, cur, hv, hb, r⟩ => ⟨g, cap, cur, hv, Nat.le_trans hB hb, r⟩⟩

theorem owns_type (h : w.ownsRow B e k v n xs) : ∀ g cs t fr, v.ownBlock = some g → w.heap[g]? = some (.cells cs t fr) → t = e := by
  intro g cs t fr hv hh
  rcases h.2 with ⟨rfl, _⟩ | ⟨g', cap, cur, rfl, _, hh', _⟩
  · cases hv
  · cases hv
    rw [hh'] at hh
    simp at hh
    exact hh.2.1.symm

theorem owns_block (h : w.ownsRow B e k v n xs) : ∀ g, v.ownBlock = some g → B ≤ g ∧ g < w.heap.size := by
  intro g hv
  rcases h.2 with ⟨rfl, _⟩ | ⟨g', cap, cur, rfl, hb, hh', _⟩
  · cases hv
  · cases hv
    refine ⟨hb, ?_⟩
    rcases Nat.lt_or_ge g' w.heap.size with h' | h'
    · exact h'
    · simp [Array.getElem?_eq_none h'] at hh'

theorem owns_cells (h : w.ownsRow B e k v n xs) : v.cells = #[v] := by
  rcases h.2 with ⟨rfl, _⟩ | ⟨g, cap, cur, rfl, _⟩ <;> rfl

theorem owns_slice (h : w.ownsRow B e k v n xs) : ∃ a c, v = .slice a n c := by
  rcases h.2 with ⟨rfl, rfl⟩ | ⟨g, cap, cur, rfl, _⟩
  · exact ⟨_, _, rfl⟩
  · exact ⟨_, _, rfl⟩

/-- where there are elements: the block, cell by cell -/
theorem owns_pos (h : w.ownsRow B e k v n xs) (hn : 0 < n) : ∃ g cap, v = .slice (some ⟨g, 0, none⟩) n cap ∧ B ≤ g ∧ g < w.heap.size ∧ ∀ j x, xs[j]? = some x → w.cell? ⟨g, j, none⟩ = some x := by
  obtain ⟨h1, h2⟩ := h
  rcases h2 with ⟨_, rfl⟩ | ⟨g, cap, cur, rfl, hb, hh, _, _, _, ht⟩
  · omega
  · refine ⟨g, cap, rfl, hb, ?_, fun j x hj => ?_⟩
    · rcases Nat.lt_or_ge g w.heap.size with h' | h'
      · exact h'
      · simp [Array.getElem?_eq_none h'] at hh
    · rw [cell_of_block' hh]
      rw [← ht] at hj
      have hlt : j < n * k := by
        rcases Nat.lt_or_ge j (n * k) with h' | h'
        · exact h'
        · rw [List.getElem?_eq_none (by rw [List.length_take]; omega)] at hj; cases hj
      rw [List.getElem?_take_of_lt hlt] at hj
      simpa using hj

theorem owns_one (h : w.ownsRow B e k v n xs) : v.oneCell' = true := by
  rcases h.2 with ⟨rfl, _⟩ | ⟨g, cap, cur, rfl, _⟩ <;> rfl

/-- an own slice as a slice that stands for its elements -/
theorem SL_of_owns {es : List (Array Value)} (h : w.ownsRow B e k v n xs) (hk : 0 < k) (hn : es.length = n) (hsz : ∀ x ∈ es, x.size = k) (hb : n * k ≤ 2 ^ 47) (hL : ∀ b, L b → b < B)
    (hc : ∀ i j, i < n → j < k → xs[i * k + j]? = (es.getD i #[])[j]?) : SL L w v k es := by
  obtain ⟨h1, h2⟩ := h
  rcases h2 with ⟨rfl, h0⟩ | ⟨g, cap, cur, rfl, hbg, hh, hcap, _, hcs, htk⟩
  · have : es = [] := List.eq_nil_of_length_eq_zero (hn.trans h0)
    subst this
    exact ⟨⟨none, 0, rfl, Nat.le_refl _, fun h => absurd rfl h⟩, by simp, hk, hsz, fun h => absurd rfl h, fun i j hi => by simp at hi⟩
  · have hlt : g < w.heap.size := by
      rcases Nat.lt_or_ge g w.heap.size with h' | h'
      · exact h'
      · simp [Array.getElem?_eq_none h'] at hh
    refine ⟨⟨some ⟨g, 0, none⟩, cap, by rw [hn], by omega, fun _ => ⟨g, 0, rfl⟩⟩, by rw [hn]; exact hb, hk, hsz, fun _ => ⟨hlt, fun hl => ?_⟩, fun i j hi hj => ?_⟩
    · have := hL g hl; omega
    · have hi' : i < n := by omega
      have hpos : i * k + j < n * k := by
        have : (i + 1) * k ≤ n * k := Nat.mul_le_mul_right k hi'
        rw [Nat.add_mul] at this; omega
      rw [← hc i j hi' hj, ← htk, List.getElem?_take_of_lt hpos]
      simp [elem, World.cell?, hh]
end

/-- a block that has just been made -/
theorem owns_new (u : World) {B k n : Nat} {e : TypeId} {cs : Array Value} (hB : B ≤ u.heap.size) (hn : n ≤ maxLen) (hs : cs.size = n * k) : (u.alloc (.cells cs e)).ownsRow B e k (.slice (some ⟨u.heap.size, 0, none⟩) n n) n cs.toList :=
  ⟨by simpa using hs, .inr ⟨u.heap.size, n, cs, rfl, hB, hp_new rfl, Nat.le_refl _, hn, hs, List.take_of_length_le (by rw [Array.length_toList, hs]; exact Nat.le_refl _)⟩⟩

theorem madeCells_one (z : Value) (n : Nat) : madeCells #[z] n = (List.replicate n z).toArray := by
  apply Array.ext
  · simp [madeCells]
  · intro i h1 h2
    simp [madeCells, Nat.mod_one]

/-- 'make' of so many one-cell elements -/
theorem valG_make {P : Program} {ops : Array Oper} {φ : World → Value → World → Prop} {o : Oper} {a : Act} {u : World} {t e : TypeId} {i : TypeInfo} {z : Value} {x y : Operand} {kl kc : IntKind} (B n bytes : Nat) (ho : o.op = .makeSlice t x y) (hw : Region.wanted o (yielded ops a.tmps) = true)
    (ht : P.underlying t = some (.slice e)) (hi : P.info? e = some i) (hz : i.zero = some z) (hsz : i.size = 1) (hby : i.bytes = bytes) (hzc : z.cells = #[z]) (hx : a.eval x = .int kl (n : Int)) (hy : a.eval y = .int kc (n : Int)) (hb : bytes * n ≤ 281474976710656) (hn : n ≤ maxLen) (hB : B ≤ u.heap.size) :
    valG P ops φ o a u (fun v w' => w'.ownsRow B e 1 v n (List.replicate n z)) := by
  refine valG_want hw ?_
  have hr : (execOp a.eval o).run P u = .ok (.value (.slice (some ⟨u.heap.size, 0, none⟩) n n)) (u.alloc (.cells (List.replicate n z).toArray e)) := by
    unfold execOp
    rw [ho]
    simp only [Sem.run_bind, hx, hy]
    have h63 : (n : Int) ≤ 9223372036854775807 := by simp [maxLen] at hn; omega
    have hbb : (i.bytes : Int) * (n : Int) ≤ 281474976710656 := by
      rw [hby]
      have h : ((bytes * n : Nat) : Int) ≤ 281474976710656 := by omega
      rwa [Int.natCast_mul] at h
    rw [run_make u t e i z ht hi hz kl kc n n (by omega) (Int.le_refl _) hbb h63]
    simp [Result.andThen, Sem.run_pure, hsz, hzc, madeCells_one]
  rw [hr]
  refine ⟨(Grow.refl u).alloc _, ?_⟩
  have := owns_new u (e := e) (cs := (List.replicate n z).toArray) (k := 1) hB hn (by simp)
  simpa using this

/-- an own slice, appended to another own one -/
theorem wpl_append {P : Program} {ops : Array Oper} {Q : Exit → Act → World → Prop} {rest : List Oper} {o : Oper} {a : Act} {u : World} {s x : Operand} {t e : TypeId} {i : TypeInfo} {z v y : Value} {B B2 k bytes n m : Nat} {xs news : List Value}
    (hgd : o.guard = none) (ho : o.op = .call { callee := .builtin .append, args := #[s, x], argTypes := #[t, t] }) (ht : P.underlying t = some (.slice e)) (hi : P.info? e = some i) (hz : i.zero = some z) (hsz : i.size = k) (hby : i.bytes = bytes) (hzc : z.cells.size = k) (hk : 0 < k)
    (hs : a.eval s = v) (hx : a.eval x = y) (hv : u.ownsRow B e k v n xs) (hy : u.ownsRow B2 e k y m news) (hm : 0 < m) (h1 : ∀ c ∈ news, c.oneCell' = true) (hb : (n + m) * bytes ≤ 140737488355328) (h63 : n + m ≤ 140737488355328) (hB : B ≤ u.heap.size)
    (h : ∀ v' w', w'.ownsRow B e k v' (n + m) (xs ++ news) → u.grownBy w' v.ownBlock → wpList P ops Q rest (a.put o.dst v') w') : wpList P ops Q (o :: rest) a u := by
  obtain ⟨g, cap, rfl, _, _, hc⟩ := owns_pos hy hm
  refine wpList_append_own u hgd s x t ho B e i z k bytes ht hi hz hsz hby hzc hk v n xs hs hv ⟨g, 0, none⟩ m cap news hx hy.1 (fun j c hj => ?_) h1 (by unfold maxLen; omega) hb hB (fun v' w' a1 a2 _ => h v' w' a1 a2)
  rw [add_none, Nat.zero_add]; exact hc j c hj

/-- an own slice of things that each stand for something -/
def OwnR {α : Type} (B : Nat) (u : World) (v : Value) (T : TypeId) (k : Nat) (R : Array Value → α → Prop) (l : List α) : Prop :=
  ∃ es : List (Array Value), u.ownsRow B T k v l.length (es.flatMap (·.toList)) ∧ es.length = l.length ∧ (∀ e ∈ es, e.size = k) ∧ ∀ (i : Nat) (e : Array Value) (x : α), es[i]? = some e → l[i]? = some x → R e x

theorem OwnR.nil {α : Type} {B : Nat} {u : World} {T : TypeId} {k : Nat} {R : Array Value → α → Prop} : OwnR B u (.slice none 0 0) T k R [] :=
  ⟨[], ⟨by simp, .inl ⟨rfl, rfl⟩⟩, rfl, fun e he => by simp at he, fun i e x he => by simp at he⟩

theorem flat_get {k : Nat} : ∀ (es : List (Array Value)), (∀ e ∈ es, e.size = k) → ∀ i j, i < es.length → j < k → (es.flatMap (·.toList))[i * k + j]? = (es.getD i #[])[j]?
  | [], _, _, _, hi, _ => by simp at hi
  | e :: es, hs, 0, j, _, hj => by
    have := hs e (by simp)
    simp only [List.flatMap_cons, Nat.zero_mul, Nat.zero_add, List.getD_cons_zero]
    rw [List.getElem?_append_left (by simp; omega)]
    simp
  | e :: es, hs, i + 1, j, hi, hj => by
    have h0 := hs e (by simp)
    simp only [List.flatMap_cons, List.getD_cons_succ]
    rw [List.getElem?_append_right (by simp [Nat.add_mul]; omega)]
    rw [show (i + 1) * k + j - e.toList.length = i * k + j from by simp [Nat.add_mul]; omega]
    exact flat_get es (fun e he => hs e (by simp [he])) i j (by simpa using hi) hj

theorem OwnR.slr {α : Type} {B : Nat} {u : World} {v : Value} {T : TypeId} {k : Nat} {R : Array Value → α → Prop} {R' : World → Array Value → α → Prop} {L : Nat → Prop} {l : List α} (h : OwnR B u v T k R l) (hk : 0 < k) (hb : l.length * k ≤ 2 ^ 47) (hL : ∀ b, L b → b < B) (hR : ∀ e x, x ∈ l → R e x → R' u e x) : SLR L u v k R' l := by
  obtain ⟨es, h1, h2, h3, h4⟩ := h
  exact ⟨es, SL_of_owns h1 hk h2 h3 hb hL (fun i j hi hj => flat_get es h3 i j (by omega) hj), h2, fun i e x he hx => hR e x (List.mem_of_getElem? hx) (h4 i e x he hx)⟩

theorem OwnR.imp {α : Type} {B : Nat} {u u' : World} {v : Value} {T : TypeId} {k : Nat} {R R' : Array Value → α → Prop} {l : List α} (h : OwnR B u v T k R l) (h1 : ∀ xs, u.ownsRow B T k v l.length xs → u'.ownsRow B T k v l.length xs) (hR : ∀ e x, R e x → R' e x) : OwnR B u' v T k R' l := by
  obtain ⟨es, a1, a2, a3, a4⟩ := h
  exact ⟨es, h1 _ a1, a2, a3, fun i e x he hx => hR e x (a4 i e x he hx)⟩

/-- one more element behind -/
theorem OwnR.snoc {α : Type} {B : Nat} {u u' : World} {v v' : Value} {T : TypeId} {k : Nat} {R R' : Array Value → α → Prop} {l : List α} {e : Array Value} {x : α} (h : ∃ es : List (Array Value), u'.ownsRow B T k v' (l.length + 1) (es.flatMap (·.toList) ++ e.toList) ∧ es.length = l.length ∧ (∀ e ∈ es, e.size = k) ∧ ∀ (i : Nat) (e : Array Value) (x : α), es[i]? = some e → l[i]? = some x → R e x)
    (he : e.size = k) (hR : ∀ e x, R e x → R' e x) (hx : R' e x) : OwnR B u' v' T k R' (l ++ [x]) := by
  obtain ⟨es, a1, a2, a3, a4⟩ := h
  refine ⟨es ++ [e], by simpa using a1, by simp [a2], fun y hy => ?_, fun i y z hy hz => ?_⟩
  · simp at hy; rcases hy with hy | rfl
    · exact a3 y hy
    · exact he
  · rcases Nat.lt_or_ge i es.length with hi | hi
    · rw [List.getElem?_append_left hi] at hy
      rw [List.getElem?_append_left (by omega)] at hz
      exact hR _ _ (a4 i y z hy hz)
    · rw [List.getElem?_append_right hi] at hy
      rw [List.getElem?_append_right (by omega)] at hz
      have h0 : i - es.length = 0 := by
        rcases Nat.eq_zero_or_pos (i - es.length) with h | h
        · exact h
        · rw [List.getElem?_eq_none (by simp; omega)] at hy; cases hy
      have h0' : i - l.length = 0 := by omega
      rw [h0] at hy; rw [h0'] at hz
      simp at hy hz
      subst hy; subst hz
      exact hx

/-- the cells of bytes -/
def bytesV (bs : List UInt8) : List Value := bs.map fun b => .int .u8 b.toNat

/-- an own slice of bytes -/
def BytesF (B : Nat) (u : World) (v : Value) (bs : List UInt8) : Prop := u.ownsRow B 5 1 v bs.length (bytesV bs)

theorem BytesF.bytes {B : Nat} {u : World} {v : Value} {bs : List UInt8} {L : Nat → Prop} (h : BytesF B u v bs) (hb : bs.length ≤ 2 ^ 47) (hL : ∀ b, L b → b < B) : Bytes L u v bs := by
  refine SL_of_owns h (by decide) (by simp) (fun x hx => ?_) (by simpa using hb) hL (fun i j hi hj => ?_)
  · simp at hx; obtain ⟨b, _, rfl⟩ := hx; rfl
  · have : j = 0 := by omega
    subst this
    simp [bytesV, List.getD, hi]

/-- own devices -/
def RowE (B : Nat) (u : World) (e : Array Value) (bs : List UInt8) : Prop := ∃ x, e = #[x] ∧ BytesF B u x bs
def WrE (B : Nat) (u : World) (e : Array Value) (x : Wr) : Prop := ∃ y, e = #[.int .i64 x.pos, y] ∧ BytesF B u y x.data
def VolE (B : Nat) (u : World) (e : Array Value) (x : Vol) : Prop := ∃ y, e = #[y, .int .i64 x.synced, .bool x.gone] ∧ BytesF B u y x.data
def RowsF (B : Nat) (u : World) (v : Value) (l : List (List UInt8)) : Prop := OwnR B u v 42 1 (RowE B u) l
def WrsF (B : Nat) (u : World) (v : Value) (l : List Wr) : Prop := OwnR B u v 83 2 (WrE B u) l
def VolsF (B : Nat) (u : World) (v : Value) (l : List Vol) : Prop := OwnR B u v 85 3 (VolE B u) l
structure DevF (B : Nat) (u : World) (vs vc vv : Value) (d : Dev) : Prop where
  safe : RowsF B u vs d.safe
  cache : WrsF B u vc d.cache
  vols : VolsF B u vv d.vols

/-- whatever keeps own slices keeps own devices -/
def Keeps (B : Nat) (u : World) (B' : Nat) (u' : World) : Prop := ∀ (T : TypeId) (k : Nat) (v : Value) (n : Nat) (xs : List Value), u.ownsRow B T k v n xs → u'.ownsRow B' T k v n xs

theorem Keeps.refl {B : Nat} {u : World} : Keeps B u B u := fun _ _ _ _ _ h => h
theorem Keeps.trans {B B' B'' : Nat} {u u' u'' : World} (h : Keeps B u B' u') (k : Keeps B' u' B'' u'') : Keeps B u B'' u'' := fun _ _ _ _ _ x => k _ _ _ _ _ (h _ _ _ _ _ x)
theorem Keeps.grow {B : Nat} {u u' : World} (hg : Grow u u') : Keeps B u B u' := fun _ _ _ _ _ h => owns_grow h hg
theorem Keeps.mono {B B' : Nat} {u : World} (hB : B' ≤ B) : Keeps B u B' u := fun _ _ _ _ _ h => owns_mono h hB
theorem Keeps.set {B : Nat} {u : World} {p : Addr} {x : Value} (hp : p.block < B) : Keeps B u B (u.setCell p x) := fun _ _ _ _ _ h => ownsRow_setCell_below h hp x

theorem RowE.move {B B' : Nat} {u u' : World} (h : Keeps B u B' u') {e : Array Value} {x : List UInt8} (hx : RowE B u e x) : RowE B' u' e x := by
  obtain ⟨y, a, b⟩ := hx; exact ⟨y, a, h _ _ _ _ _ b⟩
theorem WrE.move {B B' : Nat} {u u' : World} (h : Keeps B u B' u') {e : Array Value} {x : Wr} (hx : WrE B u e x) : WrE B' u' e x := by
  obtain ⟨y, a, b⟩ := hx; exact ⟨y, a, h _ _ _ _ _ b⟩
theorem VolE.move {B B' : Nat} {u u' : World} (h : Keeps B u B' u') {e : Array Value} {x : Vol} (hx : VolE B u e x) : VolE B' u' e x := by
  obtain ⟨y, a, b⟩ := hx; exact ⟨y, a, h _ _ _ _ _ b⟩
theorem RowsF.move {B B' : Nat} {u u' : World} (h : Keeps B u B' u') {v : Value} {l : List (List UInt8)} (hr : RowsF B u v l) : RowsF B' u' v l := by
  obtain ⟨es, a1, a2, a3, a4⟩ := hr; exact ⟨es, h _ _ _ _ _ a1, a2, a3, fun i e x he hx => (a4 i e x he hx).move h⟩
theorem WrsF.move {B B' : Nat} {u u' : World} (h : Keeps B u B' u') {v : Value} {l : List Wr} (hr : WrsF B u v l) : WrsF B' u' v l := by
  obtain ⟨es, a1, a2, a3, a4⟩ := hr; exact ⟨es, h _ _ _ _ _ a1, a2, a3, fun i e x he hx => (a4 i e x he hx).move h⟩
theorem VolsF.move {B B' : Nat} {u u' : World} (h : Keeps B u B' u') {v : Value} {l : List Vol} (hr : VolsF B u v l) : VolsF B' u' v l := by
  obtain ⟨es, a1, a2, a3, a4⟩ := hr; exact ⟨es, h _ _ _ _ _ a1, a2, a3, fun i e x he hx => (a4 i e x he hx).move h⟩
theorem DevF.move {B B' : Nat} {u u' : World} (h : Keeps B u B' u') {vs vc vv : Value} {d : Dev} (hr : DevF B u vs vc vv d) : DevF B' u' vs vc vv d := ⟨hr.safe.move h, hr.cache.move h, hr.vols.move h⟩

/-- lengths that a machine can hold -/
structure Dev.small (d : Dev) : Prop where
  safe : d.safe.length ≤ 2 ^ 40
  cache : d.cache.length ≤ 2 ^ 40
  vols : d.vols.length ≤ 2 ^ 40
  rows : ∀ x ∈ d.safe, x.length ≤ 2 ^ 40
  wrs : ∀ x ∈ d.cache, x.data.length ≤ 2 ^ 40
  tapes : ∀ x ∈ d.vols, x.data.length ≤ 2 ^ 40

theorem DevF.devR {B : Nat} {u : World} {vs vc vv : Value} {d : Dev} {L : Nat → Prop} (h : DevF B u vs vc vv d) (hs : d.small) (hL : ∀ b, L b → b < B) : DevP L u vs vc vv d := by
  refine ⟨h.safe.slr (by decide) (by have := hs.safe; omega) hL fun e x hx ⟨y, he, hy⟩ => ⟨y, he, hy.bytes (by have := hs.rows x hx; omega) hL⟩,
    h.cache.slr (by decide) (by have := hs.cache; omega) hL fun e x hx ⟨y, he, hy⟩ => ⟨y, he, hy.bytes (by have := hs.wrs x hx; omega) hL⟩,
    h.vols.slr (by decide) (by have := hs.vols; omega) hL fun e x hx ⟨y, he, hy⟩ => ⟨y, he, hy.bytes (by have := hs.tapes x hx; omega) hL⟩⟩

theorem info_u8 : (Try.prog.info? 5).map (fun i => (i.zero, i.size, i.bytes)) = some (some (.int .u8 0), 1, 1) := by kernel_rfl
theorem info_bytes : (Try.prog.info? 42).map (fun i => (i.zero, i.size, i.bytes)) = some (some (.slice none 0 0), 1, 24) := by kernel_rfl
end Go.Proofs.Ytmkcamfanimdoaa
