/- dev.Get: the sector that was put last. -/
import Derived.Test.YtalhjhmphdgaoaaRgB
import Derived.Test.YtalhjhmphdgaoaaDevE
import Derived.Test.YtalhjhmphdgaoaaBytes
namespace Go.Proofs.Ytalhjhmphdgaoaa
open Go.RowKit Go.Shelf
set_option linter.unusedSimpArgs false
set_option linter.unusedVariables false
attribute [local go_sem] Oper.semAt_some
theorem rep_int {K : KS} {w : World} {n : Int} {x : Value} (h : Rep K w (I n) x) : x = .int .i64 n := by
  cases h with | d h => cases h; rfl
theorem rep_ro {K : KS} {w : World} {r : RV} {x : Value} (h : Rep K w (.d r) x) : RRep K.I w r x := by
  cases h with | d h => exact h
theorem rep_agg {K : KS} {w : World} {cs : List AV} {x : Value} (h : Rep K w (.agg cs) x) : ∃ xs : List Value, x = .agg xs.toArray ∧ cs.length = xs.length ∧ ∀ (i : Nat) (c : AV) (y : Value), cs[i]? = some c → xs[i]? = some y → Rep K w c y := by
  cases h with | agg h1 h2 h3 => exact ⟨_, rfl, h1, h2⟩
theorem rep_geo {K : KS} {w : World} {g : GeoD} {x : Value} (h : Rep K w g.av x) : x = .agg #[.int .i64 g.ring, .int .i64 g.area, .int .i64 g.hot, .int .i64 g.volume, .int .i64 g.volumes] := by
  obtain ⟨xs, rfl, hl, hr⟩ := rep_agg h
  match xs, hl with
  | [a, b, c, d, e], _ =>
    have h0 := rep_int (hr 0 _ _ rfl rfl)
    have h1 := rep_int (hr 1 _ _ rfl rfl)
    have h2 := rep_int (hr 2 _ _ rfl rfl)
    have h3 := rep_int (hr 3 _ _ rfl rfl)
    have h4 := rep_int (hr 4 _ _ rfl rfl)
    subst h0 h1 h2 h3 h4
    rfl
theorem rep_dev {K : KS} {w : World} {d : DevD} {x : Value} (h : Rep K w d.av x) : ∃ a b c : Value, x = .agg #[a, b, c, .int .i64 d.fuel] ∧ RRep K.I w (.ro (d.safe.map secRow)) a ∧ RRep K.I w (.ro (d.cache.map WrD.row)) b ∧ RRep K.I w (.ro (d.vols.map VolD.row)) c := by
  obtain ⟨xs, rfl, hl, hr⟩ := rep_agg h
  match xs, hl with
  | [a, b, c, e], _ =>
    have h3 := rep_int (hr 3 _ _ rfl rfl)
    subst h3
    exact ⟨a, b, c, rfl, rep_ro (hr 0 _ _ rfl rfl), rep_ro (hr 1 _ _ rfl rfl), rep_ro (hr 2 _ _ rfl rfl)⟩
theorem rows_wr {I : Nat → Prop} {w : World} {l : List WrD} {x : Value} (h : RRep I w (.ro (l.map WrD.row)) x) : (∃ a cap, x = .slice a 0 cap ∧ l = []) ∨ ∃ (b o cap : Nat) (f : Nat → Value), x = .slice (some ⟨b, o, none⟩) l.length cap ∧ I b ∧ l.length ≤ 2 ^ 47 ∧ ∀ i, i < l.length → w.cell? ⟨b, o + i * 2, none⟩ = some (.int .i64 l[i]!.pos) ∧ w.cell? ⟨b, o + i * 2 + 1, none⟩ = some (f i) := by
  generalize hr : l.map WrD.row = rows at h
  cases h with
  | nil => left; exact ⟨_, _, rfl, by simpa using hr⟩
  | ro h1 h2 h3 h4 h5 h6 h7 h8 =>
    rename_i b o cap k f
    subst hr
    right
    refine ⟨b, o, cap, fun i => f i 1, by simp, h2, by simpa using h4, fun i hi => ?_⟩
    have hrow : (l.map WrD.row)[i]? = some (WrD.row l[i]!) := by rw [List.getElem?_map, List.getElem?_eq_getElem hi, getElem!_pos l i hi]; rfl
    have hk : k = 2 := (h6 i _ hrow).symm
    subst hk
    have c0 := h7 i 0 _ _ hrow rfl
    have c1 := h7 i 1 _ _ hrow rfl
    have r0 := h8 i 0 _ _ hrow rfl
    have e0 : f i 0 = .int .i64 l[i]!.pos := by
      generalize f i 0 = y at r0
      cases r0; rfl
    rw [e0] at c0
    exact ⟨c0, c1⟩
def lastK (l : List WrD) (pos : Int) : Nat → Option (List UInt8)
  | 0 => none
  | k + 1 => bif l[k]!.pos == pos then some l[k]!.data else lastK l pos k
def getB (d : DevD) (pos : Int) : List UInt8 := (lastK d.cache pos d.cache.length).getD d.safe[pos.toNat]!
def getV (g : GeoD) (d : DevD) (pos : Int) : AV := bif devF g d != 0 then .tup [.d (.ro []), I (devF g d)] else bif decide (pos < 0) || decide (pos ≥ (d.safe.length : Int)) then .tup [.d (.ro []), I 2] else .tup [.d (bytes (getB d pos)), I 0]
theorem old_blk {W : World} {b : Nat} {o : Obj} (h : W.heap[b]? = some o) (o' : Obj) : (W.alloc o').heap[b]? = some o := (Below.heap_alloc W o' b (Array.getElem?_eq_some_iff.1 h).1).trans h
theorem new_blk (W : World) (o : Obj) {b : Nat} (hb : W.heap.size = b) : (W.alloc o).heap[b]? = some o := by rw [← hb]; exact World.alloc_heap_new W o
theorem fin_two (W : World) {n3 n4 : Nat} {v0 v1 : Value} (b3 : Boxed W n3 29 v0) (b4 : Boxed W n4 30 v1) (hne : n3 ≠ n4) (x y : Value) (tmps : Array Value) (h6 : tmps.getD 6 undef = .pointer (some ⟨n3, 0, none⟩)) (h7 : tmps.getD 7 undef = .pointer (some ⟨n4, 0, none⟩)) :
    (results Try.f7 tmps).run Try.prog ((W.setCell ⟨n3, 0, none⟩ x).setCell ⟨n4, 0, none⟩ y) = .ok (.tuple #[x, y]) ((W.setCell ⟨n3, 0, none⟩ x).setCell ⟨n4, 0, none⟩ y) := by
  have c3 := ((Boxed.set x b3).other hne y).cell
  have c4 := (Boxed.set y (b4.other (fun e => hne e.symm) x)).cell
  have hr : Try.f7.results = #[.cell 6 29, .cell 7 30] := by kernel_rfl
  rw [Array.getD_eq_getD_getElem?] at h6 h7
  simp [results, hr, go_sem, h6, h7, c3, c4]
theorem rep_two {I : Nat → Prop} {w : World} {r : RV} {n : Int} {x : Value} (h : RRep I w r x) : Rep (KI I) w (.tup [.d r, AV.d (.v (.int .i64 n))]) (.tuple #[x, .int .i64 n]) := by
  refine Rep.tup (cs := [.d r, AV.d (.v (.int .i64 n))]) (xs := [x, .int .i64 n]) rfl fun i c y hc hy => ?_
  match i, hc, hy with
  | 0, hc, hy => cases hc; cases hy; exact .d h
  | 1, hc, hy => cases hc; cases hy; exact .d (.v rfl)
theorem rows_sec {I : Nat → Prop} {w : World} {l : List (List UInt8)} {x : Value} (h : RRep I w (.ro (l.map secRow)) x) : ∃ a cap, x = .slice a l.length cap ∧ l.length ≤ 2 ^ 47 ∧ ∀ i, i < l.length → ∃ b o y, a = some ⟨b, o, none⟩ ∧ I b ∧ w.cell? ⟨b, o + i, none⟩ = some y := by
  generalize hr : l.map secRow = rows at h
  cases h with
  | nil =>
    have hl : l = [] := by simpa using hr
    subst hl
    exact ⟨_, _, rfl, by simp, fun i hi => absurd hi (Nat.not_lt_zero _)⟩
  | ro h1 h2 h3 h4 h5 h6 h7 h8 =>
    rename_i b o cap k f
    subst hr
    refine ⟨some ⟨b, o, none⟩, cap, by simp, by simpa using h4, fun i hi => ?_⟩
    have hrow : (l.map secRow)[i]? = some (secRow l[i]!) := by rw [List.getElem?_map, List.getElem?_eq_getElem hi, getElem!_pos l i hi]; rfl
    have hk : k = 1 := (h6 i _ hrow).symm
    subst hk
    have c0 := h7 i 0 _ _ hrow rfl
    exact ⟨b, o, f i 0, rfl, h2, by simpa using c0⟩
theorem sec_at {I : Nat → Prop} {w : World} {l : List (List UInt8)} {b o n cap i : Nat} {y : Value} (h : RRep I w (.ro (l.map secRow)) (.slice (some ⟨b, o, none⟩) n cap)) (hi : i < l.length) (hc : w.cell? ⟨b, o + i, none⟩ = some y) : RRep I w (bytes l[i]!) y := by
  generalize hr : l.map secRow = rows at h
  generalize hx : Value.slice (some ⟨b, o, none⟩) n cap = x at h
  cases h with
  | nil =>
    have hl : l = [] := by simpa using hr
    subst hl
    exact absurd hi (Nat.not_lt_zero _)
  | ro h1 h2 h3 h4 h5 h6 h7 h8 =>
    rename_i b' o' cap' k f
    subst hr
    have hrow : (l.map secRow)[i]? = some (secRow l[i]!) := by rw [List.getElem?_map, List.getElem?_eq_getElem hi, getElem!_pos l i hi]; rfl
    have hk : k = 1 := (h6 i _ hrow).symm
    subst hk
    injection hx with e1 e2 e3
    injection e1 with e1
    injection e1 with e1 e4
    subst e1 e4
    have c0 := h7 i 0 _ _ hrow rfl
    have e : y = f i 0 := by
      have : w.cell? ⟨b, o + i, none⟩ = some (f i 0) := by simpa using c0
      rw [hc] at this; exact Option.some.inj this
    rw [e]
    exact h8 i 0 _ _ hrow rfl
theorem wr_at {I : Nat → Prop} {w : World} {l : List WrD} {b o n cap i : Nat} {y : Value} (h : RRep I w (.ro (l.map WrD.row)) (.slice (some ⟨b, o, none⟩) n cap)) (hi : i < l.length) (hc : w.cell? ⟨b, o + i * 2 + 1, none⟩ = some y) : RRep I w (bytes l[i]!.data) y := by
  generalize hr : l.map WrD.row = rows at h
  generalize hx : Value.slice (some ⟨b, o, none⟩) n cap = x at h
  cases h with
  | nil =>
    have hl : l = [] := by simpa using hr
    subst hl
    exact absurd hi (Nat.not_lt_zero _)
  | ro h1 h2 h3 h4 h5 h6 h7 h8 =>
    rename_i b' o' cap' k f
    subst hr
    have hrow : (l.map WrD.row)[i]? = some (WrD.row l[i]!) := by rw [List.getElem?_map, List.getElem?_eq_getElem hi, getElem!_pos l i hi]; rfl
    have hk : k = 2 := (h6 i _ hrow).symm
    subst hk
    injection hx with e1 e2 e3
    injection e1 with e1
    injection e1 with e1 e4
    subst e1 e4
    have c0 := h7 i 1 _ _ hrow rfl
    have e : y = f i 1 := by
      have : w.cell? ⟨b, o + i * 2 + 1, none⟩ = some (f i 1) := c0
      rw [hc] at this; exact Option.some.inj this
    rw [e]
    exact h8 i 1 _ _ hrow rfl
def CellsI (I : Nat → Prop) (w : World) (b : Nat) : Prop := I b ∧ ∃ o, w.heap[b]? = some o ∧ o.isCells = true
theorem RRep.cells {I : Nat → Prop} {w : World} {r : RV} {x : Value} (h : RRep I w r x) : RRep (CellsI I w) w r x := by
  induction h with
  | v h => exact .v h
  | nil => exact .nil
  | ro h1 h2 h3 h4 h5 h6 h7 h8 ih =>
    rename_i rows b o cap k f
    refine .ro h1 ⟨h2, ?_⟩ h3 h4 h5 h6 h7 ih
    match rows, h1 with
    | r :: rs, _ =>
      have hl := h6 0 r rfl
      match r, hl with
      | [], hl => simp at hl; omega
      | c :: cs, hl =>
        have hc := h7 0 0 _ _ rfl rfl
        unfold World.cell? at hc
        cases hb : w.heap[b]? with
        | none => simp [hb] at hc
        | some ob =>
          refine ⟨ob, rfl, ?_⟩
          cases ob <;> simp [hb] at hc ⊢ <;> rfl
theorem rows_wr2 {I : Nat → Prop} {w : World} {l : List WrD} {x : Value} (h : RRep I w (.ro (l.map WrD.row)) x) : ∃ (a : Option Addr) (cap : Nat) (f : Nat → Value), x = .slice a l.length cap ∧ l.length ≤ 2 ^ 47 ∧ (l.length = 0 ∨ ∃ (b o : Nat), a = some ⟨b, o, none⟩ ∧ I b ∧ ∀ i, i < l.length → w.cell? ⟨b, o + i * 2, none⟩ = some (.int .i64 l[i]!.pos) ∧ w.cell? ⟨b, o + i * 2 + 1, none⟩ = some (f i)) := by
  rcases rows_wr h with ⟨a, cap, rfl, rfl⟩ | ⟨b, o, cap, f, rfl, h1, h2, h3⟩
  · exact ⟨a, cap, fun _ => undef, rfl, by simp, .inl rfl⟩
  · exact ⟨_, cap, f, rfl, h2, .inr ⟨b, o, rfl, h1, h3⟩⟩
theorem fin_res {W : World} {n3 n4 : Nat} {x y : Value} (b3 : Boxed W n3 29 x) (b4 : Boxed W n4 30 y) (tmps : Array Value) (h6 : tmps.getD 6 undef = .pointer (some ⟨n3, 0, none⟩)) (h7 : tmps.getD 7 undef = .pointer (some ⟨n4, 0, none⟩)) :
    (results Try.f7 tmps).run Try.prog W = .ok (.tuple #[x, y]) W := by
  have c3 := b3.cell
  have c4 := b4.cell
  have hr : Try.f7.results = #[.cell 6 29, .cell 7 30] := by kernel_rfl
  rw [Array.getD_eq_getD_getElem?] at h6 h7
  simp [results, hr, go_sem, h6, h7, c3, c4]
def CellsOnly (w : World) (I : Nat → Prop) (W : World) : Prop := ∀ b, I b → b < w.heap.size ∨ ∃ o, W.heap[b]? = some o ∧ o.isCells = true
def FinD (n3 n4 : Nat) (args : List AV) (xs : List Value) (w W : World) (r : RV) : Prop := ∃ y, Boxed W n3 29 y ∧ Boxed W n4 30 (.int .i64 0) ∧ Grow w W ∧ ∀ I, RepsI I w args xs → ∃ I', UpI I I' w W ∧ CellsOnly w I' W ∧ RRep I' W r y
theorem FinD.grown {n3 n4 : Nat} {args : List AV} {xs : List Value} {w W W' : World} {r : RV} {row : Option Nat} {B : Nat} (h : FinD n3 n4 args xs w W r) (hg : W.grownBy W' row) (hB : w.heap.size ≤ B) (hr : ∀ k, row = some k → B ≤ k ∧ ∃ o : Obj, W.heap[k]? = some o ∧ o.isCells = false) : FinD n3 n4 args xs w W' r := by
  obtain ⟨y, h3, h4, h5, h6⟩ := h
  have nc : ∀ {n : Nat} {t : TypeId} {v : Value}, Boxed W n t v → some n ≠ row := fun {n t v} hb e => by
    obtain ⟨_, o, ho, hc⟩ := hr n e.symm
    rw [show W.heap[n]? = _ from hb] at ho; cases ho; cases hc
  refine ⟨y, h3.kept hg (nc h3), h4.kept hg (nc h4), Below.grown h5 hg h5.size (fun k e => Nat.le_trans hB (hr k e).1), fun I hI => ?_⟩
  obtain ⟨I', ⟨u1, u2, u3⟩, hc, hR⟩ := h6 I hI
  have key : ∀ b, I' b → W'.heap[b]? = W.heap[b]? := fun b hb => hg.block b (u3 b hb) fun e => by
    obtain ⟨h1, o, ho, hn⟩ := hr b e.symm
    rcases hc b hb with h2 | ⟨o', ho', hc'⟩
    · omega
    · rw [ho] at ho'; cases ho'; rw [hn] at hc'; cases hc'
  refine ⟨I', ⟨u1, u2, fun b hb => Nat.lt_of_lt_of_le (u3 b hb) hg.size⟩, fun b hb => ?_, hR.up (fun _ h => h) ⟨hg.os, hg.tape, hg.output, hg.size, key⟩⟩
  rcases hc b hb with h2 | ⟨o, ho, hcc⟩
  · exact .inl h2
  · exact .inr ⟨o, by rw [key b hb]; exact ho, hcc⟩
theorem fin_clone {n3 n4 : Nat} {args : List AV} {xs : List Value} {w W W3 : World} {r : RV} {v0 v1 y : Value} (hgw : Grow w W) (hg3 : Grow W W3) (b3 : Boxed W n3 29 v0) (b4 : Boxed W n4 30 v1) (hne : n3 ≠ n4) (h3 : w.heap.size ≤ n3) (h4 : w.heap.size ≤ n4)
    (hI : ∀ I, RepsI I w args xs → ∃ I', UpI I I' W W3 ∧ RRep I' W3 r y) : FinD n3 n4 args xs w ((W3.setCell ⟨n3, 0, none⟩ y).setCell ⟨n4, 0, none⟩ (.int .i64 0)) r := by
  have l3 := b3.lt
  have l4 := b4.lt
  have b3' : Boxed W3 n3 29 v0 := (hg3.heap l3).trans b3
  have b4' : Boxed W3 n4 30 v1 := (hg3.heap l4).trans b4
  have g3 := grownBy_setCell' W3 n3 y
  have g4 := grownBy_setCell' (W3.setCell ⟨n3, 0, none⟩ y) n4 (.int .i64 0)
  refine ⟨y, (Boxed.set y b3').other hne _, Boxed.set _ (b4'.other (fun e => hne e.symm) y), ((hgw.trans hg3).setCell h3 _).setCell h4 _, fun I hI0 => ?_⟩
  obtain ⟨I', ⟨u1, u2, u3⟩, hR⟩ := hI I hI0
  have hs := hgw.size
  have hs3 := hg3.size
  have key : ∀ b, b < W3.heap.size → b ≠ n3 → b ≠ n4 → ((W3.setCell ⟨n3, 0, none⟩ y).setCell ⟨n4, 0, none⟩ (.int .i64 0)).heap[b]? = W3.heap[b]? := fun b hb e3 e4 =>
    (g4.block b (Nat.lt_of_lt_of_le hb g3.size) (fun e => e4 (by cases e; rfl))).trans (g3.block b hb (fun e => e3 (by cases e; rfl)))
  have keyI : ∀ b, I' b → ((W3.setCell ⟨n3, 0, none⟩ y).setCell ⟨n4, 0, none⟩ (.int .i64 0)).heap[b]? = W3.heap[b]? := fun b hb => by
    have hlt := u3 b hb
    refine key b hlt ?_ ?_
    · rcases u2 b hb with h | h
      · have := hI0.1 b h; omega
      · omega
    · rcases u2 b hb with h | h
      · have := hI0.1 b h; omega
      · omega
  refine ⟨fun b => I b ∨ CellsI I' W3 b, ⟨fun b hb => .inl hb, fun b hb => ?_, fun b hb => ?_⟩, fun b hb => ?_, hR.cells.up (I' := fun b => I b ∨ CellsI I' W3 b) (w' := (W3.setCell ⟨n3, 0, none⟩ y).setCell ⟨n4, 0, none⟩ (.int .i64 0)) (fun b hb => .inr hb) (show Keep (CellsI I' W3) W3 ((W3.setCell ⟨n3, 0, none⟩ y).setCell ⟨n4, 0, none⟩ (.int .i64 0)) from ⟨rfl, rfl, rfl, Nat.le_trans g3.size g4.size, fun b hb => keyI b hb.1⟩)⟩
  · rcases hb with hb | hb
    · exact .inl hb
    · rcases u2 b hb.1 with h | h
      · exact .inl h
      · exact .inr (by omega)
  · rcases hb with hb | hb
    · have := hI0.1 b hb
      have := g3.size
      have := g4.size
      omega
    · have := u3 b hb.1
      have := g3.size
      have := g4.size
      omega
  · rcases hb with hb | hb
    · exact .inl (hI0.1 b hb)
    · obtain ⟨hb1, o, ho, hc⟩ := hb
      exact .inr ⟨o, by rw [keyI b hb1]; exact ho, hc⟩
theorem FinD.out {n3 n4 : Nat} {args : List AV} {xs : List Value} {w W : World} {r : RV} (h : FinD n3 n4 args xs w W r) (tmps : Array Value) (h6 : tmps.getD 6 undef = .pointer (some ⟨n3, 0, none⟩)) (h7 : tmps.getD 7 undef = .pointer (some ⟨n4, 0, none⟩)) :
    ∃ v, (results Try.f7 tmps).run Try.prog W = .ok v W ∧ ∃ x, Ending.returned v = .returned x ∧ Grow w W ∧ ∀ I, RepsI I w args xs → ∃ I', UpI I I' w W ∧ Rep (KI I') W (.tup [.d r, AV.d (.v (.int .i64 0))]) x := by
  obtain ⟨y, b3, b4, hg, hI⟩ := h
  refine ⟨_, fin_res b3 b4 tmps h6 h7, _, rfl, hg, fun I hI0 => ?_⟩
  obtain ⟨I', u, _, hR⟩ := hI I hI0
  exact ⟨I', u, rep_two hR⟩
theorem rep_dev4 {K : KS} {w : World} {d : DevD} {a b c e : Value} (h : Rep K w d.av (.agg #[a, b, c, e])) : RRep K.I w (.ro (d.safe.map secRow)) a ∧ RRep K.I w (.ro (d.cache.map WrD.row)) b := by
  obtain ⟨a', b', c', he, h1, h2, _⟩ := rep_dev h
  simp at he
  obtain ⟨rfl, rfl, rfl, _⟩ := he
  exact ⟨h1, h2⟩
theorem reps_one {I : Nat → Prop} {w : World} {r : RV} {x : Value} (hI : ∀ b, I b → b < w.heap.size) (h : RRep I w r x) : RepsI I w [.d r] [x] := ⟨hI, rfl, fun i c y hc hy => by
  match i, hc, hy with
  | 0, hc, hy => cases hc; cases hy; exact .d h⟩
theorem keeps_grow {B : Nat} {W W' : World} (h : Grow W W') : KeepsFrom B W W' := ⟨h.size, fun k o _ hk _ => (h.heap (Array.getElem?_eq_some_iff.1 hk).1).trans hk⟩
theorem bytes_slice {I : Nat → Prop} {w : World} {l : List UInt8} {x : Value} (h : RRep I w (bytes l) x) : ∃ a n c, x = .slice a n c := by
  unfold bytes at h
  generalize l.map by_ = rows at h
  cases h with
  | nil => exact ⟨_, _, _, rfl⟩
  | ro h1 h2 h3 h4 h5 h6 h7 h8 => exact ⟨_, _, _, rfl⟩
theorem lastK_hit {l : List WrD} {pos : Int} {i : Nat} : ∀ {n : Nat}, i < n → (l[i]!.pos == pos) = true → (∀ j, i < j → j < n → (l[j]!.pos == pos) = false) → lastK l pos n = some l[i]!.data
  | 0, hi, _, _ => absurd hi (Nat.not_lt_zero _)
  | n + 1, hi, hm, hno => by
    rcases Nat.lt_or_eq_of_le (Nat.le_of_lt_succ hi) with h | h
    · have e : lastK l pos (n + 1) = lastK l pos n := by
        show cond _ _ _ = _
        rw [hno n h (by omega)]; rfl
      rw [e]
      exact lastK_hit h hm fun j h1 h2 => hno j h1 (by omega)
    · subst h
      show cond _ _ _ = _
      rw [hm]; rfl
theorem lastK_miss {l : List WrD} {pos : Int} : ∀ {n : Nat}, (∀ j, j < n → (l[j]!.pos == pos) = false) → lastK l pos n = none
  | 0, _ => rfl
  | n + 1, h => by
    show cond _ _ _ = _
    rw [h n (by omega)]
    exact lastK_miss fun j hj => h j (by omega)
theorem downto_mem {n k j : Nat} (h1 : n - k ≤ j) (h2 : j < n) : j ∈ downto n k := by
  unfold downto
  rw [List.mem_map]
  exact ⟨n - 1 - j, List.mem_range.2 (by omega), by omega⟩
theorem getB_hit {d : DevD} {pos : Int} {p : List (Below1 d.cache.length)} {x : Below1 d.cache.length} {k : Nat} (hk : k ≤ d.cache.length) (hmap : (p ++ [x]).map (·.1) = downto d.cache.length k) (hz : ∀ z ∈ p, (d.cache[z.1]!.pos == pos) = false) (hx : (d.cache[x.1]!.pos == pos) = true) : getB d pos = d.cache[x.1]!.data := by
  match k, hmap, hk with
  | 0, hmap, _ => simp [downto] at hmap
  | k + 1, hmap, hk =>
    rw [downto_succ, List.map_append] at hmap
    obtain ⟨h1, h2⟩ := List.append_inj' hmap rfl
    have hx1 : x.1 = d.cache.length - 1 - k := by simpa using h2
    unfold getB
    rw [lastK_hit x.2 hx fun j hj1 hj2 => ?_]
    · rfl
    · have hm : j ∈ downto d.cache.length k := downto_mem (by omega) hj2
      rw [← h1, List.mem_map] at hm
      obtain ⟨z, hz1, rfl⟩ := hm
      exact hz z hz1
theorem getB_miss {d : DevD} {pos : Int} {p : List (Below1 d.cache.length)} (hmap : p.map (·.1) = downto d.cache.length d.cache.length) (hz : ∀ z ∈ p, (d.cache[z.1]!.pos == pos) = false) : getB d pos = d.safe[pos.toNat]! := by
  unfold getB
  rw [lastK_miss fun j hj => ?_]
  · rfl
  · have hm : j ∈ downto d.cache.length d.cache.length := downto_mem (by omega) hj
    rw [← hmap, List.mem_map] at hm
    obtain ⟨z, hz1, rfl⟩ := hm
    exact hz z hz1
set_option maxRecDepth 100000 in
set_option maxHeartbeats 4000000 in
theorem get_g (g : GeoD) (d : DevD) (pos : Int) : PureG Try.prog 7 [g.av, d.av, I pos] (getV g d pos) := fun xs w ⟨I0, h0⟩ => by
  obtain ⟨hI0, hl, hr⟩ := id h0
  match xs, hl with
  | [vg, vd, vp], _ =>
    have e0 := rep_geo (hr 0 _ _ rfl rfl)
    obtain ⟨x0, x1, x2, e1, r0, r1, r2⟩ := rep_dev (hr 1 _ _ rfl rfl)
    have e2 := rep_int (hr 2 _ _ rfl rfl)
    subst e0 e1 e2
    obtain ⟨a0, cap0, rfl, hl0, hc0⟩ := rows_sec r0
    obtain ⟨a1, cap1, f1, rfl, hl1, hc1⟩ := rows_wr2 r1
    obtain ⟨pz, hpz⟩ : ∃ pz : Nat → Int, ∀ i, d.cache[i]!.pos = pz i := ⟨fun i => d.cache[i]!.pos, fun _ => rfl⟩
    simp only [hpz] at hc1
    have hput : ∀ i, i < d.cache.length → ∀ I, RepsI I w [g.av, d.av, AV.d (RV.v (.int .i64 pos))] [.agg #[.int .i64 g.ring, .int .i64 g.area, .int .i64 g.hot, .int .i64 g.volume, .int .i64 g.volumes], .agg #[.slice a0 d.safe.length cap0, .slice a1 d.cache.length cap1, x2, .int .i64 d.fuel], .int .i64 pos] → RRep I w (bytes d.cache[i]!.data) (f1 i) := fun i hi I hI => by
      have hB := (rep_dev4 (hI.2.2 1 _ _ rfl rfl)).2
      rcases hc1 with h | ⟨b, o, ha1, hb, hc⟩
      · omega
      · rw [ha1] at hB
        exact wr_at hB hi (hc i hi).2
    have hsafe : ∀ i, i < d.safe.length → ∃ b o y, a0 = some ⟨b, o, none⟩ ∧ b < w.heap.size ∧ w.cell? ⟨b, o + i, none⟩ = some y ∧ ∀ I, RepsI I w [g.av, d.av, AV.d (RV.v (.int .i64 pos))] [.agg #[.int .i64 g.ring, .int .i64 g.area, .int .i64 g.hot, .int .i64 g.volume, .int .i64 g.volumes], .agg #[.slice a0 d.safe.length cap0, .slice a1 d.cache.length cap1, x2, .int .i64 d.fuel], .int .i64 pos] → RRep I w (bytes d.safe[i]!) y := fun i hi => by
      obtain ⟨b, o, y, ha0, hb, hc⟩ := hc0 i hi
      refine ⟨b, o, y, ha0, hI0 b hb, hc, fun I hI => ?_⟩
      have hA := (rep_dev4 (hI.2.2 1 _ _ rfl rfl)).1
      rw [ha0] at hA
      exact sec_at hA hi hc
    have hck : PureG Try.prog 20 [g.av, d.av] (I (devF g d)) := (check_p g d).g rfl (by intro c hc; simp at hc; rcases hc with rfl | rfl <;> rfl)
    unfold getV
    generalize devF g d = er at hck ⊢
    have hargs : RepsI I0 w [g.av, d.av] [.agg #[.int .i64 g.ring, .int .i64 g.area, .int .i64 g.hot, .int .i64 g.volume, .int .i64 g.volumes], .agg #[.slice a0 d.safe.length cap0, .slice a1 d.cache.length cap1, x2, .int .i64 d.fuel]] := ⟨hI0, rfl, fun i c x hc hx => by
      match i, hc, hx with
      | 0, hc, hx => exact hr 0 c x hc hx
      | 1, hc, hx => exact hr 1 c x hc hx⟩
    refine (callsIn_wide (n := 6)).1 ?_
    refine callsIn_of_wp_marks Try.func7 rfl trivial ?_ rfl
    simp only [Try.ntmps7, List.size_toArray, List.length_cons, List.length_nil, Nat.reduceAdd, Nat.reduceSub, Array.replicate_succ, Array.replicate_zero, List.push_toArray, List.append_toArray, List.nil_append, List.cons_append]
    gi_wp2
    obtain ⟨W1, hW1⟩ : ∃ W1, (((((w.alloc (Obj.cells #[Value.int IntKind.i64 g.ring, Value.int IntKind.i64 g.area, Value.int IntKind.i64 g.hot, Value.int IntKind.i64 g.volume, Value.int IntKind.i64 g.volumes] 23)).alloc (Obj.cells #[.slice a0 d.safe.length cap0, .slice a1 d.cache.length cap1, x2, Value.int IntKind.i64 d.fuel] 28)).alloc (Obj.cells #[Value.int IntKind.i64 pos] 3)).alloc (Obj.cells #[Value.slice none 0 0] 29)).alloc (Obj.cells #[Value.int IntKind.i64 0] 30)) = W1 := ⟨_, rfl⟩
    rw [hW1]
    have hg1 : Grow w W1 := by rw [← hW1]; exact ((((((Grow.refl w).alloc _).alloc _).alloc _).alloc _).alloc _)
    have hs1 : W1.heap.size = w.heap.size + 5 := by rw [← hW1]; simp [World.size_alloc]
    have b1 : W1.heap[w.heap.size + 1]? = some (.cells #[.slice a0 d.safe.length cap0, .slice a1 d.cache.length cap1, x2, Value.int IntKind.i64 d.fuel] 28 (0, 0)) := by rw [← hW1]; exact old_blk (old_blk (old_blk (new_blk _ _ (by simp only [World.size_alloc])) _) _) _
    have b2 : W1.heap[w.heap.size + 1 + 1]? = some (.cells #[Value.int IntKind.i64 pos] 3 (0, 0)) := by rw [← hW1]; exact old_blk (old_blk (new_blk _ _ (by simp only [World.size_alloc])) _) _
    have b3 : W1.heap[w.heap.size + 1 + 1 + 1]? = some (.cells #[Value.slice none 0 0] 29 (0, 0)) := by rw [← hW1]; exact old_blk (new_blk _ _ (by simp only [World.size_alloc])) _
    have b4 : W1.heap[w.heap.size + 1 + 1 + 1 + 1]? = some (.cells #[Value.int IntKind.i64 0] 30 (0, 0)) := by rw [← hW1]; exact new_blk _ _ (by simp only [World.size_alloc])
    clear hW1
    refine ⟨trivial, (callsIn_wide.2 (hck [_, _] _ ⟨I0, hargs.grow hg1⟩)).mono ?_⟩
    rintro e W2 ⟨v, rfl, hg2, hI2⟩
    obtain ⟨I2, _, hv⟩ := hI2 I0 (hargs.grow hg1)
    have hv := rep_int hv
    subst hv
    have hgw : Grow w W2 := hg1.trans hg2
    rw [← hg2.heap (by omega)] at b1 b2 b3 b4
    have hs2 := hg2.size
    clear hg1 hg2 hI2
    have c10 : W2.cell? ⟨w.heap.size + 1, 0, none⟩ = some (.slice a0 d.safe.length cap0) := by simp [World.cell?, b1]
    have c11 : W2.cell? ⟨w.heap.size + 1, 1, none⟩ = some (.slice a1 d.cache.length cap1) := by simp [World.cell?, b1]
    have c12 : W2.cell? ⟨w.heap.size + 1, 2, none⟩ = some x2 := by simp [World.cell?, b1]
    have c13 : W2.cell? ⟨w.heap.size + 1, 3, none⟩ = some (.int .i64 d.fuel) := by simp [World.cell?, b1]
    have c20 : W2.cell? ⟨w.heap.size + 1 + 1, 0, none⟩ = some (.int .i64 pos) := by simp [World.cell?, b2]
    have c30 : W2.cell? ⟨w.heap.size + 1 + 1 + 1, 0, none⟩ = some (.slice none 0 0) := by simp [World.cell?, b3]
    have c40 : W2.cell? ⟨w.heap.size + 1 + 1 + 1 + 1, 0, none⟩ = some (.int .i64 0) := by simp [World.cell?, b4]
    have f3 : W2.frozen? ⟨w.heap.size + 1 + 1 + 1, 0, none⟩ = false := by simp [World.frozen?, b3]
    have f4 : W2.frozen? ⟨w.heap.size + 1 + 1 + 1 + 1, 0, none⟩ = false := by simp [World.frozen?, b4]
    by_cases he : er = 0
    case neg =>
      have he2 : (er != 0) = true := by simpa using he
      gi_wp2
      refine ⟨_, fin_two W2 b3 b4 (by omega) _ _ _ rfl rfl, _, rfl, (hgw.setCell (by simp; omega) _).setCell (by simp; omega) _, fun I hI => ⟨I, ⟨fun _ h => h, fun _ h => .inl h, fun b hb => ?_⟩, ?_⟩⟩
      · have := hI.1 b hb; simp; omega
      · rw [he2]; exact rep_two .nil
    case pos =>
      subst he
      have bad : ∀ (I : Nat → Prop), RepsI I w [g.av, d.av, AV.d (RV.v (.int .i64 pos))] [.agg #[.int .i64 g.ring, .int .i64 g.area, .int .i64 g.hot, .int .i64 g.volume, .int .i64 g.volumes], .agg #[.slice a0 d.safe.length cap0, .slice a1 d.cache.length cap1, x2, .int .i64 d.fuel], .int .i64 pos] → ∃ I', UpI I I' w ((W2.setCell ⟨w.heap.size + 1 + 1 + 1, 0, none⟩ (Value.slice none 0 0)).setCell ⟨w.heap.size + 1 + 1 + 1 + 1, 0, none⟩ (.int .i64 2)) ∧ Rep (KI I') ((W2.setCell ⟨w.heap.size + 1 + 1 + 1, 0, none⟩ (Value.slice none 0 0)).setCell ⟨w.heap.size + 1 + 1 + 1 + 1, 0, none⟩ (.int .i64 2)) (.tup [.d (.ro []), AV.d (.v (.int .i64 2))]) (.tuple #[Value.slice none 0 0, .int .i64 2]) := fun I hI => ⟨I, ⟨fun _ h => h, fun _ h => .inl h, fun b hb => by have := hI.1 b hb; simp; omega⟩, rep_two .nil⟩
      rcases Decidable.em (pos < 0) with hneg | hneg
      · have d1 : decide (pos < 0) = true := by simpa using hneg
        gi_wp2
        refine ⟨_, fin_two W2 b3 b4 (by omega) _ _ _ rfl rfl, _, rfl, (hgw.setCell (by simp; omega) _).setCell (by simp; omega) _, ?_⟩
        simpa only [bne_self_eq_false, d1, Bool.true_or, cond_false, cond_true] using bad
      · have d1 : decide (pos < 0) = false := by simpa using hneg
        rcases Decidable.em (pos ≥ (d.safe.length : Int)) with hge | hge
        · have d2 : decide (pos ≥ (d.safe.length : Int)) = true := by simpa using hge
          gi_wp2
          refine ⟨_, fin_two W2 b3 b4 (by omega) _ _ _ rfl rfl, _, rfl, (hgw.setCell (by simp; omega) _).setCell (by simp; omega) _, ?_⟩
          simpa only [bne_self_eq_false, d1, d2, Bool.false_or, cond_false, cond_true] using bad
        · have d2 : decide (pos ≥ (d.safe.length : Int)) = false := by simpa using hge
          clear bad
          gi_wp2_with (refine ⟨trivial, ?_⟩; gi_at_call 21; refine (back_in _ _ trivial rfl _ _ _ _).mono ?_; rintro e w' ⟨rfl, rfl⟩)
          have hcl : ∀ l : List UInt8, PureG Try.prog 22 [.d (bytes l)] (.d (bytes l)) := fun l => (clone_p l).g rfl (by intro c hc; simp at hc; rw [hc]; rfl)
          have hs5 : (W2.alloc (.cells #[.slice a1 d.cache.length cap1] 25)).heap.size = W2.heap.size + 1 := World.size_alloc _ _
          have hg5 : Grow W2 (W2.alloc (.cells #[.slice a1 d.cache.length cap1] 25)) := (Grow.refl W2).alloc _
          have hbx := new_blk W2 (.cells #[.slice a1 d.cache.length cap1] 25) (b := W2.heap.size) rfl
          obtain ⟨W5, hW5⟩ : ∃ W5, W2.alloc (.cells #[.slice a1 d.cache.length cap1] 25) = W5 := ⟨_, rfl⟩
          rw [hW5] at hs5 hg5 hbx ⊢
          clear hW5
          have hgw5 := hgw.trans hg5
          refine wpIn_rangeFunc_ownH (α := Below1 d.cache.length) rfl (by decide) (gf := 53) (lb := #[.pointer (some ⟨W2.heap.size, 0, none⟩)]) rfl trivial (enters_of Try.func53 (by kernel_rfl) rfl)
            (back_stops Fence.wide 5 trivial rfl (by decide) W2.heap.size W5.heap.size (.slice a1 d.cache.length cap1) d.cache.length (fun i => .int .i64 (pz i)) f1 W5 (by omega) (by omega) (Nat.le_refl _) (by simp [World.cell?, hbx]) ?hI5) belowK_t (belowK_b (Nat.le_refl _)) (Below.refl _ _) (fun _ => rfl)
            (fun pre W => (∀ x ∈ pre, (pz x.1 == pos) = false) ∧ Below W5.heap.size W5 W)
            (fun c pre W => (c = .ret ∧ ∃ p x, pre = p ++ [x] ∧ (∀ z ∈ p, (pz z.1 == pos) = false) ∧ (pz x.1 == pos) = true ∧ FinD (w.heap.size + 1 + 1 + 1) (w.heap.size + 1 + 1 + 1 + 1) [g.av, d.av, AV.d (RV.v (.int .i64 pos))] [.agg #[.int .i64 g.ring, .int .i64 g.area, .int .i64 g.hot, .int .i64 g.volume, .int .i64 g.volumes], .agg #[.slice a0 d.safe.length cap0, .slice a1 d.cache.length cap1, x2, .int .i64 d.fuel], .int .i64 pos] w W (bytes d.cache[x.1]!.data)))
            (OwnFrom.and (ownFrom_pure _ _) (ownFrom_below (Nat.le_refl _) (Nat.le_refl _)))
            (fun c s X Y row hs hg hr => by
              obtain ⟨hc, p, x, h1, h2, h3, h4⟩ := hs
              exact ⟨hc, p, x, h1, h2, h3, h4.grown hg (B := W5.heap.size) (by omega) hr⟩)
            ⟨fun x hx => absurd hx (List.not_mem_nil), Below.refl _ _⟩
            (fun x a' W => ∃ Bx, W5.heap.size ≤ Bx ∧ W.heap[Bx]? = some (.cells #[.int .i64 (pz x.1), f1 x.1] 55 (0, 0)) ∧ a' = { tmps := #[Value.agg #[.int .i64 g.ring, .int .i64 g.area, .int .i64 g.hot, .int .i64 g.volume, .int .i64 g.volumes], Value.agg #[.slice a0 d.safe.length cap0, .slice a1 d.cache.length cap1, x2, .int .i64 d.fuel], Value.int .i64 pos, Value.pointer (some ⟨w.heap.size, 0, none⟩), Value.pointer (some ⟨w.heap.size + 1, 0, none⟩), Value.pointer (some ⟨w.heap.size + 1 + 1, 0, none⟩), Value.pointer (some ⟨w.heap.size + 1 + 1 + 1, 0, none⟩), Value.pointer (some ⟨w.heap.size + 1 + 1 + 1 + 1, 0, none⟩), Value.int .i64 0, undef, Value.pointer (some ⟨Bx, 0, none⟩), Value.agg #[.int .i64 g.ring, .int .i64 g.area, .int .i64 g.hot, .int .i64 g.volume, .int .i64 g.volumes], Value.agg #[.slice a0 d.safe.length cap0, .slice a1 d.cache.length cap1, x2, .int .i64 d.fuel], Value.int .i64 0, Value.int .i64 0, Value.bool false, undef, Value.int .i64 pos, Value.bool false, Value.bool false, Value.int .i64 pos, Value.pointer (some ⟨w.heap.size + 1, 0, none⟩), Value.slice a0 d.safe.length cap0, Value.int .i64 (d.safe.length : Int), Value.bool false, Value.bool false, Value.pointer (some ⟨w.heap.size + 1, 1, none⟩), Value.slice a1 d.cache.length cap1, Value.func (Fn.func 53) #[] #[Value.pointer (some ⟨W2.heap.size, 0, none⟩)], Value.int .i64 (x.1 : Int), Value.agg #[.int .i64 (pz x.1), f1 x.1], undef, undef, undef, undef, undef, undef, undef, undef, undef, undef, undef, undef, undef], defers := [] }) ?hAx ?assign ?body ?done ?stop
          case hI5 =>
            rcases hc1 with h | ⟨b, o, rfl, hb, hc⟩
            · exact .inl ⟨_, _, by rw [h], h⟩
            · have hbw := hI0 b hb
              have hgx := hgw5.size
              exact .inr ⟨b, o, _, rfl, by omega, hl1, fun j hj => ⟨(hgw5.cell (p := ⟨b, o + j * 2, none⟩) hbw).trans (hc j hj).1, (hgw5.cell (p := ⟨b, o + j * 2 + 1, none⟩) hbw).trans (hc j hj).2⟩⟩
          case hAx =>
            intro x a' _ X Y row ⟨Bx, h1, h2, h3⟩ hg hr
            refine ⟨Bx, h1, (hg.block Bx (Array.getElem?_eq_some_iff.1 h2).1 fun e => ?_).trans h2, h3⟩
            obtain ⟨_, o, ho, hc⟩ := hr Bx e.symm
            rw [h2] at ho; cases ho; cases hc
          case assign =>
            rintro l pre x W K ⟨h1, h2⟩ hK
            obtain ⟨fa, fl, fc, hf⟩ := bytes_slice (hput x.1 x.2 I0 h0)
            simp only [hf] at hK ⊢
            gi_wp2
            exact hK _ _ ((KeepsOthers.alloc _ _).from _) ((Below.refl _ W).alloc h2.size _) ⟨h1, h2.alloc h2.size _⟩ ⟨W.heap.size, h2.size, new_blk _ _ rfl, rfl⟩
          case body =>
            rintro l pre x a' W hl ⟨r, hr⟩ ⟨hpre, hB⟩ ⟨Bx, hBx, hbx, rfl⟩ hlt
            have hs6 := hB.size
            have e2 : W.heap[w.heap.size + 1 + 1]? = some (.cells #[Value.int IntKind.i64 pos] 3 (0, 0)) := (hB.block _ (by omega)).trans ((hg5.heap (by omega)).trans b2)
            have e3 : W.heap[w.heap.size + 1 + 1 + 1]? = some (.cells #[Value.slice none 0 0] 29 (0, 0)) := (hB.block _ (by omega)).trans ((hg5.heap (by omega)).trans b3)
            have e4 : W.heap[w.heap.size + 1 + 1 + 1 + 1]? = some (.cells #[Value.int IntKind.i64 0] 30 (0, 0)) := (hB.block _ (by omega)).trans ((hg5.heap (by omega)).trans b4)
            have q2 : W.cell? ⟨w.heap.size + 1 + 1, 0, none⟩ = some (.int .i64 pos) := by simp [World.cell?, e2]
            have q3 : W.cell? ⟨w.heap.size + 1 + 1 + 1, 0, none⟩ = some (.slice none 0 0) := by simp [World.cell?, e3]
            have q4 : W.cell? ⟨w.heap.size + 1 + 1 + 1 + 1, 0, none⟩ = some (.int .i64 0) := by simp [World.cell?, e4]
            have y3 : W.frozen? ⟨w.heap.size + 1 + 1 + 1, 0, none⟩ = false := by simp [World.frozen?, e3]
            have y4 : W.frozen? ⟨w.heap.size + 1 + 1 + 1 + 1, 0, none⟩ = false := by simp [World.frozen?, e4]
            have qx0 : W.cell? ⟨Bx, 0, none⟩ = some (.int .i64 (pz x.1)) := by simp [World.cell?, hbx]
            have qx1 : W.cell? ⟨Bx, 1, none⟩ = some (f1 x.1) := by simp [World.cell?, hbx]
            by_cases hm : (pz x.1) = pos
            case neg =>
              have hm2 : (pz x.1 == pos) = false := by simpa using hm
              gi_wp2
              exact ⟨KeepsFrom.refl _ _, Below.refl _ _, fun z hz => by
                rcases List.mem_append.1 hz with h | h
                · exact hpre z h
                · rw [List.mem_singleton.1 h]; exact hm2, hB⟩
            case pos =>
              have hm2 : (pz x.1 == pos) = true := by simpa using hm
              have hgW : Grow w W := hgw5.trans hB
              have hR0 := reps_one (fun b hb => Nat.lt_of_lt_of_le (hI0 b hb) hgW.size) ((hput x.1 x.2 I0 h0).up (fun _ h => h) (Keep.of_grow hgW hI0))
              gi_wp2
              refine ⟨trivial, (CallsIn.inRound l (callsIn_wide.2 (hcl d.cache[x.1]!.data [f1 x.1] W ⟨I0, hR0⟩))).mono ?_⟩
              rintro e W3 ⟨y, rfl, hg3, hI3⟩
              have z3 : W3.heap[w.heap.size + 1 + 1 + 1]? = some (.cells #[Value.slice none 0 0] 29 (0, 0)) := (hg3.heap (by omega)).trans e3
              have z4 : W3.heap[w.heap.size + 1 + 1 + 1 + 1]? = some (.cells #[Value.int IntKind.i64 0] 30 (0, 0)) := (hg3.heap (by omega)).trans e4
              have u3 : W3.cell? ⟨w.heap.size + 1 + 1 + 1, 0, none⟩ = some (.slice none 0 0) := by simp [World.cell?, z3]
              have u4 : W3.cell? ⟨w.heap.size + 1 + 1 + 1 + 1, 0, none⟩ = some (.int .i64 0) := by simp [World.cell?, z4]
              have v3 : W3.frozen? ⟨w.heap.size + 1 + 1 + 1, 0, none⟩ = false := by simp [World.frozen?, z3]
              have v4 : W3.frozen? ⟨w.heap.size + 1 + 1 + 1 + 1, 0, none⟩ = false := by simp [World.frozen?, z4]
              have hfin : FinD (w.heap.size + 1 + 1 + 1) (w.heap.size + 1 + 1 + 1 + 1) [g.av, d.av, AV.d (RV.v (.int .i64 pos))] [.agg #[.int .i64 g.ring, .int .i64 g.area, .int .i64 g.hot, .int .i64 g.volume, .int .i64 g.volumes], .agg #[.slice a0 d.safe.length cap0, .slice a1 d.cache.length cap1, x2, .int .i64 d.fuel], .int .i64 pos] w ((W3.setCell ⟨w.heap.size + 1 + 1 + 1, 0, none⟩ y).setCell ⟨w.heap.size + 1 + 1 + 1 + 1, 0, none⟩ (.int .i64 0)) (bytes d.cache[x.1]!.data) :=
                fin_clone hgW hg3 e3 e4 (by omega) (by omega) (by omega) fun I hI => by
                  obtain ⟨I', u, hR⟩ := hI3 I (reps_one (fun b hb => Nat.lt_of_lt_of_le (hI.1 b hb) hgW.size) ((hput x.1 x.2 I hI).up (fun _ h => h) (Keep.of_grow hgW hI.1)))
                  exact ⟨I', u, rep_ro hR⟩
              have hone : ∃ a n c, y = .slice a n c := by
                obtain ⟨I', u, hR⟩ := hI3 I0 hR0
                exact bytes_slice (rep_ro hR)
              obtain ⟨ya, yn, yc, rfl⟩ := hone
              gi_wp2
              exact ⟨((keeps_grow hg3).trans ((KeepsOthers.setCell _ _ _).from _)).trans ((KeepsOthers.setCell _ _ _).from _), rfl, pre, x, rfl, hpre, hm2, hfin⟩
          case done =>
            rintro D ys W hD hS ⟨hall, hB⟩ hK
            have hs6 := hB.size
            have hgW : Grow w W := hgw5.trans hB
            have e1 : W.heap[w.heap.size + 1]? = some (.cells #[.slice a0 d.safe.length cap0, .slice a1 d.cache.length cap1, x2, Value.int IntKind.i64 d.fuel] 28 (0, 0)) := (hB.block _ (by omega)).trans ((hg5.heap (by omega)).trans b1)
            have e2 : W.heap[w.heap.size + 1 + 1]? = some (.cells #[Value.int IntKind.i64 pos] 3 (0, 0)) := (hB.block _ (by omega)).trans ((hg5.heap (by omega)).trans b2)
            have e3 : W.heap[w.heap.size + 1 + 1 + 1]? = some (.cells #[Value.slice none 0 0] 29 (0, 0)) := (hB.block _ (by omega)).trans ((hg5.heap (by omega)).trans b3)
            have e4 : W.heap[w.heap.size + 1 + 1 + 1 + 1]? = some (.cells #[Value.int IntKind.i64 0] 30 (0, 0)) := (hB.block _ (by omega)).trans ((hg5.heap (by omega)).trans b4)
            obtain ⟨b, o, y, ha0, hb, hc, hsec⟩ := hsafe pos.toNat (by omega)
            have q1 : W.cell? ⟨w.heap.size + 1, 0, none⟩ = some (.slice (some ⟨b, o, none⟩) d.safe.length cap0) := by simp [World.cell?, e1, ha0]
            have q2 : W.cell? ⟨w.heap.size + 1 + 1, 0, none⟩ = some (.int .i64 pos) := by simp [World.cell?, e2]
            have qy : W.cell? ⟨b, o + pos.toNat, none⟩ = some y := (hgW.cell (p := ⟨b, o + pos.toNat, none⟩) hb).trans hc
            have hp0 : 0 ≤ pos := by omega
            have hp1 : pos < (d.safe.length : Int) := by omega
            have hR0 := reps_one (fun b hb => Nat.lt_of_lt_of_le (hI0 b hb) hgW.size) ((hsec I0 h0).up (fun _ h => h) (Keep.of_grow hgW hI0))
            gi_wp2
            refine ⟨trivial, (callsIn_wide.2 (hcl d.safe[pos.toNat]! [y] W ⟨I0, hR0⟩)).mono ?_⟩
            rintro e W3 ⟨z, rfl, hg3, hI3⟩
            have z3 : W3.heap[w.heap.size + 1 + 1 + 1]? = some (.cells #[Value.slice none 0 0] 29 (0, 0)) := (hg3.heap (by omega)).trans e3
            have z4 : W3.heap[w.heap.size + 1 + 1 + 1 + 1]? = some (.cells #[Value.int IntKind.i64 0] 30 (0, 0)) := (hg3.heap (by omega)).trans e4
            have u3 : W3.cell? ⟨w.heap.size + 1 + 1 + 1, 0, none⟩ = some (.slice none 0 0) := by simp [World.cell?, z3]
            have u4 : W3.cell? ⟨w.heap.size + 1 + 1 + 1 + 1, 0, none⟩ = some (.int .i64 0) := by simp [World.cell?, z4]
            have v3 : W3.frozen? ⟨w.heap.size + 1 + 1 + 1, 0, none⟩ = false := by simp [World.frozen?, z3]
            have v4 : W3.frozen? ⟨w.heap.size + 1 + 1 + 1 + 1, 0, none⟩ = false := by simp [World.frozen?, z4]
            have hfin : FinD (w.heap.size + 1 + 1 + 1) (w.heap.size + 1 + 1 + 1 + 1) [g.av, d.av, AV.d (RV.v (.int .i64 pos))] [.agg #[.int .i64 g.ring, .int .i64 g.area, .int .i64 g.hot, .int .i64 g.volume, .int .i64 g.volumes], .agg #[.slice a0 d.safe.length cap0, .slice a1 d.cache.length cap1, x2, .int .i64 d.fuel], .int .i64 pos] w ((W3.setCell ⟨w.heap.size + 1 + 1 + 1, 0, none⟩ z).setCell ⟨w.heap.size + 1 + 1 + 1 + 1, 0, none⟩ (.int .i64 0)) (bytes d.safe[pos.toNat]!) :=
              fin_clone hgW hg3 e3 e4 (by omega) (by omega) (by omega) fun I hI => by
                obtain ⟨I', u, hR⟩ := hI3 I (reps_one (fun b hb => Nat.lt_of_lt_of_le (hI.1 b hb) hgW.size) ((hsec I hI).up (fun _ h => h) (Keep.of_grow hgW hI.1)))
                exact ⟨I', u, rep_ro hR⟩
            have hone : ∃ a n c, z = .slice a n c := by
              obtain ⟨I', u, hR⟩ := hI3 I0 hR0
              exact bytes_slice (rep_ro hR)
            obtain ⟨ya, yn, yc, rfl⟩ := hone
            have hK3 : ((W3.setCell ⟨w.heap.size + 1 + 1 + 1, 0, none⟩ (.slice ya yn yc)).setCell ⟨w.heap.size + 1 + 1 + 1 + 1, 0, none⟩ (.int .i64 0)).heap[D]? = some (.deferred (some [])) :=
              (((keeps_grow (B := 0) hg3).trans ((KeepsOthers.setCell _ _ _).from _)).trans ((KeepsOthers.setCell _ _ _).from _)).same D _ (Nat.zero_le _) hK rfl
            have hf2 := hfin.grown (grownBy_putObj' _ D (.deferred none)) (B := W5.heap.size) (by omega) fun r e => by cases e; exact ⟨hD, _, hK3, rfl⟩
            have hgB := getB_miss hS (fun z h => by rw [hpz]; exact hall z h)
            gi_wp2
            refine ⟨by simp, .inl ⟨_, _, rfl, run_takeDeferred hK3, ?_⟩⟩
            obtain ⟨y', p3, p4, hgf, hIf⟩ := hf2
            refine ⟨_, fin_res p3 p4 _ rfl rfl, _, rfl, hgf, fun I hI => ?_⟩
            obtain ⟨I', u, _, hR⟩ := hIf I hI
            refine ⟨I', u, ?_⟩
            simp only [bne_self_eq_false, d1, d2, Bool.false_or, cond_false, hgB]
            exact rep_two hR
          case stop =>
            rintro D c pre W hD ⟨k, hk, hmap⟩ ⟨rfl, p, x, rfl, hz, hx, hfin⟩ hK
            have hf2 := hfin.grown (grownBy_putObj' W D (.deferred none)) (B := W5.heap.size) (by omega) fun r e => by cases e; exact ⟨hD, _, hK, rfl⟩
            have hgB := getB_hit hk hmap (fun z h => by rw [hpz]; exact hz z h) (by rw [hpz]; exact hx)
            gi_wp2
            refine ⟨by simp, .inl ⟨_, _, rfl, run_takeDeferred hK, ?_⟩⟩
            obtain ⟨y, p3, p4, hgf, hIf⟩ := hf2
            refine ⟨_, fin_res p3 p4 _ rfl rfl, _, rfl, hgf, fun I hI => ?_⟩
            obtain ⟨I', u, _, hR⟩ := hIf I hI
            refine ⟨I', u, ?_⟩
            simp only [bne_self_eq_false, d1, d2, Bool.false_or, cond_false, hgB]
            exact rep_two hR
end Go.Proofs.Ytalhjhmphdgaoaa
