/-
  General facts that all texts of this seat use: worlds that only grow,slice values by their elements,regions that draw their order while the world grows. No program in sight.
-/
import Derived.WalkKit
import Derived.WalkSpells
import Derived.WalkLawsBesides
import Derived.Deep.RegionWith
import Derived.BigQuiet
import Derived.Deep.QuietTactic
import Derived.Lib.Hide
namespace Go.Proofs.Ytikgiadbkjmabaa
open Go.RowKit
set_option linter.unusedSimpArgs false
set_option linter.unusedVariables false

structure Grow (w w':World):Prop extends Below w.heap.size w w' where
  drawn:w.drawn ≤ w'.drawn

theorem Grow.refl (w:World):Grow w w:=⟨Below.refl _ _,Nat.le_refl _⟩
theorem Grow.trans {a b c:World} (h:Grow a b) (k:Grow b c):Grow a c:=⟨Below.trans h.toBelow (Below.mono k.toBelow (Below.size h.toBelow)),Nat.le_trans h.drawn k.drawn⟩
theorem Grow.alloc {a w:World} (h:Grow a w) (o:Obj):Grow a (w.alloc o):=⟨Below.alloc h.toBelow h.size o,h.drawn⟩
theorem Grow.drew {a w:World} (h:Grow a w):Grow a w.drew:=⟨Below.drew h.toBelow,Nat.le_succ_of_le h.drawn⟩
theorem Grow.setCell {a w:World} (h:Grow a w) {p:Addr} (hp:a.heap.size ≤ p.block) (u:Value):Grow a (w.setCell p u):=⟨Below.setCell h.toBelow hp u,h.drawn⟩
theorem Grow.cell {a w:World} (h:Grow a w) {p:Addr} (hp:p.block < a.heap.size):w.cell? p = a.cell? p:=Below.cell h.toBelow hp
theorem Grow.frozen {a w:World} (h:Grow a w) {p:Addr} (hp:p.block < a.heap.size):w.frozen? p = a.frozen? p:=Below.frozen h.toBelow hp
theorem Grow.heap {a w:World} (h:Grow a w) {b:Nat} (hb:b < a.heap.size):w.heap[b]? = a.heap[b]?:=Below.block h.toBelow b hb

@[go_sem] theorem Grow.refl_true (w:World):Grow w w = True:=eq_true (Grow.refl w)
@[go_sem] theorem Grow.alloc_true {a w:World} (h:Grow a w) (o:Obj):Grow a (w.alloc o) = True:=eq_true (h.alloc o)
@[go_sem] theorem Grow.drew_true {a w:World} (h:Grow a w):Grow a w.drew = True:=eq_true h.drew
@[go_sem] theorem Grow.setCell_true {a w:World} {p:Addr} {u:Value} (h:Grow a w) (hp:a.heap.size ≤ p.block):Grow a (w.setCell p u) = True:=eq_true (h.setCell hp u)

theorem Grow.cells {w w1:World} (hb:Grow w w1):(∀ b o,b < w.heap.size → w1.cell? ⟨b,o,none⟩ = w.cell? ⟨b,o,none⟩) ∧ (∀ b o,b < w.heap.size → w1.frozen? ⟨b,o,none⟩ = w.frozen? ⟨b,o,none⟩) :=
  ⟨fun b o h=>hb.cell (p:=⟨b,o,none⟩) h,fun b o h=>hb.frozen (p:=⟨b,o,none⟩) h⟩

structure Grown' (W:World) where
  w:World
  h:Grow W w

instance (W:World):Nonempty (Grown' W):=⟨⟨W,Grow.refl W⟩⟩

@[go_sem] theorem Grown'.grow_true {W:World} (g:Grown' W):Grow W g.w = True:=eq_true g.h
@[go_sem] theorem Grown'.cell {W:World} (g:Grown' W) (b o:Nat) (hb:b < W.heap.size):g.w.cell? ⟨b,o,none⟩ = W.cell? ⟨b,o,none⟩:=g.h.cell (p:=⟨b,o,none⟩) hb
@[go_sem] theorem Grown'.up {W a:World} (g:Grown' W) (h:Grow a W):Grow a g.w = True:=eq_true (h.trans g.h)

def elem:Value → Nat → Addr
  | .slice (some a) _ _,m=>⟨a.block,a.off + m,none⟩
  | _,m=>⟨0,m,none⟩

theorem elem_add (v:Value) (m n:Nat):(elem v m).add n = elem v (m + n):=by
  unfold elem Addr.add
  split<;>(split<;>simp_all [Nat.add_assoc])

attribute [go_sem] elem_add

structure SL (L:Nat → Prop) (w:World) (v:Value) (k:Nat) (es:List (Array Value)):Prop where
  ex:∃ a cap,v = .slice a es.length cap ∧ es.length ≤ cap ∧ (es ≠ [] → ∃ b o,a = some ⟨b,o,none⟩)
  len:es.length * k ≤ 2 ^ 47
  pos:0 < k
  size:∀ e ∈ es,e.size = k
  blk:es ≠ [] → (elem v 0).block < w.heap.size ∧ ¬ L (elem v 0).block
  mem:∀ i j,i < es.length → j < k → w.cell? (elem v (i * k + j)) = (es.getD i #[])[j]?

theorem elem_block (v:Value) (m:Nat):(elem v m).block = (elem v 0).block:=by
  unfold elem;split<;>rfl

theorem SL.grow {L:Nat → Prop} {w w':World} {v:Value} {k:Nat} {es:List (Array Value)} (h:SL L w v k es) (hg:Grow w w'):SL L w' v k es :=
  ⟨h.ex,h.len,h.pos,h.size,fun hne=>⟨Nat.lt_of_lt_of_le (h.blk hne).1 hg.size,(h.blk hne).2⟩,fun i j hi hj=>by
    rw [hg.cell (by rw [elem_block];exact (h.blk (by intro e;simp [e] at hi)).1)];exact h.mem i j hi hj⟩

section
variable {P:Program} {L:Nat → Prop} {w:World} {v:Value} {k:Nat} {es:List (Array Value)}

theorem SL.run_len (h:SL L w v k es) (t ty:TypeId) (w':World) (ht:P.underlying t = some (.slice (P.elem t))) :
    (Builtin.len_ #[t] ty #[v]).run P w' = .ok (.int .i64 es.length) w':=by
  obtain ⟨a,cap,rfl,_⟩:=h.ex
  rw [run_len_slice (h:=ht)];rfl

theorem add_none (b o n:Nat):(⟨b,o,none⟩:Addr).add n = ⟨b,o + n,none⟩:=by
  unfold Addr.add;split<;>simp_all

theorem SL.run_index (h:SL L w v k es) (t:TypeId) (kk:IntKind) (i:Int) (w':World) (ht:P.underlying t = some (.slice (P.elem t))) (h0:0 ≤ i) (h1:i < es.length) :
    (Instr.indexAt t v (.int kk i)).run P w' = ((sizeOf (P.elem t)).run P w').andThen fun s w=>.ok (.pointer (some (elem v (i.toNat * s)))) w:=by
  obtain ⟨a,cap,rfl,_,hp⟩:=h.ex
  obtain ⟨b,o,rfl⟩:=hp (by intro e;simp [e] at h1;omega)
  rw [run_indexAt_slice (h:=ht),if_pos ⟨h0,h1⟩]
  congr 1
  funext s w2
  rw [add_none];rfl

theorem SL.cell (h:SL L w v k es) {w':World} (hg:Grow w w') (i j:Nat) (hi:i < es.length) (hj:j < k):w'.cell? (elem v (i * k + j)) = (es.getD i #[])[j]? :=
  (h.grow hg).mem i j hi hj

theorem SL.bound (h:SL L w v k es):es.length ≤ 2 ^ 47:=by
  have:=h.len;have:=Nat.le_mul_of_pos_right es.length h.pos;omega
end

def Ints (L:Nat → Prop) (w:World) (v:Value) (xs:List Int):Prop:=SL L w v 1 (xs.map fun x=>#[.int .i64 x])

theorem Ints.grow {L:Nat → Prop} {w w':World} {v:Value} {xs:List Int} (h:Ints L w v xs) (hg:Grow w w'):Ints L w' v xs:=SL.grow h hg

theorem Ints.cell {L:Nat → Prop} {w:World} {v:Value} {xs:List Int} (h:Ints L w v xs) (i:Nat) (w':World) (hi:i < xs.length) (hg:Grow w w'):w'.cell? (elem v i) = some (.int .i64 (xs.getD i 0)):=by
  have:=SL.cell h hg i 0 (by simpa using hi) (by decide)
  simp only [Nat.mul_one,Nat.add_zero] at this
  rw [this];simp [hi]

theorem Ints.run_len {P:Program} {L:Nat → Prop} {w:World} {v:Value} {xs:List Int} (h:Ints L w v xs) (t ty:TypeId) (w':World) (ht:P.underlying t = some (.slice (P.elem t))) :
    (Builtin.len_ #[t] ty #[v]).run P w' = .ok (.int .i64 xs.length) w':=by
  have:=SL.run_len h t ty w' ht;simpa using this

theorem Ints.run_index {P:Program} {L:Nat → Prop} {w:World} {v:Value} {xs:List Int} (h:Ints L w v xs) (t:TypeId) (kk:IntKind) (i:Int) (w':World) (ht:P.underlying t = some (.slice (P.elem t))) (h0:0 ≤ i) (h1:i < xs.length) :
    (Instr.indexAt t v (.int kk i)).run P w' = ((sizeOf (P.elem t)).run P w').andThen fun s w=>.ok (.pointer (some (elem v (i.toNat * s)))) w :=
  SL.run_index h t kk i w' ht h0 (by simpa using h1)

theorem Ints.bound {L:Nat → Prop} {w:World} {v:Value} {xs:List Int} (h:Ints L w v xs):xs.length ≤ 2 ^ 47:=by
  have:=SL.bound h;simpa using this

theorem cell_of_block {w:World} {b:Nat} {cs:Array Value} {T:TypeId} {fr:Nat × Nat} (h:w.heap[b]? = some (.cells cs T fr)) (o:Nat):w.cell? ⟨b,o,none⟩ = cs[o]?:=by
  simp [World.cell?,h]

theorem hp_new {w:World} {o:Obj} {n:Nat} (h:n = w.heap.size):(w.alloc o).heap[n]? = some o:=by
  subst h;show (w.heap.push o)[w.heap.size]? = some o;simp
end Go.Proofs.Ytikgiadbkjmabaa
