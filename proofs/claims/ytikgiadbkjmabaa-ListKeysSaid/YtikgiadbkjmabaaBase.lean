/- The data of the program,as trees: numbers,truth,bytes,devices. -/
import Derived.Test.YtikgiadbkjmabaaEngD
import Derived.Test.YtikgiadbkjmabaaTypes
import Derived.IntWalk
namespace Go.Proofs.Ytikgiadbkjmabaa
open Go.RowKit
set_option linter.unusedSimpArgs false
set_option linter.unusedVariables false

abbrev I (n:Int):AV:=.d (.v (.int .i64 n))
abbrev Bo (b:Bool):AV:=.d (.v (.bool b))
def by_ (c:UInt8):List RV:=[.v (.int .u8 c.toNat)]
def bytes (l:List UInt8):RV:=.ro (l.map by_)

structure GeoD where
  ring:Int
  area:Int
  hot:Int
  volume:Int
  volumes:Int
structure WrD where
  pos:Int
  data:List UInt8
instance:Inhabited WrD:=⟨⟨0,[]⟩⟩
structure VolD where
  data:List UInt8
  synced:Int
  gone:Bool
instance:Inhabited VolD:=⟨⟨[],0,false⟩⟩
structure DevD where
  safe:List (List UInt8)
  cache:List WrD
  vols:List VolD
  fuel:Int

structure JrnD where
  gen:Int
  epoch:Int
  area:Int
  length:Int
  start:Int
  first:Int
  place:Int
  next:Int
  used:Int
def JrnD.cells (j:JrnD):List AV:=[I j.gen,I j.epoch,I j.area,I j.length,I j.start,I j.first,I j.place,I j.next,I j.used]
def JrnD.av (j:JrnD):AV:=.agg j.cells
structure PieceD where
  id:Int
  pos:Int
  size:Int
instance:Inhabited PieceD:=⟨⟨0,0,0⟩⟩
def int_ (n:Int):List RV:=[.v (.int .i64 n)]
def ints (l:List Int):RV:=.ro (l.map int_)
def inI (n:Int):Prop:=-2 ^ 63 ≤ n ∧ n < 2 ^ 63
def GeoD.av (g:GeoD):AV:=.agg [I g.ring,I g.area,I g.hot,I g.volume,I g.volumes]
def secRow (s:List UInt8):List RV:=[bytes s]
def WrD.row (w:WrD):List RV:=[.v (.int .i64 w.pos),bytes w.data]
def VolD.row (v:VolD):List RV:=[bytes v.data,.v (.int .i64 v.synced),.v (.bool v.gone)]
def DevD.av (d:DevD):AV:=.agg [.d (.ro (d.safe.map secRow)),.d (.ro (d.cache.map WrD.row)),.d (.ro (d.vols.map VolD.row)),I d.fuel]

theorem rowOf_map {α:Type} [Inhabited α] (f:α → List RV) (l:List α) (i:Nat) (h:i < l.length):rowOf (l.map f) i = f l[i]!:=by
  simp [rowOf,List.getD,h]
theorem rowOf_mapD {α:Type} [Inhabited α] (f:α → List RV) (l:List α) (i:Nat) (h:decide ((i:Int) < (l.length:Int)) = true):rowOf (l.map f) i = f l[i]!:=rowOf_map f l i (by have:=of_decide_eq_true h;omega)
theorem ltD {k n:Nat} (h:decide ((k:Int) < (n:Int)) = true):k < n:=by have:=of_decide_eq_true h;omega
theorem geD {k n:Nat} (h:decide ((k:Int) < (n:Int)) = false):n ≤ k:=by have:=of_decide_eq_false h;omega
theorem rowOf_mapI {α:Type} [Inhabited α] (f:α → List RV) (l:List α) (v:Int) (h0:decide (v ≥ 0) = true) (h:decide (v < (l.length:Int)) = true):rowOf (l.map f) v.toNat = f l[v.toNat]!:=rowOf_map f l _ (by have:=of_decide_eq_true h;have:=of_decide_eq_true h0;omega)
theorem rowOf_mapA {α:Type} [Inhabited α] (f:α → List RV) (l:List α) (v:Int) (h:(decide (v ≥ 0) && decide (v < (l.length:Int))) = true):rowOf (l.map f) v.toNat = f l[v.toNat]!:=by
  rw [Bool.and_eq_true] at h;exact rowOf_mapI f l v h.1 h.2
theorem take_map_len {α β:Type} (f:α → β) (l:List α):List.take l.length (l.map f) = l.map f:=by
  rw [List.take_of_length_le (by simp)]
theorem take_map_app {α β:Type} (f:α → β) (l m:List α):List.take (l.length + m.length) (List.map f l ++ List.map f m) = List.map f l ++ List.map f m:=by
  rw [List.take_of_length_le (by simp)]
theorem take_next {α:Type} [Inhabited α] {l:List α} {k:Nat} (h:k < l.length):l.take (k + 1) = l.take k ++ [l[k]!]:=by
  rw [List.take_add_one,List.getElem?_eq_getElem h];simp [h]
theorem follows:Try.prog.follows .mixedOrders = true:=by kernel_rfl
theorem dltL {α:Type} {l:List α} {k:Nat} (h:decide ((k:Int) < l.length) = true):k < l.length:=by simp at h;omega
end Go.Proofs.Ytikgiadbkjmabaa
