/- From what a row says of a law's arguments to trees,and from a contract back to what the row asks. No program in sight. -/
import Derived.Test.YtikgiadbkjmabaaEngD
import Derived.Test.YtikgiadbkjmabaaFits
namespace Go.Proofs.Ytikgiadbkjmabaa
open Go.ChangeShapes Go.WideShapes Go.ChangeAt Go.RowKit
set_option linter.unusedSimpArgs false
set_option linter.unusedVariables false

inductive Sh where
  | int (k:IntKind)
  | bool
  | str
  | st (fs:List Sh)
  | sl (s:Sh)

def Sh.small:Sh → Bool
  | .int .u8=>true
  | .bool=>true
  | _=>false
mutual
def Sh.by:Sh → Nat
  | .int .i64=>8
  | .int _=>1
  | .bool=>1
  | .str=>16
  | .st fs=>Sh.byL 0 fs
  | .sl _=>24
def Sh.byL:Nat → List Sh → Nat
  | n,[]=>(n + 7) / 8 * 8
  | n,s :: ss=>Sh.byL ((bif Sh.small s then n else (n + 7) / 8 * 8) + Sh.by s) ss
end

mutual
inductive Shaped:Sh → List RV → Prop
  | int {k:IntKind} {n:Int}:(Lit.int k n).wf = true → Shaped (.int k) [.v (.int k n)]
  | bool {b:Bool}:Shaped .bool [.v (.bool b)]
  | str {s:ByteArray}:s.size ≤ 2 ^ 47 → Shaped .str [.v (.string s)]
  | st {fs:List Sh} {rs:List RV}:ShapedL fs rs → Shaped (.st fs) rs
  | sl {s:Sh} {rows:List (List RV)}:rows.length ≤ 2 ^ 47 ∧ rows.length * s.by ≤ 2 ^ 47 → (∀ r ∈ rows,Shaped s r) → Shaped (.sl s) [.ro rows]
inductive ShapedL:List Sh → List RV → Prop
  | nil:ShapedL [] []
  | cons {s:Sh} {fs:List Sh} {a b:List RV}:Shaped s a → ShapedL fs b → ShapedL (s :: fs) (a ++ b)
end

theorem shaped_int {k:IntKind} {rs:List RV} (h:Shaped (.int k) rs):∃ n,(Lit.int k n).wf = true ∧ rs = [.v (.int k n)]:=by
  cases h with | int h=>exact ⟨_,h,rfl⟩
theorem shaped_bool {rs:List RV} (h:Shaped .bool rs):∃ b,rs = [.v (.bool b)]:=by
  cases h with | bool=>exact ⟨_,rfl⟩
theorem shaped_str {rs:List RV} (h:Shaped .str rs):∃ s:ByteArray,s.size ≤ 2 ^ 47 ∧ rs = [.v (.string s)]:=by
  cases h with | str h=>exact ⟨_,h,rfl⟩
theorem shaped_st {fs:List Sh} {rs:List RV} (h:Shaped (.st fs) rs):ShapedL fs rs:=by
  cases h with | st h=>exact h
theorem shaped_sl {s:Sh} {rs:List RV} (h:Shaped (.sl s) rs):∃ rows,(rows.length ≤ 2 ^ 47 ∧ rows.length * s.by ≤ 2 ^ 47) ∧ (∀ r ∈ rows,Shaped s r) ∧ rs = [.ro rows]:=by
  cases h with | sl h1 h2=>exact ⟨_,h1,h2,rfl⟩
theorem shapedL_nil {rs:List RV} (h:ShapedL [] rs):rs = []:=by cases h;rfl
theorem shapedL_cons {s:Sh} {fs:List Sh} {rs:List RV} (h:ShapedL (s :: fs) rs):∃ a b,Shaped s a ∧ ShapedL fs b ∧ rs = a ++ b:=by
  cases h with | cons h1 h2=>exact ⟨_,_,h1,h2,rfl⟩
theorem rows_of {α:Type} {f:α → List RV} {p:α → Prop} {rows:List (List RV)} (h:∀ r ∈ rows,∃ x,p x ∧ r = f x):∃ l:List α,(∀ x ∈ l,p x) ∧ rows = l.map f:=by
  induction rows with
  | nil=>exact ⟨[],by simp,rfl⟩
  | cons r rows ih =>
    obtain ⟨x,hp,rfl⟩:=h r (by simp)
    obtain ⟨l,hl,rfl⟩:=ih fun r hr=>h r (by simp [hr])
    exact ⟨x :: l,by simpa [hp] using hl,rfl⟩

def shFs (P:Program) (f:TypeId → Option Sh) (tot:Nat):Nat → List Field → Option (List Sh)
  | off,[]=>bif decide (off = tot) then some [] else none
  | off,g :: gs=>bif decide (g.offset = off) then match f g.type,shFs P f tot (off + P.cellsOf g.type) gs with
    | some s,some ss=>some (s :: ss)
    | _,_=>none
    else none

def shOf (P:Program):Nat → TypeId → Option Sh
  | 0,_=>none
  | n + 1,t=>match P.underlying t with
    | some (.int k)=>some (.int k)
    | some .bool=>some .bool
    | some .string=>some .str
    | some (.slice e)=>bif decide (0 < P.cellsOf e) && decide (0 < P.bytesOf e) then (shOf P n e).bind fun s=>bif decide (s.by ≤ P.bytesOf e) then some (.sl s) else none else none
    | some (.struct fs)=>(shFs P (shOf P n) (P.cellsOf t) 0 fs.toList).map .st
    | _=>none

section
variable {H:Type} {enc:TypeId × Value → H} {P:Program} {w:World} {base:Nat} {spare:Nat → Bool} {held:Bool}

theorem cells_some {a:Addr} {k:Nat} {cs:List Value} (h:w.cells? base a k = some cs):cs.length = k ∧ ∀ j,j < k → w.cell? (a.add j) = cs[j]?:=by
  unfold World.cells? at h
  split at h
  · refine ⟨by simpa using mapM_some_length h,fun j hj=>?_⟩
    exact mapM_some_get h j j (by simp [hj])
  · cases h

def CellsR (w:World) (rs:List RV) (cs:List Value):Prop:=rs.length = cs.length ∧ ∀ (i:Nat) (r:RV) (x:Value),rs[i]? = some r → cs[i]? = some x → RRep (fun b=>b < w.heap.size) w r x

theorem cellsR_one {r:RV} {x:Value} (h:RRep (fun b=>b < w.heap.size) w r x):CellsR w [r] [x]:=by
  refine ⟨rfl,fun i r' x' hr hx=>?_⟩
  cases i with
  | zero=>simp at hr hx;subst hr;subst hx;exact h
  | succ i=>simp at hr

theorem shFs_ok {n m:Nat} {tot:Nat} (ih:∀ t sh,shOf P n t = some sh → ∀ (cs:List Value) (d:DataW H) (ps:List MemPlace),DataW.trod enc P w base spare held m t cs = some (d,ps) → Fits P t d → ∃ rs,Shaped sh rs ∧ CellsR w rs cs) {cs:List Value} (hcs:cs.length = tot) :
    ∀ (gs:List Field) (off:Nat) (shs:List Sh) (xs:List (DataW H × List MemPlace)),shFs P (shOf P n) tot off gs = some shs → xs.length = gs.length →
      (∀ (i:Nat) (f:Field),gs[i]? = some f → DataW.trod enc P w base spare held m f.type ((cs.drop f.offset).take (P.cellsOf f.type)) = xs[i]?) → (∀ (i:Nat) (f:Field) (x:DataW H × List MemPlace),gs[i]? = some f → xs[i]? = some x → Fits P f.type x.1) →
      ∃ rs,ShapedL shs rs ∧ CellsR w rs (cs.drop off) ∧ off ≤ cs.length:=by
  intro gs
  induction gs with
  | nil =>
    intro off shs xs hsh hxl hx hf
    simp only [shFs] at hsh
    by_cases e:off = tot
    · subst e
      simp at hsh
      subst hsh
      refine ⟨[],.nil,⟨by simp [hcs],by simp⟩,by omega⟩
    · simp [e] at hsh
  | cons g gs ihg =>
    intro off shs xs hsh hxl hx hf
    simp only [shFs] at hsh
    by_cases e:g.offset = off
    · subst e
      simp only [decide_true,cond_true] at hsh
      split at hsh
      · rename_i s ss h1 h2
        cases hsh
        cases xs with
        | nil=>simp at hxl
        | cons x xs =>
          obtain ⟨rs,hs,⟨hc1,hc2⟩,hle⟩:=ihg _ ss xs h2 (by simpa using hxl) (fun i f hg=>by have:=hx (i + 1) f (by simpa using hg);simpa using this) (fun i f y hg hy=>hf (i + 1) f y (by simpa using hg) (by simpa using hy))
          have h0:=hx 0 g (by simp)
          simp only [List.getElem?_cons_zero] at h0
          obtain ⟨rs0,hs0,hd1,hd2⟩:=ih g.type s h1 _ x.1 x.2 h0 (hf 0 g x (by simp) (by simp))
          have hl0:rs0.length = P.cellsOf g.type:=by rw [hd1];simp;omega
          refine ⟨rs0 ++ rs,.cons hs0 hs,⟨by simp [hl0,hc1];omega,fun i r y hr hy=>?_⟩,by omega⟩
          by_cases hi:i < rs0.length
          · rw [List.getElem?_append_left hi] at hr
            refine hd2 i r y hr ?_
            rw [List.getElem?_take,if_pos (by omega)]
            exact hy
          · rw [List.getElem?_append_right (by omega)] at hr
            refine hc2 (i - rs0.length) r y hr ?_
            simp only [List.getElem?_drop] at hy ⊢
            rw [← hy];congr 1;omega
      · cases hsh
    · simp [e] at hsh

theorem shape_ok:∀ (n:Nat) (t:TypeId) (sh:Sh),shOf P n t = some sh → ∀ (m:Nat) (cs:List Value) (d:DataW H) (ps:List MemPlace),DataW.trod enc P w base spare held m t cs = some (d,ps) → Fits P t d → ∃ rs,Shaped sh rs ∧ CellsR w rs cs
  | 0,_,_,h=>by cases h
  | n + 1,t,sh,h=>by
    intro m cs d ps ht hz
    simp only [shOf] at h
    split at h
    · rename_i k hu
      cases h
      obtain ⟨x,rfl,h2,h3⟩:=DataW.trod_int hu ht
      exact ⟨[.v (.int k x)],.int h3,cellsR_one (.v rfl)⟩
    · rename_i hu
      cases h
      obtain ⟨x,rfl,h2⟩:=DataW.trod_bool hu ht
      exact ⟨[.v (.bool x)],.bool,cellsR_one (.v rfl)⟩
    · rename_i hu
      cases h
      obtain ⟨x,rfl,h2,h3⟩:=DataW.trod_string hu ht
      simp only [Prod.mk.injEq] at h2
      obtain ⟨rfl,rfl⟩:=h2
      exact ⟨[.v (.string x)],.str (fits_string hz),cellsR_one (.v rfl)⟩
    · rename_i e hu
      by_cases hk:0 < P.cellsOf e ∧ 0 < P.bytesOf e
      · obtain ⟨hk,hby⟩:=hk
        simp only [hk,hby,decide_true,Bool.and_self,cond_true,Option.bind_eq_some_iff] at h
        obtain ⟨s,hs,h⟩:=h
        by_cases hsb:s.by ≤ P.bytesOf e
        case neg=>rw [decide_eq_false hsb] at h;cases h
        rw [decide_eq_true hsb] at h
        cases h
        rcases DataW.trod_slice hu ht with ⟨rfl,hd⟩ | ⟨a,len,cap,elems,rest,m',rfl,rfl,hd,h4,h5,h6,h7,h8,_⟩
        · exact ⟨[.ro []],.sl (by simp) (by simp),cellsR_one .nil⟩
        · simp only [Prod.mk.injEq] at hd
          obtain ⟨rfl,rfl⟩:=hd
          obtain ⟨hf1,hf2⟩:=fits_slice hz hu
          have hlen:len ≤ 2 ^ 47:=by
            have h9:=reachBytes_lt
            simp only [List.length_map] at hf1
            have:len * 1 ≤ (elems.length + rest.length) * P.bytesOf e:=Nat.mul_le_mul (by omega) hby
            omega
          have hlb:len * s.by ≤ 2 ^ 47:=by
            have h9:=reachBytes_lt
            simp only [List.length_map] at hf1
            have:len * s.by ≤ (elems.length + rest.length) * P.bytesOf e:=Nat.mul_le_mul (by omega) hsb
            omega
          by_cases hl0:len = 0
          · subst hl0
            exact ⟨[.ro []],.sl (by simp) (by simp),cellsR_one .nil⟩
          · have key:∀ i,i < len → ∃ rs,Shaped s rs ∧ rs.length = P.cellsOf e ∧ ∀ j r,rs[j]? = some r → ∃ x,w.cell? ((a.add (i * P.cellsOf e)).add j) = some x ∧ RRep (fun b=>b < w.heap.size) w r x:=fun i hi=>by
              have hb:=h8 i hi
              obtain ⟨y,hy⟩:∃ y,elems[i]? = some y:=⟨_,List.getElem?_eq_getElem (by omega)⟩
              rw [hy,Option.bind_eq_some_iff] at hb
              obtain ⟨ds,hc,hb⟩:=hb
              obtain ⟨hc1,hc2⟩:=cells_some hc
              obtain ⟨rs,hs1,hs2,hs3⟩:=shape_ok n e s hs m' ds y.1 y.2 hb (hf2 y.1 (List.mem_map.2 ⟨y,List.mem_of_getElem? hy,rfl⟩))
              refine ⟨rs,hs1,hs2.trans hc1,fun j r hj=>?_⟩
              have hjl:j < ds.length:=by rw [← hs2];exact (List.getElem?_eq_some_iff.1 hj).1
              exact ⟨ds[j],by rw [hc2 j (by omega),List.getElem?_eq_getElem hjl],hs3 j r _ hj (List.getElem?_eq_getElem hjl)⟩
            obtain ⟨b,o,rfl⟩:∃ b o,a = ⟨b,o,none⟩:=by
              obtain ⟨rs,_,h2,h3⟩:=key 0 (by omega)
              obtain ⟨x,hx,_⟩:=h3 0 rs[0] (List.getElem?_eq_getElem (by omega))
              simp only [Nat.zero_mul,Addr.add,if_true] at hx
              obtain ⟨b,o,sp⟩:=a
              refine ⟨b,o,?_⟩
              unfold World.cell? at hx
              split at hx
              · cases sp with
                | none=>rfl
                | some q=>simp at hx
              · cases hx
            have hb:b < w.heap.size:=by
              obtain ⟨rs,_,h2,h3⟩:=key 0 (by omega)
              obtain ⟨x,hx,_⟩:=h3 0 rs[0] (List.getElem?_eq_getElem (by omega))
              simp only [Nat.zero_mul,Addr.add,if_true] at hx
              unfold World.cell? at hx
              split at hx
              · rename_i hh;exact (Array.getElem?_eq_some_iff.1 hh).1
              · cases hx
            let g:Nat → List RV:=fun i=>if h:i < len then Classical.choose (key i h) else []
            have hg:∀ i,i < len → Shaped s (g i) ∧ (g i).length = P.cellsOf e ∧ ∀ j r,(g i)[j]? = some r → ∃ x,w.cell? ⟨b,o + (i * P.cellsOf e + j),none⟩ = some x ∧ RRep (fun b=>b < w.heap.size) w r x:=fun i h=>by
              have:=Classical.choose_spec (key i h)
              simp only [g,dif_pos h]
              refine ⟨this.1,this.2.1,fun j r hr=>?_⟩
              obtain ⟨x,h1,h2⟩:=this.2.2 j r hr
              rw [addr_add,addr_add] at h1
              exact ⟨x,by rw [← Nat.add_assoc];exact h1,h2⟩
            have hget:∀ (i:Nat) (r:List RV),((List.range len).map g)[i]? = some r → i < len ∧ r = g i:=fun i r h=>by
              rw [List.getElem?_map] at h
              by_cases hi:i < len
              · simp [hi] at h;exact ⟨hi,h.symm⟩
              · simp [hi] at h
            refine ⟨[.ro ((List.range len).map g)],.sl (by simpa using ⟨hlen,hlb⟩) (fun r hr=>?_),cellsR_one ?_⟩
            · simp only [List.mem_map,List.mem_range] at hr
              obtain ⟨i,hi,rfl⟩:=hr
              exact (hg i hi).1
            · have hll:len = ((List.range len).map g).length:=by simp
              have:=RRep.ro (I:=fun b=>b < w.heap.size) (w:=w) (rows:=(List.range len).map g) (b:=b) (o:=o) (cap:=cap) (k:=P.cellsOf e) (f:=fun i j=>(w.cell? ⟨b,o + (i * P.cellsOf e + j),none⟩).getD undef)
                (by intro h;rw [h] at hll;exact hl0 hll) hb (by rw [← hll];exact h5) (by rw [← hll];exact hlen) hk
                (fun i r h=>by obtain ⟨h1,rfl⟩:=hget i r h;exact (hg i h1).2.1)
                (fun i j r c h hc=>by obtain ⟨h1,rfl⟩:=hget i r h;obtain ⟨x,h2,_⟩:=(hg i h1).2.2 j c hc;rw [h2];rfl)
                (fun i j r c h hc=>by obtain ⟨h1,rfl⟩:=hget i r h;obtain ⟨x,h2,h3⟩:=(hg i h1).2.2 j c hc;rw [h2];exact h3)
              rw [← hll] at this
              exact this
      · have:(decide (0 < P.cellsOf e) && decide (0 < P.bytesOf e)) = false:=by
          rw [Bool.and_eq_false_iff,decide_eq_false_iff_not,decide_eq_false_iff_not]
          by_cases h1:0 < P.cellsOf e
          · exact .inr fun h2=>hk ⟨h1,h2⟩
          · exact .inl h1
        rw [this] at h
        cases h
    · rename_i fs hu
      simp only [Option.map_eq_some_iff] at h
      obtain ⟨ss,hs,rfl⟩:=h
      obtain ⟨xs,m',rfl,hd,hl,hxl,hf⟩:=DataW.trod_struct hu ht
      simp only [Prod.mk.injEq] at hd
      obtain ⟨rfl,rfl⟩:=hd
      obtain ⟨rs,h1,h2,_⟩:=shFs_ok (n:=n) (m:=m') (fun t sh h cs d ps=>shape_ok n t sh h m' cs d ps) hl fs.toList 0 ss xs hs (by simpa using hxl) (fun i f hg=>hf i f (by simpa using hg)) (fun i f x hg hx=>fits_struct hz hu (i:=i) (by simpa using hg) (by simp [hx]))
      exact ⟨rs,.st h1,by simpa using h2⟩
    · cases h

def K0 (w:World):KS:=⟨fun _=>0,fun _=>0,fun _=>false,fun _=>none,fun b=>b < w.heap.size⟩

def avOf:Sh → List RV → AV
  | .st _,rs=>.agg (rs.map .d)
  | _,rs=>.d (rs.headD (.ro []))

theorem cell_okWide {r:Reach} {b0:Nat} {t:TypeId} {v:Value} (hs:∀ fs,P.underlying t ≠ some (.struct fs)) (ha:∀ n e,P.underlying t ≠ some (.array n e)) (h:Value.okWide P w r b0 t v) {sh:Sh} {n:Nat} (hsh:shOf P (n + 1) t = some sh):v.oneCell' = true:=by
  simp only [shOf] at hsh
  cases hu:P.underlying t with
  | none=>rw [hu] at hsh;cases hsh
  | some u =>
    rw [hu] at hsh
    cases u<;>simp only at hsh<;>(try (cases hsh;done))
    · obtain ⟨_,rfl⟩:=okWide_bool hu h;rfl
    · obtain ⟨_,rfl⟩:=okWide_int hu h;rfl
    · obtain ⟨_,rfl⟩:=okWide_string hu h;rfl
    · obtain ⟨_,_,_,rfl⟩:=okWide_slice hu h;rfl
    · exact absurd hu (hs _)

theorem open_any {n:Nat} {r:Reach} {b0:Nat} {t:TypeId} {v:Value} {d:DataW H} {p:List MemPlace} (sh:Sh) (hsh:shOf P (n + 1) t = some sh) (hval:Value.okWide P w r b0 t v) (h:DataW.Trod enc P w base spare held t v d p) (hz:Fits P t d) :
    ∃ rs,Shaped sh rs ∧ Rep (K0 w) w (avOf sh rs) v:=by
  obtain ⟨fuel,h⟩:=h
  obtain ⟨rs,h1,h2,h3⟩:=shape_ok (n + 1) t sh hsh fuel _ d p h hz
  refine ⟨rs,h1,?_⟩
  by_cases hst:∃ fs,P.underlying t = some (.struct fs)
  · obtain ⟨fs,hu⟩:=hst
    obtain ⟨cs,rfl,_⟩:=okWide_struct hu hval
    have:∃ ss,sh = .st ss:=by
      simp only [shOf,hu,Option.map_eq_some_iff] at hsh
      obtain ⟨ss,_,rfl⟩:=hsh
      exact ⟨ss,rfl⟩
    obtain ⟨ss,rfl⟩:=this
    simp only [Value.cells] at h2 h3
    have:=Rep.agg (K:=K0 w) (w:=w) (cs:=rs.map .d) (xs:=cs.toList) (by simpa using h2) (fun i c x hc hx=>by
      rw [List.getElem?_map] at hc
      cases hr:rs[i]? with
      | none=>simp [hr] at hc
      | some r=>simp [hr] at hc;subst hc;exact .d (h3 i r x hr hx)) (fun x hx=>by
      obtain ⟨i,hi⟩:=List.mem_iff_getElem?.1 hx
      have hil:=(List.getElem?_eq_some_iff.1 hi).1
      exact (h3 i rs[i] x (List.getElem?_eq_getElem (by omega)) hi).one)
    simpa [avOf] using this
  · have hs:∀ fs,P.underlying t ≠ some (.struct fs):=fun fs hu=>hst ⟨fs,hu⟩
    have ha:∀ n e,P.underlying t ≠ some (.array n e):=fun n e hu=>by simp only [shOf,hu] at hsh;cases hsh
    have hone:=cell_okWide hs ha hval hsh
    have hc:v.cells.toList = [v]:=by cases v<;>first | rfl | cases hone
    rw [hc] at h2 h3
    obtain ⟨r,rfl⟩:∃ r,rs = [r]:=by
      match rs,h2 with
      | [r],_=>exact ⟨r,rfl⟩
    have:avOf sh [r] = .d r:=by
      have:∀ ss,sh ≠ .st ss:=fun ss e=>by
        subst e
        simp only [shOf] at hsh
        split at hsh<;>(try (simp at hsh;done))
        · rename_i e hu
          cases hb:(decide (0 < P.cellsOf e) && decide (0 < P.bytesOf e))<;>rw [hb] at hsh
          · cases hsh
          · simp only [cond_true,Option.bind_eq_some_iff] at hsh
            obtain ⟨s,_,h⟩:=hsh
            cases hd:decide (s.by ≤ P.bytesOf e)<;>rw [hd] at h<;>cases h
        · rename_i fs hu;exact hs fs hu
      unfold avOf
      split
      · exact absurd rfl (this _)
      · rfl
    rw [this]
    exact .d (h3 0 r v rfl rfl)
end

theorem GL.free {I:Nat → Prop} {w:World} (h:globD = none):GL I w:=fun g k n e=>by rw [h] at e;cases e
theorem law_calls {P:Program} {f:FuncId} {avs:List AV} {b:AV} {w:World} {xs:List Value} (hb:b = .d (.v (.bool true))) (h:Pure P f avs b) (hl:avs.length = xs.length) (hr:∀ (i:Nat) (c:AV) (x:Value),avs[i]? = some c → xs[i]? = some x → Rep (K0 w) w c x) (hG:GL (K0 w).I w:=by exact GL.free rfl) :
    Calls P f xs.toArray w fun e w'=>e = .returned (.bool true) ∧ Grow w w':=by
  subst hb
  unfold Pure at h
  have hpre:Pre avs (fun _=>.dead) 0 xs w (K0 w):=⟨⟨hG,fun b hb=>hb,fun n=>trivial,fun n m h=>h.elim⟩,fun n=>⟨rfl,fun _=>rfl⟩,hl,hr⟩
  refine (h 0 (fun _=>.dead) xs w ⟨_,hpre⟩).mono fun e w' ⟨x,v,σ',he,⟨hv,_⟩,hK⟩=>?_
  obtain ⟨K',hx,_,hrep⟩:=hK _ hpre
  subst hv
  subst he
  have hxb:x = .bool true:=by cases hrep with | d h=>cases h with | v=>rfl
  exact ⟨by rw [hxb],⟨⟨hx.keep.os,hx.keep.tape,hx.keep.output,hx.keep.size,fun k hk=>hx.keep.block k hk⟩,hx.keep.drawn⟩⟩

theorem reps_nil {w:World}:∀ (i:Nat) (c:AV) (x:Value),([]:List AV)[i]? = some c → ([]:List Value)[i]? = some x → Rep (K0 w) w c x:=by simp
theorem reps_cons {w:World} {c:AV} {x:Value} {cs:List AV} {xs:List Value} (h:Rep (K0 w) w c x) (hs:∀ (i:Nat) (c:AV) (x:Value),cs[i]? = some c → xs[i]? = some x → Rep (K0 w) w c x) :
    ∀ (i:Nat) (c':AV) (x':Value),(c :: cs)[i]? = some c' → (x :: xs)[i]? = some x' → Rep (K0 w) w c' x':=by
  intro i c' x' hc hx
  cases i with
  | zero=>simp at hc hx;subst hc;subst hx;exact h
  | succ i=>exact hs i c' x' (by simpa using hc) (by simpa using hx)
end Go.Proofs.Ytikgiadbkjmabaa
