/- The engine,piece EngA. -/
import Derived.Test.YtikgiadbkjmabaaRegion
import Derived.DeepKeys
import Derived.Laws.IdiomStrings
import Derived.Test.YtikgiadbkjmabaaGlob

/- Values as trees,a store of named boxes and own arrays,and what they stand for in memory. No program in sight. -/
namespace Go.Proofs.Ytikgiadbkjmabaa
open Go.RowKit
set_option linter.unusedSimpArgs false
set_option linter.unusedVariables false

inductive RV where
  | v (x:Value)
  | ro (rows:List (List RV))

inductive KV where
  | i (n:Int)
  | s2 (a b:ByteArray)
  deriving DecidableEq

inductive AV where
  | any
  | d (r:RV)
  | emp
  | agg (cs:List AV)
  | tup (cs:List AV)
  | os (n len:Nat)
  | lp (n off:Nat)
  | rp (cs:List RV)
  | ap (n k i j:Nat)
  | gd (p:Prop) (v:AV)
  | clo (fn:Fn) (first cap:List AV)
  | mp (n:Nat)
  | sb (n k i len:Nat)

inductive AO where
  | dead
  | box (cs:List AV)
  | arr (k:Nat) (E:TypeId) (rows:List (List RV))
  | mp (s:Bool) (es:List (KV × Bool))
  | arh (k:Nat) (E:TypeId) (pre:List (List RV)) (h:List AV) (post:List (List RV))

structure KS where
  blk:Nat → Nat
  cap:Nat → Nat
  nl:Nat → Bool
  ad:Nat → Option Addr
  I:Nat → Prop

def KS.sl (K:KS) (n len:Nat):Value:=bif K.nl n then .slice (K.ad n) 0 0 else .slice (some ⟨K.blk n,0,none⟩) len (K.cap n)

inductive RRep (I:Nat → Prop) (w:World):RV → Value → Prop
  | v {x:Value}:x.oneCell' = true → RRep I w (.v x) x
  | nil {a:Option Addr} {cap:Nat}:RRep I w (.ro []) (.slice a 0 cap)
  | ro {rows:List (List RV)} {b o cap k:Nat} {f:Nat → Nat → Value}:rows ≠ [] → I b → rows.length ≤ cap → rows.length ≤ 2 ^ 47 → 0 < k → (∀ (i:Nat) (r:List RV),rows[i]? = some r → r.length = k) →
      (∀ (i j:Nat) (r:List RV) (c:RV),rows[i]? = some r → r[j]? = some c → w.cell? ⟨b,o + (i * k + j),none⟩ = some (f i j)) → (∀ (i j:Nat) (r:List RV) (c:RV),rows[i]? = some r → r[j]? = some c → RRep I w c (f i j)) → RRep I w (.ro rows) (.slice (some ⟨b,o,none⟩) rows.length cap)

inductive Rep (K:KS) (w:World):AV → Value → Prop
  | any {x:Value}:Rep K w .any x
  | d {r:RV} {x:Value}:RRep K.I w r x → Rep K w (.d r) x
  | emp {a:Option Addr}:Rep K w .emp (.slice a 0 0)
  | agg {cs:List AV} {xs:List Value}:cs.length = xs.length → (∀ (i:Nat) (c:AV) (x:Value),cs[i]? = some c → xs[i]? = some x → Rep K w c x) → (∀ x ∈ xs,x.oneCell' = true) → Rep K w (.agg cs) (.agg xs.toArray)
  | tup {cs:List AV} {xs:List Value}:cs.length = xs.length → (∀ (i:Nat) (c:AV) (x:Value),cs[i]? = some c → xs[i]? = some x → Rep K w c x) → Rep K w (.tup cs) (.tuple xs.toArray)
  | os {n len:Nat}:Rep K w (.os n len) (K.sl n len)
  | lp {n off:Nat}:Rep K w (.lp n off) (.pointer (some ⟨K.blk n,off,none⟩))
  | rp {cs:List RV} {b o:Nat} {f:Nat → Value}:K.I b → (∀ (j:Nat) (c:RV),cs[j]? = some c → w.cell? ⟨b,o + j,none⟩ = some (f j)) → (∀ (j:Nat) (c:RV),cs[j]? = some c → RRep K.I w c (f j)) → Rep K w (.rp cs) (.pointer (some ⟨b,o,none⟩))
  | ap {n k i j:Nat}:Rep K w (.ap n k i j) (.pointer (some ⟨K.blk n,i * k + j,none⟩))
  | gd {p:Prop} {v:AV} {x:Value}:(p → Rep K w v x) → (¬ p → x = undef) → Rep K w (.gd p v) x
  | clo {fn:Fn} {first cap:List AV} {fs cs:List Value}:first.length = fs.length → cap.length = cs.length → (∀ (i:Nat) (c:AV) (x:Value),first[i]? = some c → fs[i]? = some x → Rep K w c x) → (∀ (i:Nat) (c:AV) (x:Value),cap[i]? = some c → cs[i]? = some x → Rep K w c x) → Rep K w (.clo fn first cap) (.func fn fs.toArray cs.toArray)
  | mp {n:Nat}:Rep K w (.mp n) (.map (some (K.blk n)))
  | sb {n k i len:Nat}:K.nl n = false → Rep K w (.sb n k i len) (.slice (some ⟨K.blk n,i * k,none⟩) len (K.cap n - i))

structure Keep (I:Nat → Prop) (w w':World):Prop where
  os:w'.os = w.os
  tape:w'.tape = w.tape
  output:w'.output = w.output
  size:w.heap.size ≤ w'.heap.size
  block:∀ b,I b → w'.heap[b]? = w.heap[b]?
  drawn:w.drawn ≤ w'.drawn

theorem Keep.refl (I:Nat → Prop) (w:World):Keep I w w:=⟨rfl,rfl,rfl,Nat.le_refl _,fun _ _=>rfl,Nat.le_refl _⟩
theorem Keep.trans {I J:Nat → Prop} {a b c:World} (h:Keep I a b) (k:Keep J b c) (hIJ:∀ x,I x → J x):Keep I a c :=
  ⟨k.os.trans h.os,k.tape.trans h.tape,k.output.trans h.output,Nat.le_trans h.size k.size,fun x hx=>(k.block x (hIJ x hx)).trans (h.block x hx),Nat.le_trans h.drawn k.drawn⟩
theorem Keep.cell {I:Nat → Prop} {w w':World} (h:Keep I w w') {b o:Nat} (hb:I b):w'.cell? ⟨b,o,none⟩ = w.cell? ⟨b,o,none⟩:=by
  simp [World.cell?,h.block b hb]
theorem Keep.of_grow {I:Nat → Prop} {w w':World} (h:Grow w w') (hI:∀ b,I b → b < w.heap.size):Keep I w w' :=
  ⟨h.os,h.tape,h.output,h.size,fun b hb=>h.heap (hI b hb),h.drawn⟩

theorem RRep.up {I I':Nat → Prop} {w w':World} (hI:∀ b,I b → I' b) (hk:Keep I w w') {r:RV} {x:Value} (h:RRep I w r x):RRep I' w' r x:=by
  induction h with
  | v h=>exact .v h
  | nil=>exact .nil
  | ro h1 h2 h3 h4 h5 h6 h7 h8 ih=>exact .ro h1 (hI _ h2) h3 h4 h5 h6 (fun i j r c hr hc=>(hk.cell h2).trans (h7 i j r c hr hc)) ih

theorem RRep.one {I:Nat → Prop} {w:World} {r:RV} {x:Value} (h:RRep I w r x):x.oneCell' = true:=by
  cases h<;>first | assumption | rfl

mutual
def AV.allN (q:Nat → Bool):AV → Bool
  | .any | .d _ | .emp | .rp _=>true
  | .agg cs=>AV.allNL q cs
  | .tup cs=>AV.allNL q cs
  | .os n _=>q n
  | .lp n _=>q n
  | .ap n _ _ _=>q n
  | .gd _ v=>AV.allN q v
  | .clo _ a b=>AV.allNL q a && AV.allNL q b
  | .mp n=>q n
  | .sb n _ _ _=>q n
def AV.allNL (q:Nat → Bool):List AV → Bool
  | []=>true
  | c :: cs=>AV.allN q c && AV.allNL q cs
end

theorem AV.allNL_iff {q:Nat → Bool} {cs:List AV}:AV.allNL q cs = true ↔ ∀ c ∈ cs,AV.allN q c = true:=by
  induction cs with
  | nil=>simp [AV.allNL]
  | cons c cs ih=>simp [AV.allNL,ih]

mutual
def AV.mapN (fo fl:Nat → Nat → AV) (fa:Nat → Nat → Nat → Nat → AV):AV → AV
  | .any=>.any
  | .d r=>.d r
  | .emp=>.emp
  | .rp cs=>.rp cs
  | .agg cs=>.agg (AV.mapNL fo fl fa cs)
  | .tup cs=>.tup (AV.mapNL fo fl fa cs)
  | .os n l=>fo n l
  | .lp n o=>fl n o
  | .ap n k i j=>fa n k i j
  | .gd p v=>.gd p (AV.mapN fo fl fa v)
  | .clo f a b=>.clo f (AV.mapNL fo fl fa a) (AV.mapNL fo fl fa b)
  | .mp n=>match fl n 0 with
    | .lp m _=>.mp m
    | _=>.any
  | .sb n k i len=>match fo n (len + 1) with
    | .os m _=>.sb m k i len
    | _=>.any
def AV.mapNL (fo fl:Nat → Nat → AV) (fa:Nat → Nat → Nat → Nat → AV):List AV → List AV
  | []=>[]
  | c :: cs=>AV.mapN fo fl fa c :: AV.mapNL fo fl fa cs
end

theorem AV.mapNL_eq {fo fl:Nat → Nat → AV} {fa:Nat → Nat → Nat → Nat → AV} (cs:List AV):AV.mapNL fo fl fa cs = cs.map (AV.mapN fo fl fa):=by
  induction cs with
  | nil=>simp [AV.mapNL]
  | cons c cs ih=>simp [AV.mapNL,ih]

theorem Rep.map {K K':KS} {w w':World} {q:Nat → Bool} {fo fl:Nat → Nat → AV} {fa:Nat → Nat → Nat → Nat → AV} (hI:∀ b,K.I b → K'.I b) (hk:Keep K.I w w')
    (ho:∀ n l,q n = true → Rep K' w' (fo n l) (K.sl n l)) (hl:∀ n o,q n = true → Rep K' w' (fl n o) (.pointer (some ⟨K.blk n,o,none⟩))) (ha:∀ n k i j,q n = true → Rep K' w' (fa n k i j) (.pointer (some ⟨K.blk n,i * k + j,none⟩)))
    {v:AV} {x:Value} (h:Rep K w v x):v.allN q = true → Rep K' w' (v.mapN fo fl fa) x:=by
  have sub:∀ (cs:List AV) (xs:List Value),AV.allNL q cs = true → (∀ (i:Nat) (c:AV) (x:Value),cs[i]? = some c → xs[i]? = some x → c.allN q = true → Rep K' w' (c.mapN fo fl fa) x) →
      ∀ (i:Nat) (c:AV) (x:Value),(AV.mapNL fo fl fa cs)[i]? = some c → xs[i]? = some x → Rep K' w' c x:=fun cs xs hq ih i c x hc hx=>by
    rw [AV.mapNL_eq,List.getElem?_map] at hc
    cases hci:cs[i]? with
    | none=>simp [hci] at hc
    | some c0 =>
      simp only [hci,Option.map_some,Option.some.injEq] at hc
      subst hc
      exact ih i c0 x hci hx (AV.allNL_iff.1 hq c0 (List.mem_of_getElem? hci))
  induction h with
  | any=>intro _;simp only [AV.mapN];exact .any
  | d h=>intro _;simp only [AV.mapN];exact .d (h.up hI hk)
  | emp=>intro _;simp only [AV.mapN];exact .emp
  | agg h1 h2 h3 ih=>intro hq;simp only [AV.mapN,AV.allN] at hq ⊢;exact .agg (by simpa [AV.mapNL_eq] using h1) (sub _ _ hq ih) h3
  | tup h1 h2 ih=>intro hq;simp only [AV.mapN,AV.allN] at hq ⊢;exact .tup (by simpa [AV.mapNL_eq] using h1) (sub _ _ hq ih)
  | os=>intro hq;simp only [AV.mapN,AV.allN] at hq ⊢;exact ho _ _ hq
  | lp=>intro hq;simp only [AV.mapN,AV.allN] at hq ⊢;exact hl _ _ hq
  | ap=>intro hq;simp only [AV.mapN,AV.allN] at hq ⊢;exact ha _ _ _ _ hq
  | gd h1 h2 ih=>intro hq;simp only [AV.mapN,AV.allN] at hq ⊢;exact .gd (fun hp=>ih hp hq) h2
  | rp h1 h2 h3=>intro _;simp only [AV.mapN];exact .rp (hI _ h1) (fun j c hc=>(hk.cell h1).trans (h2 j c hc)) (fun j c hc=>(h3 j c hc).up hI hk)
  | clo h1 h2 h3 h4 ih1 ih2 =>
    intro hq
    simp only [AV.mapN,AV.allN,Bool.and_eq_true] at hq ⊢
    exact .clo (by simpa [AV.mapNL_eq] using h1) (by simpa [AV.mapNL_eq] using h2) (sub _ _ hq.1 ih1) (sub _ _ hq.2 ih2)
  | @mp n =>
    intro hq
    have h0:=hl n 0 hq
    simp only [AV.mapN]
    split
    · rename_i m o e
      rw [e] at h0
      generalize hp:Value.pointer (some (⟨K.blk n,0,none⟩:Addr)) = pv at h0
      cases h0
      simp only [Value.pointer.injEq,Option.some.injEq,Addr.mk.injEq,and_true] at hp
      rw [hp.1];exact .mp
    · exact .any
  | @sb n k i len hnl =>
    intro hq
    have h0:=ho n (len + 1) hq
    simp only [AV.mapN]
    split
    · rename_i m o e
      rw [e] at h0
      generalize hp:K.sl n (len + 1) = pv at h0
      cases h0
      simp only [KS.sl,hnl,cond_false] at hp
      cases hm:K'.nl m
      · simp only [hm,cond_false,Value.slice.injEq,Option.some.injEq,Addr.mk.injEq,and_true] at hp
        rw [hp.1,hp.2.2];exact .sb hm
      · simp only [hm,cond_true,Value.slice.injEq] at hp
        exact absurd hp.2.1 (by omega)
    · exact .any

mutual
theorem AV.mapN_id:∀ v:AV,v.mapN .os .lp .ap = v
  | .any | .d _ | .emp | .rp _ | .os _ _ | .lp _ _ | .ap _ _ _ _ | .mp _ | .sb _ _ _ _=>rfl
  | .gd p v=>by simp only [AV.mapN,AV.mapN_id v]
  | .agg cs=>by simp only [AV.mapN,AV.mapNL_id cs]
  | .tup cs=>by simp only [AV.mapN,AV.mapNL_id cs]
  | .clo f a b=>by simp only [AV.mapN,AV.mapNL_id a,AV.mapNL_id b]
theorem AV.mapNL_id:∀ cs:List AV,AV.mapNL .os .lp .ap cs = cs
  | []=>rfl
  | c :: cs=>by simp only [AV.mapNL,AV.mapN_id c,AV.mapNL_id cs]
end

mutual
theorem AV.allN_true:∀ v:AV,v.allN (fun _=>true) = true
  | .any | .d _ | .emp | .rp _ | .os _ _ | .lp _ _ | .ap _ _ _ _ | .mp _ | .sb _ _ _ _=>rfl
  | .gd p v=>by simp only [AV.allN,AV.allN_true v]
  | .agg cs=>by simp only [AV.allN,AV.allNL_true cs]
  | .tup cs=>by simp only [AV.allN,AV.allNL_true cs]
  | .clo f a b=>by simp only [AV.allN,AV.allNL_true a,AV.allNL_true b,Bool.and_self]
theorem AV.allNL_true:∀ cs:List AV,AV.allNL (fun _=>true) cs = true
  | []=>rfl
  | c :: cs=>by simp only [AV.allNL,AV.allN_true c,AV.allNL_true cs,Bool.and_self]
end

def KS.same (K K':KS) (n:Nat):Prop:=K'.blk n = K.blk n ∧ K'.cap n = K.cap n ∧ K'.nl n = K.nl n ∧ K'.ad n = K.ad n

theorem KS.same.sl {K K':KS} {n:Nat} (h:K.same K' n) (l:Nat):K.sl n l = K'.sl n l:=by
  obtain ⟨e1,e2,e3,e4⟩:=h;simp only [KS.sl,e1,e2,e3,e4]

theorem Rep.upQ {K K':KS} {w w':World} {q:Nat → Bool} (hI:∀ b,K.I b → K'.I b) (hk:Keep K.I w w') (hn:∀ n,q n = true → K.same K' n) {v:AV} {x:Value} (h:Rep K w v x) (hq:v.allN q = true):Rep K' w' v x:=by
  have:=Rep.map (fo:=.os) (fl:=.lp) (fa:=.ap) hI hk (fun n l hq=>by rw [(hn n hq).sl];exact .os) (fun n o hq=>by rw [← (hn n hq).1];exact .lp) (fun n k i j hq=>by rw [← (hn n hq).1];exact .ap) h hq
  rwa [AV.mapN_id] at this

theorem Rep.up {K K':KS} {w w':World} (hI:∀ b,K.I b → K'.I b) (hk:Keep K.I w w') (hn:∀ n,K.same K' n) {v:AV} {x:Value} (h:Rep K w v x):Rep K' w' v x :=
  h.upQ hI hk (fun n _=>hn n) (AV.allN_true v)

theorem Rep.world {K:KS} {w w':World} (hk:Keep K.I w w') {v:AV} {x:Value} (h:Rep K w v x):Rep K w' v x:=h.up (fun _ h=>h) hk (fun n=>⟨rfl,rfl,rfl,rfl⟩)

def AV.kill (n:Nat) (v:AV):AV:=v.mapN (fun m l=>if m = n then .any else .os m l) (fun m o=>if m = n then .any else .lp m o) (fun m k i j=>if m = n then .any else .ap m k i j)

theorem Rep.kill {K K':KS} {w w':World} {n:Nat} (hI:∀ b,K.I b → K'.I b) (hk:Keep K.I w w') (hn:∀ m,m ≠ n → K.same K' m) {v:AV} {x:Value} (h:Rep K w v x):Rep K' w' (v.kill n) x:=by
  refine Rep.map (q:=fun _=>true) hI hk (fun m l _=>?_) (fun m o _=>?_) (fun m k i j _=>?_) h (AV.allN_true v)
  · split
    · exact .any
    · rename_i hm;rw [(hn m hm).sl];exact .os
  · split
    · exact .any
    · rename_i hm;rw [← (hn m hm).1];exact .lp
  · split
    · exact .any
    · rename_i hm;rw [← (hn m hm).1];exact .ap

def AO.allN (q:Nat → Bool):AO → Bool
  | .box cs=>AV.allNL q cs
  | .arh _ _ _ h _=>AV.allNL q h
  | _=>true

def AO.kill (n:Nat):AO → AO
  | .box cs=>.box (cs.map (AV.kill n))
  | .arh k E p h q=>.arh k E p (h.map (AV.kill n)) q
  | o=>o

def KV.val:KV → Value
  | .i n=>.int .i64 n
  | .s2 a b=>.agg #[.string a,.string b]
def KV.kind:KV → Bool
  | .i _=>false
  | .s2 _ _=>true
def KV.fine:KV → Prop
  | .i _=>True
  | .s2 a b=>a.size ≤ maxLen ∧ b.size ≤ maxLen
def KV.ok (s:Bool) (k:KV):Prop:=k.kind = s ∧ k.fine
theorem KV.val_inj {a b:KV} (h:a.val = b.val):a = b:=by
  cases a<;>cases b<;>simp [KV.val] at h ⊢<;>exact h

def ArvOk (K:KS) (w:World) (n k:Nat) (E:TypeId) (rows:List (List AV)):Prop:=0 < k ∧ K.nl n = false ∧ ¬ K.I (K.blk n) ∧ ∃ (xs:List Value),w.heap[K.blk n]? = some (.cells xs.toArray E (0,0)) ∧ xs.length = K.cap n * k ∧ rows.length ≤ K.cap n ∧ K.cap n ≤ maxLen ∧ rows.length ≤ 2 ^ 47 ∧
      (∀ (i:Nat) (r:List AV),rows[i]? = some r → r.length = k) ∧ (∀ (i j:Nat) (r:List AV) (c:AV) (x:Value),rows[i]? = some r → r[j]? = some c → xs[i * k + j]? = some x → Rep K w c x) ∧ ∀ x ∈ xs,x.oneCell' = true
def hrows (pre:List (List RV)) (h:List AV) (post:List (List RV)):List (List AV):=pre.map (List.map .d) ++ h :: post.map (List.map .d)
theorem hrows_len (pre:List (List RV)) (h:List AV) (post:List (List RV)):(hrows pre h post).length = pre.length + 1 + post.length:=by simp [hrows];omega
theorem hrows_at (pre:List (List RV)) (h:List AV) (post:List (List RV)):(hrows pre h post)[pre.length]? = some h:=by simp [hrows]
theorem hrows_mem {pre:List (List RV)} {h:List AV} {post:List (List RV)} {i:Nat} {r:List AV} (hr:(hrows pre h post)[i]? = some r):r = h ∧ i = pre.length ∨ i ≠ pre.length ∧ ∃ r':List RV,r = r'.map .d:=by
  unfold hrows at hr
  rcases Nat.lt_trichotomy i pre.length with hi | hi | hi
  · rw [List.getElem?_append_left (by simpa using hi),List.getElem?_map] at hr
    cases hp:pre[i]? with
    | none=>simp [hp] at hr
    | some r'=>simp only [hp,Option.map_some,Option.some.injEq] at hr;exact .inr ⟨by omega,r',hr.symm⟩
  · subst hi;simp at hr;exact .inl ⟨hr.symm,rfl⟩
  · rw [List.getElem?_append_right (by simp;omega),List.getElem?_cons] at hr
    simp only [List.length_map] at hr
    rw [if_neg (by omega),List.getElem?_map] at hr
    cases hp:post[i - pre.length - 1]? with
    | none=>simp [hp] at hr
    | some r'=>simp only [hp,Option.map_some,Option.some.injEq] at hr;exact .inr ⟨by omega,r',hr.symm⟩
theorem hrows_other {pre:List (List RV)} {h h':List AV} {post:List (List RV)} {i:Nat} (hi:i ≠ pre.length):(hrows pre h' post)[i]? = (hrows pre h post)[i]?:=by
  unfold hrows
  rcases Nat.lt_or_ge i pre.length with hl | hl
  · rw [List.getElem?_append_left (by simpa using hl),List.getElem?_append_left (by simpa using hl)]
  · rw [List.getElem?_append_right (by simpa using hl),List.getElem?_append_right (by simpa using hl),List.getElem?_cons,List.getElem?_cons]
    simp only [List.length_map]
    rw [if_neg (by omega),if_neg (by omega)]
theorem ArvOk.map {K K':KS} {w w':World} {n k:Nat} {E:TypeId} {pre:List (List RV)} {h h':List AV} {post:List (List RV)} (hn:K.same K' n) (hI:∀ b,K.I b → K'.I b) (hk:Keep K.I w w') (hnI:(¬ K.I (K.blk n)) → ¬ K'.I (K'.blk n)) (hb:w'.heap[K.blk n]? = w.heap[K.blk n]?)
    (hl:h'.length = h.length) (hh:∀ (j:Nat) (c c':AV) (x:Value),h[j]? = some c → h'[j]? = some c' → Rep K w c x → Rep K' w' c' x) (ho:ArvOk K w n k E (hrows pre h post)):ArvOk K' w' n k E (hrows pre h' post):=by
  obtain ⟨h0,hl0,h1,xs,h2,h3,h4,h5,h6,h7,h8,h9⟩:=ho
  rw [hrows_len] at h4 h6
  refine ⟨h0,by rw [hn.2.2.1];exact hl0,hnI h1,xs,by rw [hn.1,hb];exact h2,by rw [hn.2.1];exact h3,by rw [hn.2.1,hrows_len];exact h4,by rw [hn.2.1];exact h5,by rw [hrows_len];exact h6,fun i r hr=>?_,fun i j r c x hr hc hx=>?_,h9⟩
  · by_cases hi:i = pre.length
    · subst hi;rw [hrows_at] at hr;cases hr;rw [hl];exact h7 _ _ (hrows_at _ _ _)
    · rw [hrows_other (h:=h) hi] at hr;exact h7 _ _ hr
  · by_cases hi:i = pre.length
    · subst hi
      rw [hrows_at] at hr;cases hr
      have hj:j < h.length:=by rw [← hl];exact (List.getElem?_eq_some_iff.1 hc).1
      exact hh j _ c x (List.getElem?_eq_getElem hj) hc (h8 _ j h _ x (hrows_at _ _ _) (List.getElem?_eq_getElem hj) hx)
    · rw [hrows_other (h:=h) hi] at hr
      have h10:=h8 i j r c x hr hc hx
      rcases hrows_mem hr with ⟨_,e⟩ | ⟨_,r',rfl⟩
      · exact absurd e hi
      · rw [List.getElem?_map] at hc
        cases hc':r'[j]? with
        | none=>simp [hc'] at hc
        | some c'=>simp only [hc',Option.map_some,Option.some.injEq] at hc;subst hc;cases h10 with | d h10=>exact .d (h10.up hI hk)

def RepO (K:KS) (w:World) (n:Nat):AO → Prop
  | .dead=>True
  | .box cs=>¬ K.I (K.blk n) ∧ ∃ (xs:List Value) (T:TypeId),w.heap[K.blk n]? = some (.cells xs.toArray T (0,0)) ∧ cs.length = xs.length ∧ (∀ (i:Nat) (c:AV) (x:Value),cs[i]? = some c → xs[i]? = some x → Rep K w c x) ∧ ∀ x ∈ xs,x.oneCell' = true
  | .arr k E rows=>0 < k ∧ (K.nl n = true ∧ rows = [] ∨ K.nl n = false ∧ ¬ K.I (K.blk n) ∧ ∃ (xs:List Value),w.heap[K.blk n]? = some (.cells xs.toArray E (0,0)) ∧ xs.length = K.cap n * k ∧ rows.length ≤ K.cap n ∧ K.cap n ≤ maxLen ∧ rows.length ≤ 2 ^ 47 ∧
      (∀ (i:Nat) (r:List RV),rows[i]? = some r → r.length = k) ∧ (∀ (i j:Nat) (r:List RV) (c:RV) (x:Value),rows[i]? = some r → r[j]? = some c → xs[i * k + j]? = some x → RRep K.I w c x) ∧ ∀ x ∈ xs,x.oneCell' = true)
  | .mp s es=>¬ K.I (K.blk n) ∧ (es.map (·.1)).Nodup ∧ (∀ p ∈ es,p.1.ok s) ∧ ∃ (xs:List MapEntry) (clock:Nat),w.heap[K.blk n]? = some (.map xs.toArray clock) ∧ xs.map (fun e=>(e.key,e.val)) = es.map (fun p=>(p.1.val,.bool p.2))
  | .arh k E p h q=>ArvOk K w n k E (hrows p h q)

def AO.live (K:KS) (n:Nat):AO → Prop
  | .dead=>False
  | .box _=>True
  | .arr _ _ _=>K.nl n = false
  | .mp _ _=>True
  | .arh _ _ _ _ _=>True

abbrev Sto:=Nat → AO

def GL (I:Nat → Prop) (w:World):Prop:=∀ g k n,globD = some (g,k,n) → I g ∧ ∀ i j c,i < n → (globR i)[j]? = some c → w.cell? ⟨g,i * k + j,none⟩ = some c
theorem GL.up {I I':Nat → Prop} {w w':World} (h:GL I w) (hI:∀ b,I b → I' b) (hk:Keep I w w'):GL I' w':=fun g k n e =>
  ⟨hI g (h g k n e).1,fun i j c hi hc=>(hk.cell (h g k n e).1).trans ((h g k n e).2 i j c hi hc)⟩

structure RepS (K:KS) (σ:Sto) (w:World):Prop where
  gl:GL K.I w
  inI:∀ b,K.I b → b < w.heap.size
  obj:∀ n,RepO K w n (σ n)
  inj:∀ n m,(σ n).live K n → (σ m).live K m → K.blk n = K.blk m → n = m

theorem RepO.up {K K':KS} {w w':World} {q:Nat → Bool} (hI:∀ b,K.I b → K'.I b) (hk:Keep K.I w w') (hs:∀ m,q m = true → K.same K' m) {n:Nat} (hn:K.same K' n)
    (hnI:(¬ K.I (K.blk n)) → ¬ K'.I (K'.blk n)) {o:AO} (hb:o.live K n → w'.heap[K.blk n]? = w.heap[K.blk n]?) (hq:o.allN q = true) (h:RepO K w n o):RepO K' w' n o:=by
  cases o with
  | dead=>trivial
  | box cs =>
    obtain ⟨h1,xs,T,h2,h3,h4,h5⟩:=h
    refine ⟨hnI h1,xs,T,by rw [hn.1,hb trivial];exact h2,h3,fun i c x hc hx=>?_,h5⟩
    exact (h4 i c x hc hx).upQ hI hk hs (AV.allNL_iff.1 hq c (List.mem_of_getElem? hc))
  | arr k E rows =>
    obtain ⟨h0,⟨hl,hr⟩ | ⟨hl,h1,xs,h2,h3,h4,h5,h6,h7,h8,h9⟩⟩:=h
    · exact ⟨h0,.inl ⟨by rw [hn.2.2.1];exact hl,hr⟩⟩
    · exact ⟨h0,.inr ⟨by rw [hn.2.2.1];exact hl,hnI h1,xs,by rw [hn.1,hb hl];exact h2,by rw [hn.2.1];exact h3,by rw [hn.2.1];exact h4,by rw [hn.2.1];exact h5,h6,h7,fun i j r c x hr hc hx=>(h8 i j r c x hr hc hx).up hI hk,h9⟩⟩
  | mp s es =>
    obtain ⟨h1,h2,h3,xs,clock,h4,h5⟩:=h
    exact ⟨hnI h1,h2,h3,xs,clock,by rw [hn.1,hb trivial];exact h4,h5⟩
  | arh k E p h0 q'=>exact ArvOk.map hn hI hk hnI (hb trivial) rfl (fun j c c' x hc hc' hx=>by rw [hc] at hc';cases hc';exact hx.upQ hI hk hs (AV.allNL_iff.1 hq c (List.mem_of_getElem? hc))) h

theorem AO.allN_true (o:AO):o.allN (fun _=>true) = true:=by cases o<;>first | rfl | exact AV.allNL_true _

abbrev Fr:=List (Nat × AV)

def Fr.get:Fr → Nat → AV
  | [],_=>.any
  | (s,v) :: l,t=>if s = t then v else Fr.get l t

def Fr.allN (q:Nat → Bool) (a:Fr):Bool:=a.all fun p=>p.2.allN q
def Fr.map (f:AV → AV) (a:Fr):Fr:=List.map (fun p=>(p.1,f p.2)) a

def RepF (K:KS) (w:World) (a:Fr) (t:Array Value):Prop:=∀ s,Rep K w (a.get s) (t.getD s undef)

theorem Fr.get_map (f:AV → AV) (hf:f .any = .any) (a:Fr) (s:Nat):Fr.get (Fr.map f a) s = f (Fr.get a s):=by
  induction a with
  | nil=>simp [Fr.map,Fr.get,hf]
  | cons p l ih =>
    simp only [Fr.map,List.map_cons,Fr.get] at ih ⊢
    split
    · rfl
    · exact ih

theorem Fr.get_allN {q:Nat → Bool} {a:Fr} (h:a.allN q = true) (s:Nat):(Fr.get a s).allN q = true:=by
  induction a with
  | nil=>rfl
  | cons p l ih =>
    simp only [Fr.allN,List.all_cons,Bool.and_eq_true] at h
    simp only [Fr.get]
    split
    · exact h.1
    · exact ih h.2

theorem RepF.up {K K':KS} {w w':World} {a:Fr} {t:Array Value} (h:RepF K w a t) (hI:∀ b,K.I b → K'.I b) (hk:Keep K.I w w') (hn:∀ n,K.same K' n):RepF K' w' a t :=
  fun s=>(h s).up hI hk hn

theorem RepF.upQ {K K':KS} {w w':World} {q:Nat → Bool} {a:Fr} {t:Array Value} (h:RepF K w a t) (hI:∀ b,K.I b → K'.I b) (hk:Keep K.I w w') (hn:∀ n,q n = true → K.same K' n) (hq:a.allN q = true):RepF K' w' a t :=
  fun s=>(h s).upQ hI hk hn (Fr.get_allN hq s)

theorem RepF.kill {K K':KS} {w w':World} {n:Nat} {a:Fr} {t:Array Value} (h:RepF K w a t) (hI:∀ b,K.I b → K'.I b) (hk:Keep K.I w w') (hn:∀ m,m ≠ n → K.same K' m):RepF K' w' (a.map (AV.kill n)) t :=
  fun s=>by rw [Fr.get_map _ rfl];exact (h s).kill hI hk hn

theorem RepF.put {K:KS} {w:World} {a:Fr} {act:Act} (h:RepF K w a act.tmps) (t:Tmp) (ht:t < act.tmps.size) {v:AV} {x:Value} (hv:Rep K w v x):RepF K w ((t,v) :: a) (act.put (some t) x).tmps:=by
  intro s
  simp only [Act.put,Fr.get]
  have e:(act.tmps.setIfInBounds t x).getD s undef = if t = s then x else act.tmps.getD s undef:=by
    simp only [Array.getD_eq_getD_getElem?,Array.getElem?_setIfInBounds]
    split
    · rename_i e;subst e;simp [ht]
    · rfl
  rw [e]
  by_cases hts:t = s
  · simp [hts,hv]
  · simp only [hts,if_false];exact h s

end Go.Proofs.Ytikgiadbkjmabaa

/- What operations that only read or reckon make of values as trees. No program in sight. -/
namespace Go.Proofs.Ytikgiadbkjmabaa
open Go.RowKit
set_option linter.unusedSimpArgs false
set_option linter.unusedVariables false

def tagg (P:Program) (t:TypeId):Option Bool:=match P.underlying t with
  | some (.struct _)=>some true
  | some (.array _ _)=>some true
  | some _=>some false
  | none=>none
def tsz (P:Program) (t:TypeId):Option Nat:=(P.info? t).map (·.size)
def tmapk (P:Program) (t:TypeId):Option Bool:=match P.underlying t with
  | some (.map kt _)=>match P.underlying kt with
    | some (.array _ _)=>some true
    | some _=>some false
    | none=>none
  | _=>none
def tel (P:Program) (t:TypeId):Option TypeId:=match P.underlying t with
  | some (.slice e)=>some e
  | _=>none
def tfld (P:Program) (s:TypeId) (f:Nat):Option (Nat × Nat):=match P.underlying s with
  | some (.struct fs)=>(fs[f]?).bind fun g=>(tsz P g.type).map fun z=>(g.offset,z)
  | _=>none
def tfagg (P:Program) (s:TypeId) (f:Nat):Option Bool:=match P.underlying s with
  | some (.struct fs)=>(fs[f]?).bind fun g=>tagg P g.type
  | _=>none
def tint (P:Program) (t:TypeId):Option IntKind:=match P.underlying t with
  | some (.int k)=>some k
  | _=>none
def tstr (P:Program) (t:TypeId):Bool:=match P.underlying t with
  | some .string=>true
  | _=>false
def tbool (P:Program) (t:TypeId):Bool:=match P.underlying t with
  | some .bool=>true
  | _=>false
def tarr (P:Program) (t:TypeId):Option (Nat × TypeId):=match P.underlying t with
  | some (.array n e)=>some (n,e)
  | _=>none

def AV.lit:Value → AV
  | .agg xs=>bif xs.toList.all (·.oneCell') then .agg (xs.toList.map fun x=>.d (.v x)) else .any
  | .tuple _=>.any
  | x=>.d (.v x)

def opd (a:Fr):Operand → Prop × AV
  | .tmp t=>match a.get t with
    | .gd p v=>(p,v)
    | v=>(True,v)
  | .const v=>(True,AV.lit v)
  | .global g=>(True,.d (.v (.pointer (some ⟨g,0,none⟩))))
  | .func f=>(True,.clo (.func f) [] [])

def OpOk (K:KS) (w:World) (a:Fr) (ρ:Operand → Value) (x:Operand):Prop:=(opd a x).1 → Rep K w (opd a x).2 (ρ x)

theorem AV.lit_ok {K:KS} {w:World} (x:Value):Rep K w (AV.lit x) x:=by
  unfold AV.lit
  split
  · rename_i xs
    cases h:xs.toList.all (·.oneCell')
    · exact .any
    · simp only [cond_true]
      have h':=List.all_eq_true.1 h
      have:=Rep.agg (K:=K) (w:=w) (cs:=xs.toList.map fun x=>.d (.v x)) (xs:=xs.toList) (by simp) (fun i c x hc hx=>by
        simp only [List.getElem?_map,hx,Option.map_some,Option.some.injEq] at hc
        subst hc
        exact .d (.v (h' x (List.mem_of_getElem? hx)))) h'
      simpa using this
  · exact .any
  · rename_i h1 h2
    refine .d (.v ?_)
    cases x<;>first | rfl | exact absurd rfl (h1 _) | exact absurd rfl (h2 _)

def AV.pick (b:Bool) (x y:AV):AV:=match x,y with
  | .d (.v (.bool p)),.d (.v (.bool q))=>.d (.v (.bool (bif b then p else q)))
  | x,y=>bif b then x else y

theorem AV.pick_ok {K:KS} {w:World} {b:Bool} {x y:AV} {u v:Value} (hx:b = true → Rep K w x u) (hy:b = false → Rep K w y v):Rep K w (AV.pick b x y) (bif b then u else v):=by
  unfold AV.pick
  split
  · cases b
    · have:=hy rfl
      cases this with | d h=>cases h with | v h=>exact .d (.v rfl)
    · have:=hx rfl
      cases this with | d h=>cases h with | v h=>exact .d (.v rfl)
  · cases b
    · exact hy rfl
    · exact hx rfl

def rowOf (rows:List (List RV)) (i:Nat):List RV:=rows.getD i []

def loadV (P:Program) (σ:Sto) (t:TypeId):AV → Option (Prop × AV)
  | .lp n off=>match σ n,tagg P t,tsz P t with
    | .box cs,some true,some s=>if off + s ≤ cs.length then some (True,.agg ((cs.drop off).take s)) else none
    | .box cs,some false,_=>(cs[off]?).map fun c=>(True,c)
    | _,_,_=>none
  | .rp cs=>match tagg P t,tsz P t with
    | some true,some s=>if s ≤ cs.length then some (True,.agg ((cs.take s).map .d)) else none
    | some false,_=>(cs[0]?).map fun c=>(True,.d c)
    | _,_=>none
  | .ap n k i j=>match σ n,tagg P t,tsz P t with
    | .arr k' _ rows,some true,some s=>some (k' = k ∧ i < rows.length ∧ j + s ≤ (rowOf rows i).length,.agg ((((rowOf rows i).drop j).take s).map .d))
    | .arr k' _ rows,some false,_=>some (k' = k ∧ i < rows.length ∧ j < (rowOf rows i).length,.d ((rowOf rows i).getD j (.ro [])))
    | .arh k' _ p h _,some true,some s=>some (k' = k ∧ i = p.length ∧ j + s ≤ h.length,.agg ((h.drop j).take s))
    | .arh k' _ p h _,some false,_=>some (k' = k ∧ i = p.length ∧ j < h.length,h.getD j .any)
    | _,_,_=>none
  | _=>none

theorem addr_add (b o n:Nat):(⟨b,o,none⟩:Addr).add n = ⟨b,o + n,none⟩:=by
  unfold Addr.add;split<;>simp_all

theorem run_isAgg' {P:Program} {w:World} {t:TypeId} {b:Bool} (h:tagg P t = some b):(isAgg t).run P w = .ok b w:=by
  unfold tagg at h
  unfold isAgg
  cases hu:P.underlying t with
  | none=>simp [hu] at h
  | some d =>
    cases d<;>simp [hu] at h<;>subst h<;>simp [run_underlying hu]

theorem run_sizeOf' {P:Program} {w:World} {t:TypeId} {s:Nat} (h:tsz P t = some s):(sizeOf t).run P w = .ok s w:=by
  unfold tsz at h
  cases hi:P.info? t with
  | none=>simp [hi] at h
  | some i=>simp [hi] at h;subst h;simp [sizeOf,typeInfo,hi]

theorem run_loadVar_agg {P:Program} {w:World} {t:TypeId} {s b o:Nat} {vs:List Value} (ha:tagg P t = some true) (hs:tsz P t = some s) (hl:vs.length = s) (h:∀ j v,vs[j]? = some v → w.cell? ⟨b,o + j,none⟩ = some v) :
    (loadVar t ⟨b,o,none⟩).run P w = .ok (.agg vs.toArray) w:=by
  subst hl
  have:=run_loadCells_list (P:=P) w ⟨b,o,none⟩ vs (fun j v hj=>by rw [addr_add];exact h j v hj)
  simp [loadVar,run_isAgg' ha,run_sizeOf' hs,this,Result.andThen]

theorem run_loadVar_one {P:Program} {w:World} {t:TypeId} {a:Addr} {v:Value} (ha:tagg P t = some false) (h:w.cell? a = some v):(loadVar t a).run P w = .ok v w:=by
  simp [loadVar,run_isAgg' ha,h,Result.andThen]

theorem cells_at {w:World} {b:Nat} {xs:List Value} {T:TypeId} {fr:Nat × Nat} (h:w.heap[b]? = some (.cells xs.toArray T fr)) (o:Nat):w.cell? ⟨b,o,none⟩ = xs[o]?:=by
  simp [World.cell?,h]

theorem rowOf_get {rows:List (List RV)} {i:Nat} (h:i < rows.length):rows[i]? = some (rowOf rows i):=by
  simp [rowOf,List.getD,h]

theorem cell_same {w w':World} {b o:Nat} (h:w'.heap[b]? = w.heap[b]?):w'.cell? ⟨b,o,none⟩ = w.cell? ⟨b,o,none⟩:=by simp [World.cell?,h]

def avName:AV → Option Nat
  | .lp n _=>some n
  | .ap n _ _ _=>some n
  | _=>none

def atBlk (K:KS):AV → Nat → Prop
  | .lp n _,b=>b = K.blk n
  | .ap n _ _ _,b=>b = K.blk n
  | _,b=>K.I b

theorem loadV_raw {P:Program} {K:KS} {σ:Sto} {w:World} {t:TypeId} {p v:AV} {q:Prop} {x:Value} (hS:RepS K σ w) (h:Rep K w p x) (he:loadV P σ t p = some (q,v)) (hq:q):∃ b y,(atBlk K p b ∧ ∀ n,avName p = some n → (σ n).live K n) ∧ (∀ w':World,w'.heap[b]? = w.heap[b]? → (Instr.loadAt t x).run P w' = .ok y w') ∧ Rep K w v y:=by
  unfold loadV at he
  split at he
  · rename_i n off
    cases h
    split at he
    · rename_i cs s hn ha hs
      split at he
      · rename_i hlen
        simp only [Option.some.injEq,Prod.mk.injEq] at he
        obtain ⟨rfl,rfl⟩:=he
        have hO:=hS.obj n
        rw [hn] at hO
        obtain ⟨h1,xs,T,h2,h3,h4,h5⟩:=hO
        have hl:((xs.drop off).take s).length = s:=by simp;omega
        refine ⟨K.blk n,.agg ((xs.drop off).take s).toArray,⟨rfl,fun m hm=>by cases hm;rw [hn];trivial⟩,fun w' hw'=>?_,.agg (by simp;omega) (fun i c x hc hx=>?_) (fun x hx=>h5 x (List.mem_of_mem_drop (List.mem_of_mem_take hx)))⟩
        · have:=run_loadVar_agg (P:=P) (w:=w') (b:=K.blk n) (o:=off) ha hs hl (fun j v hj=>by
            rw [cells_at (hw'.trans h2)]
            rw [List.getElem?_take] at hj
            split at hj
            · rw [List.getElem?_drop] at hj;exact hj
            · cases hj)
          simp [Instr.loadAt,Instr.sureAddr,this]
        · rw [List.getElem?_take] at hc hx
          split at hc
          · rename_i hi
            rw [if_pos hi] at hx
            rw [List.getElem?_drop] at hc hx
            exact h4 _ _ _ hc hx
          · cases hc
      · cases he
    · rename_i cs hn ha
      simp only [Option.map_eq_some_iff,Prod.mk.injEq] at he
      obtain ⟨c,hc,rfl,rfl⟩:=he
      have hO:=hS.obj n
      rw [hn] at hO
      obtain ⟨h1,xs,T,h2,h3,h4,h5⟩:=hO
      have hlt:off < cs.length:=(List.getElem?_eq_some_iff.1 hc).1
      have hx:xs[off]? = some (xs[off]'(by omega)):=List.getElem?_eq_getElem _
      refine ⟨K.blk n,xs[off]'(by omega),⟨rfl,fun m hm=>by cases hm;rw [hn];trivial⟩,fun w' hw'=>?_,h4 _ _ _ hc hx⟩
      have:=run_loadVar_one (P:=P) (w:=w') (t:=t) (a:=⟨K.blk n,off,none⟩) ha ((cells_at (hw'.trans h2) off).trans hx)
      simp [Instr.loadAt,Instr.sureAddr,this]
    · cases he
  · rename_i cs
    cases h
    rename_i b o f h1 h2 h3
    split at he
    · rename_i s ha hs
      split at he
      · rename_i hlen
        simp only [Option.some.injEq,Prod.mk.injEq] at he
        obtain ⟨rfl,rfl⟩:=he
        have hl:((List.range s).map f).length = s:=by simp
        refine ⟨b,.agg ((List.range s).map f).toArray,⟨h1,fun m hm=>by cases hm⟩,fun w' hw'=>?_,.agg (by simp;omega) (fun i c x hc hx=>?_) (fun x hx=>?_)⟩
        · have:=run_loadVar_agg (P:=P) (w:=w') (b:=b) (o:=o) ha hs hl (fun j v hj=>by
            rw [cell_same hw']
            simp only [List.getElem?_map] at hj
            cases hr:(List.range s)[j]? with
            | none=>simp [hr] at hj
            | some m =>
              have hm:=List.getElem?_eq_some_iff.1 hr
              obtain ⟨hm1,hm2⟩:=hm
              simp at hm1 hm2
              subst hm2
              simp [hr] at hj
              subst hj
              exact h2 j (cs[j]'(by omega)) (List.getElem?_eq_getElem _))
          simp only [Instr.loadAt,Instr.sureAddr,Sem.run_bind,Sem.run_pure,Result.andThen]
          exact this
        · simp only [List.getElem?_map] at hc hx
          cases hr:(List.range s)[i]? with
          | none=>simp [hr] at hx
          | some m =>
            obtain ⟨hm1,hm2⟩:=List.getElem?_eq_some_iff.1 hr
            simp at hm1 hm2
            subst hm2
            simp [hr] at hx
            subst hx
            cases hr2:(cs.take s)[i]? with
            | none=>simp [hr2] at hc
            | some c' =>
              simp [hr2] at hc
              subst hc
              rw [List.getElem?_take,if_pos hm1] at hr2
              exact .d (h3 i c' hr2)
        · simp only [List.mem_map,List.mem_range] at hx
          obtain ⟨i,hi,rfl⟩:=hx
          exact (h3 i (cs[i]'(by omega)) (List.getElem?_eq_getElem _)).one
      · cases he
    · rename_i ha
      simp only [Option.map_eq_some_iff,Prod.mk.injEq] at he
      obtain ⟨c,hc,rfl,rfl⟩:=he
      refine ⟨b,f 0,⟨h1,fun m hm=>by cases hm⟩,fun w' hw'=>?_,.d (h3 0 c hc)⟩
      have:=run_loadVar_one (P:=P) (w:=w') (t:=t) (a:=⟨b,o,none⟩) ha ((cell_same hw').trans (by simpa using h2 0 c hc))
      simp [Instr.loadAt,Instr.sureAddr,this]
    · cases he
  · rename_i n k i j
    cases h
    have arr:∀ {k' E rows},σ n = .arr k' E rows → k' = k → i < rows.length → 0 < k ∧ K.nl n = false ∧ ∃ xs:List Value,w.heap[K.blk n]? = some (.cells xs.toArray E (0,0)) ∧ (rowOf rows i).length = k ∧ i * k + k ≤ xs.length ∧ (∀ j c x,(rowOf rows i)[j]? = some c → xs[i * k + j]? = some x → RRep K.I w c x) ∧ ∀ x ∈ xs,x.oneCell' = true:=fun {k' E rows} hn hk hi=>by
      subst hk
      have hO:=hS.obj n
      rw [hn] at hO
      obtain ⟨h0,⟨hl,hr⟩ | ⟨hl,h1,xs,h2,h3,h4,h5,h6,h7,h8,h9⟩⟩:=hO
      · subst hr;simp at hi
      · refine ⟨h0,hl,xs,h2,h7 _ _ (rowOf_get hi),?_,fun j c x hc hx=>h8 _ _ _ _ _ (rowOf_get hi) hc hx,h9⟩
        have:(i + 1) * k' ≤ K.cap n * k':=Nat.mul_le_mul_right k' (by omega)
        rw [Nat.add_mul] at this;omega
    split at he
    · rename_i k' E rows s hn ha hs
      simp only [Option.some.injEq,Prod.mk.injEq] at he
      obtain ⟨rfl,rfl⟩:=he
      obtain ⟨hk,hi,hj⟩:=hq
      obtain ⟨h0,hnl,xs,h2,hr,hle,h8,h9⟩:=arr hn hk hi
      have hl:((xs.drop (i * k + j)).take s).length = s:=by simp;omega
      refine ⟨K.blk n,.agg ((xs.drop (i * k + j)).take s).toArray,⟨rfl,fun m hm=>by cases hm;rw [hn];exact hnl⟩,fun w' hw'=>?_,.agg (by simp;omega) (fun m c x hc hx=>?_) (fun x hx=>h9 x (List.mem_of_mem_drop (List.mem_of_mem_take hx)))⟩
      · have:=run_loadVar_agg (P:=P) (w:=w') (b:=K.blk n) (o:=i * k + j) ha hs hl (fun j v hj=>by
          rw [cells_at (hw'.trans h2)]
          rw [List.getElem?_take] at hj
          split at hj
          · rw [List.getElem?_drop] at hj;exact hj
          · cases hj)
        simp [Instr.loadAt,Instr.sureAddr,this]
      · simp only [List.getElem?_map,List.getElem?_take,List.getElem?_drop] at hc hx
        split at hc
        · rename_i hm
          rw [if_pos hm] at hx
          cases hc':(rowOf rows i)[j + m]? with
          | none=>simp [hc'] at hc
          | some c' =>
            simp [hc'] at hc
            subst hc
            exact .d (h8 _ _ _ hc' (by rw [← hx];congr 1;omega))
        · simp at hc
    · rename_i k' E rows hn ha
      simp only [Option.some.injEq,Prod.mk.injEq] at he
      obtain ⟨rfl,rfl⟩:=he
      obtain ⟨hk,hi,hj⟩:=hq
      obtain ⟨h0,hnl,xs,h2,hr,hle,h8,h9⟩:=arr hn hk hi
      have hx:xs[i * k + j]? = some (xs[i * k + j]'(by omega)):=List.getElem?_eq_getElem _
      refine ⟨K.blk n,xs[i * k + j]'(by omega),⟨rfl,fun m hm=>by cases hm;rw [hn];exact hnl⟩,fun w' hw'=>?_,.d (h8 j _ _ (by simp [List.getD,hj]) hx)⟩
      have:=run_loadVar_one (P:=P) (w:=w') (t:=t) (a:=⟨K.blk n,i * k + j,none⟩) ha ((cells_at (hw'.trans h2) _).trans hx)
      simp [Instr.loadAt,Instr.sureAddr,this]
    · rename_i k' E p h q' s hn ha hs
      simp only [Option.some.injEq,Prod.mk.injEq] at he
      obtain ⟨rfl,rfl⟩:=he
      obtain ⟨rfl,rfl,hj⟩:=hq
      have hO:=hS.obj n
      rw [hn] at hO
      obtain ⟨h0,hnl,h1,xs,h2,h3,h4,h5,h6,h7,h8,h9⟩:=hO
      have hk:=h7 _ _ (hrows_at p h q')
      rw [hrows_len] at h4
      have hle:p.length * k' + k' ≤ xs.length:=by
        have:(p.length + 1) * k' ≤ K.cap n * k':=Nat.mul_le_mul_right k' (by omega)
        rw [Nat.add_mul] at this;omega
      have hl:((xs.drop (p.length * k' + j)).take s).length = s:=by simp;omega
      refine ⟨K.blk n,.agg ((xs.drop (p.length * k' + j)).take s).toArray,⟨rfl,fun m hm=>by cases hm;rw [hn];trivial⟩,fun w' hw'=>?_,.agg (by simp;omega) (fun m c x hc hx=>?_) (fun x hx=>h9 x (List.mem_of_mem_drop (List.mem_of_mem_take hx)))⟩
      · have:=run_loadVar_agg (P:=P) (w:=w') (b:=K.blk n) (o:=p.length * k' + j) ha hs hl (fun j v hj=>by
          rw [cells_at (hw'.trans h2)]
          rw [List.getElem?_take] at hj
          split at hj
          · rw [List.getElem?_drop] at hj;exact hj
          · cases hj)
        simp [Instr.loadAt,Instr.sureAddr,this]
      · simp only [List.getElem?_take,List.getElem?_drop] at hc hx
        split at hc
        · rename_i hm
          rw [if_pos hm] at hx
          exact h8 _ _ _ _ _ (hrows_at p h q') hc (by rw [← hx];congr 1;omega)
        · simp at hc
    · rename_i k' E p h q' hn ha
      simp only [Option.some.injEq,Prod.mk.injEq] at he
      obtain ⟨rfl,rfl⟩:=he
      obtain ⟨rfl,rfl,hj⟩:=hq
      have hO:=hS.obj n
      rw [hn] at hO
      obtain ⟨h0,hnl,h1,xs,h2,h3,h4,h5,h6,h7,h8,h9⟩:=hO
      have hk:=h7 _ _ (hrows_at p h q')
      rw [hrows_len] at h4
      have hle:p.length * k' + k' ≤ xs.length:=by
        have:(p.length + 1) * k' ≤ K.cap n * k':=Nat.mul_le_mul_right k' (by omega)
        rw [Nat.add_mul] at this;omega
      have hx:xs[p.length * k' + j]? = some (xs[p.length * k' + j]'(by omega)):=List.getElem?_eq_getElem _
      refine ⟨K.blk n,xs[p.length * k' + j]'(by omega),⟨rfl,fun m hm=>by cases hm;rw [hn];trivial⟩,fun w' hw'=>?_,h8 _ j _ _ _ (hrows_at p h q') (by simp [List.getD,hj]) hx⟩
      have:=run_loadVar_one (P:=P) (w:=w') (t:=t) (a:=⟨K.blk n,p.length * k' + j,none⟩) ha ((cells_at (hw'.trans h2) _).trans hx)
      simp [Instr.loadAt,Instr.sureAddr,this]
    · cases he
  · cases he

theorem loadV_ok {P:Program} {K:KS} {σ:Sto} {w:World} {t:TypeId} {p v:AV} {q:Prop} {x:Value} (hS:RepS K σ w) (h:Rep K w p x) (he:loadV P σ t p = some (q,v)) (hq:q):∃ y,(Instr.loadAt t x).run P w = .ok y w ∧ Rep K w v y:=by
  obtain ⟨b,y,_,h1,h2⟩:=loadV_raw hS h he hq
  exact ⟨y,h1 w rfl,h2⟩
end Go.Proofs.Ytikgiadbkjmabaa

/- Structs compared: cell by cell. No program in sight. -/
namespace Go.Proofs.Ytikgiadbkjmabaa
open Go.RowKit
set_option linter.unusedSimpArgs false
set_option linter.unusedVariables false

def feq (P:Program):Nat → TypeId → List AV → List AV → Option (Prop × Bool)
  | 0,_,_,_=>none
  | d + 1,t,xs,ys=>match P.underlying t with
    | some .bool=>match xs,ys with
      | [.d (.v (.bool a))],[.d (.v (.bool b))]=>some (True,a == b)
      | _,_=>none
    | some (.int _)=>match xs,ys with
      | [.d (.v (.int k a))],[.d (.v (.int k' b))]=>some (k = k',a == b)
      | _,_=>none
    | some .string=>match xs,ys with
      | [.d (.v (.string a))],[.d (.v (.string b))]=>some (True,a.toList == b.toList)
      | _,_=>none
    | some (.struct fs)=>if P.stoodInHeld t = true then none else
      fs.toList.foldr (fun f acc=>if f.name = "_" then none else match tsz P f.type,acc with
        | some z,some (q,c)=>(feq P d f.type ((xs.drop f.offset).take z) ((ys.drop f.offset).take z)).map fun r=>(r.1 ∧ q,r.2 && c)
        | _,_=>none) (some (True,true))
    | _=>none

def tcmp (P:Program) (t:TypeId):Bool:=!P.eqGuardType P.depth t && tagg P t == some true

def cellVal (P:Program) (t:TypeId) (cs:List Value):Value:=if tagg P t = some true then .agg cs.toArray else cs.headD undef

theorem feq_ok {P:Program} {K:KS} {w:World}:∀ {d:Nat} {t:TypeId} {xs ys:List AV} {q:Prop} {b:Bool} {cx cy:List Value},feq P d t xs ys = some (q,b) → q → xs.length = cx.length → ys.length = cy.length →
    (∀ (i:Nat) (c:AV) (x:Value),xs[i]? = some c → cx[i]? = some x → Rep K w c x) → (∀ (i:Nat) (c:AV) (x:Value),ys[i]? = some c → cy[i]? = some x → Rep K w c x) → ∀ (m:Nat) (w':World),(Op.equalIn (d + m) t (cellVal P t cx) (cellVal P t cy)).run P w' = .ok b w'
  | 0,t,xs,ys,q,b,cx,cy,h,_,_,_,_,_=>by cases h
  | d + 1,t,xs,ys,q,b,cx,cy,h,hq,lx,ly,hx,hy=>by
    intro m w'
    have ed:d + 1 + m = (d + m) + 1:=by omega
    rw [ed]
    have one:∀ {c:AV} {cs:List Value},[c].length = cs.length → ∃ v,cs = [v]:=fun h=>List.length_eq_one_iff.1 h.symm
    unfold feq at h
    split at h
    · rename_i hu
      split at h
      · rename_i a b'
        cases h
        obtain ⟨vx,rfl⟩:=one lx
        obtain ⟨vy,rfl⟩:=one ly
        have ex:=hx 0 _ _ rfl rfl
        have ey:=hy 0 _ _ rfl rfl
        cases ex with | d ex=>cases ex with | v ex =>
        cases ey with | d ey=>cases ey with | v ey =>
        have hn:¬ tagg P t = some true:=by simp [tagg,hu]
        simp only [cellVal,if_neg hn,List.headD_cons]
        simp [Op.equalIn,run_underlying hu]
      · cases h
    · rename_i kk hu
      split at h
      · rename_i k a k' b'
        cases h
        subst hq
        obtain ⟨vx,rfl⟩:=one lx
        obtain ⟨vy,rfl⟩:=one ly
        have ex:=hx 0 _ _ rfl rfl
        have ey:=hy 0 _ _ rfl rfl
        cases ex with | d ex=>cases ex with | v ex =>
        cases ey with | d ey=>cases ey with | v ey =>
        have hn:¬ tagg P t = some true:=by simp [tagg,hu]
        simp only [cellVal,if_neg hn,List.headD_cons]
        simp [Op.equalIn,run_underlying hu]
      · cases h
    · rename_i hu
      split at h
      · rename_i a b'
        cases h
        obtain ⟨vx,rfl⟩:=one lx
        obtain ⟨vy,rfl⟩:=one ly
        have ex:=hx 0 _ _ rfl rfl
        have ey:=hy 0 _ _ rfl rfl
        cases ex with | d ex=>cases ex with | v ex =>
        cases ey with | d ey=>cases ey with | v ey =>
        have hn:¬ tagg P t = some true:=by simp [tagg,hu]
        simp only [cellVal,if_neg hn,List.headD_cons]
        exact run_equalIn_string w' (d + m) t a b' hu
      · cases h
    · rename_i fs hu
      split at h
      · cases h
      · rename_i hst
        have ha:tagg P t = some true:=by simp [tagg,hu]
        simp only [cellVal,if_pos ha]
        have hfo:P.fieldsOf t = fs:=by simp [Program.fieldsOf,hu]
        rw [run_equalIn_struct w' (d + m) t cx.toArray cy.toArray (by rw [hfo];exact hu) (by simpa using hst),hfo]
        have sub:∀ {xs:List AV} {cx:List Value} (o z:Nat),xs.length = cx.length → (∀ (i:Nat) (c:AV) (x:Value),xs[i]? = some c → cx[i]? = some x → Rep K w c x) → ((xs.drop o).take z).length = ((cx.drop o).take z).length ∧
            ∀ (i:Nat) (c:AV) (x:Value),((xs.drop o).take z)[i]? = some c → ((cx.drop o).take z)[i]? = some x → Rep K w c x:=fun o z hl h=>by
          refine ⟨by simp [hl],fun i c x hc hx=>?_⟩
          rw [List.getElem?_take] at hc hx
          split at hc
          · rename_i hi
            rw [if_pos hi] at hx
            rw [List.getElem?_drop] at hc hx
            exact h _ _ _ hc hx
          · cases hc
        have hpart:∀ (f:TypeId) (o z:Nat) (xs':List AV) (cs:List Value) (r:Option (Prop × Bool)),tsz P f = some z → (tagg P f).isSome → ((tagg P f = some false) → ∃ v,(cs.drop o).take z = [v]) → (part f cs.toArray o).run P w' = .ok (cellVal P f ((cs.drop o).take z)) w':=fun f o z xs' cs r hz hag h1=>by
          obtain ⟨bb,hbb⟩:=Option.isSome_iff_exists.1 hag
          cases bb
          · obtain ⟨v,hv⟩:=h1 hbb
            have hg:cs[o]? = some v:=by
              have:((cs.drop o).take z)[0]? = some v:=by rw [hv];rfl
              rw [List.getElem?_take] at this
              split at this
              · simpa using this
              · cases this
            simp [part,run_isAgg' hbb,cellVal,hbb,hv,hg]
          · simp only [part,run_isAgg' hbb,cellVal,hbb,Sem.run_bind,Result.andThen,run_sizeOf' hz,if_true,Sem.run_pure]
            congr 2
            apply Array.toList_inj.1
            simp [List.extract]
        have hund:∀ {f:TypeId} {d:Nat} {xs ys:List AV} {r},feq P d f xs ys = some r → (tagg P f).isSome ∧ (tagg P f = some false → ∃ a b,xs = [a] ∧ ys = [b]):=fun {f d xs ys r} h=>by
          cases d with
          | zero=>cases h
          | succ d =>
            unfold feq at h
            split at h
            · rename_i hu'
              split at h
              · exact ⟨by simp [tagg,hu'],fun _=>⟨_,_,rfl,rfl⟩⟩
              · cases h
            · rename_i hu'
              split at h
              · exact ⟨by simp [tagg,hu'],fun _=>⟨_,_,rfl,rfl⟩⟩
              · cases h
            · rename_i hu'
              split at h
              · exact ⟨by simp [tagg,hu'],fun _=>⟨_,_,rfl,rfl⟩⟩
              · cases h
            · rename_i hu'
              exact ⟨by simp [tagg,hu'],fun h=>by simp [tagg,hu'] at h⟩
            · cases h
        clear hst hfo ha ed one hu
        generalize fs.toList = fl at h ⊢
        induction fl generalizing q b with
        | nil=>cases h;simp [Op.eqFields]
        | cons f fl ih =>
          simp only [List.foldr_cons] at h
          split at h
          · cases h
          · rename_i hname
            split at h
            · rename_i acc0 z q' c' hz hacc
              simp only [Option.map_eq_some_iff,Prod.mk.injEq] at h
              obtain ⟨⟨p0,b0⟩,hf,rfl,rfl⟩:=h
              obtain ⟨s1,s2⟩:=sub f.offset z lx hx
              obtain ⟨s3,s4⟩:=sub f.offset z ly hy
              have hrec:=feq_ok hf hq.1 s1 s3 s2 s4 m w'
              obtain ⟨u1,u2⟩:=hund hf
              have px:=hpart f.type f.offset z xs cx none hz u1 (fun hh=>by
                obtain ⟨a,b,e1,e2⟩:=u2 hh
                rw [e1] at s1
                exact List.length_eq_one_iff.1 s1.symm)
              have py:=hpart f.type f.offset z ys cy none hz u1 (fun hh=>by
                obtain ⟨a,b,e1,e2⟩:=u2 hh
                rw [e2] at s3
                exact List.length_eq_one_iff.1 s3.symm)
              have:=ih _ _ hq.2 hacc
              simp only [Op.eqFields,hname,ne_eq,not_false_eq_true,if_true,Sem.run_bind,px,py,hrec,Result.andThen]
              cases b0
              · simp
              · simpa using this
            · cases h
    · cases h
end Go.Proofs.Ytikgiadbkjmabaa

/- What operations that only read or reckon make of values as trees (2): addresses,numbers,lengths,parts. No program in sight. -/
namespace Go.Proofs.Ytikgiadbkjmabaa
open Go.RowKit
set_option linter.unusedSimpArgs false
set_option linter.unusedVariables false

def fieldV (P:Program) (s:TypeId) (f:Nat):AV → Option (Prop × AV)
  | .lp n off=>match tfld P s f with | some (o,z)=>if z = 0 then none else some (True,.lp n (off + o)) | none=>none
  | .rp cs=>match tfld P s f with | some (o,z)=>if z = 0 then none else some (True,.rp (cs.drop o)) | none=>none
  | .ap n k i j=>match tfld P s f with | some (o,z)=>if z = 0 then none else some (True,.ap n k i (j + o)) | none=>none
  | _=>none

theorem run_fieldAt {P:Program} {w:World} {s:TypeId} {f o z b off:Nat} (h:tfld P s f = some (o,z)) (hz:z ≠ 0):(Instr.fieldAt s (.pointer (some ⟨b,off,none⟩)) f).run P w = .ok (.pointer (some ⟨b,off + o,none⟩)) w:=by
  unfold tfld at h
  split at h
  · rename_i fs hu
    cases hf:fs[f]? with
    | none=>simp [hf] at h
    | some g =>
      simp only [hf,Option.bind_some,Option.map_eq_some_iff,Prod.mk.injEq] at h
      obtain ⟨z',hz',rfl,rfl⟩:=h
      have:=run_sizeOf' (w:=w) hz'
      simp [Instr.fieldAt,run_underlying hu,hf,Instr.sureAddr,fieldPlace,this,hz,addr_add]
  · cases h

theorem fieldV_ok {P:Program} {K:KS} {w:World} {s:TypeId} {f:Nat} {p v:AV} {q:Prop} {x:Value} (h:Rep K w p x) (he:fieldV P s f p = some (q,v)):∃ y,(∀ w:World,(Instr.fieldAt s x f).run P w = .ok y w) ∧ Rep K w v y:=by
  unfold fieldV at he
  split at he
  · cases h
    split at he
    · rename_i ho
      split at he
      · cases he
      · rename_i hz
        simp only [Option.some.injEq,Prod.mk.injEq] at he
        obtain ⟨_,rfl⟩:=he
        exact ⟨_,fun w=>run_fieldAt ho hz,.lp⟩
    · cases he
  · cases h
    rename_i cs b o f' h1 h2 h3
    split at he
    · rename_i o' z ho
      split at he
      · cases he
      · rename_i hz
        simp only [Option.some.injEq,Prod.mk.injEq] at he
        obtain ⟨_,rfl⟩:=he
        refine ⟨_,fun w=>run_fieldAt ho hz,.rp (f:=fun j=>f' (o' + j)) h1 (fun j c hc=>?_) (fun j c hc=>?_)⟩
        · rw [List.getElem?_drop] at hc;rw [Nat.add_assoc];exact h2 _ _ hc
        · rw [List.getElem?_drop] at hc;exact h3 _ _ hc
    · cases he
  · cases h
    split at he
    · rename_i ho
      split at he
      · cases he
      · rename_i hz
        simp only [Option.some.injEq,Prod.mk.injEq] at he
        obtain ⟨_,rfl⟩:=he
        refine ⟨_,fun w=>run_fieldAt ho hz,?_⟩
        rw [Nat.add_assoc]
        exact .ap
    · cases he
  · cases he

theorem run_underlying_el {P:Program} {t e:TypeId} (h:tel P t = some e):P.underlying t = some (.slice e):=by
  unfold tel at h
  split at h
  · rename_i hu;simp at h;subst h;exact hu
  · cases h

theorem run_underlying_arr {P:Program} {t e:TypeId} {n:Nat} (h:tarr P t = some (n,e)):P.underlying t = some (.array n e):=by
  unfold tarr at h
  split at h
  · rename_i hu;simp at h;obtain ⟨rfl,rfl⟩:=h;exact hu
  · cases h

def indexV (P:Program) (σ:Sto) (t:TypeId):AV → Int → Option (Prop × AV)
  | .d (.ro rows),i=>match (tel P t).bind (tsz P) with | some k=>some (0 ≤ i ∧ i < rows.length ∧ (rowOf rows i.toNat).length = k,.rp (rowOf rows i.toNat)) | none=>none
  | .os n len,i=>match (tel P t).bind (tsz P),σ n with | some k,.arr k' _ rows=>some (k' = k ∧ 0 ≤ i ∧ i < len ∧ len ≤ rows.length,.ap n k i.toNat 0) | some k,.arh k' _ p _ q=>some (k' = k ∧ 0 ≤ i ∧ i < len ∧ len ≤ p.length + 1 + q.length,.ap n k i.toNat 0) | _,_=>none
  | .lp n off,i=>match tarr P t with
    | some (c,e)=>(tsz P e).map fun k=>(0 ≤ i ∧ i < c,.lp n (off + i.toNat * k))
    | none=>none
  | .d (.v (.pointer (some ad))),i=>match globD,tarr P t with
    | some (g,k',n),some (c,e)=>(tsz P e).map fun k=>(k' = k ∧ ad = ⟨g,0,none⟩ ∧ 0 ≤ i ∧ i < c ∧ i < n,.rp ((globR i.toNat).map .v))
    | _,_=>none
  | _,_=>none

theorem run_indexAt_sl {P:Program} {w:World} {t e:TypeId} {k b o len cap:Nat} {kd:IntKind} {i:Int} (ht:tel P t = some e) (hk:tsz P e = some k) (h0:0 ≤ i) (h1:i < len) :
    (Instr.indexAt t (.slice (some ⟨b,o,none⟩) len cap) (.int kd i)).run P w = .ok (.pointer (some ⟨b,o + i.toNat * k,none⟩)) w:=by
  simp [Instr.indexAt,run_underlying (run_underlying_el ht),asIntOf,h0,h1,run_sizeOf' hk,addr_add]

theorem indexV_ok {P:Program} {K:KS} {σ:Sto} {w:World} {t:TypeId} {p v:AV} {q:Prop} {x:Value} {kd:IntKind} {i:Int} (hS:RepS K σ w) (h:Rep K w p x) (he:indexV P σ t p i = some (q,v)) (hq:q):∃ y,(Instr.indexAt t x (.int kd i)).run P w = .ok y w ∧ Rep K w v y:=by
  unfold indexV at he
  split at he
  · rename_i rows
    split at he
    · rename_i k hk
      simp only [Option.some.injEq,Prod.mk.injEq] at he
      obtain ⟨rfl,rfl⟩:=he
      obtain ⟨h0,h1,h2⟩:=hq
      obtain ⟨e,he,hk⟩:=Option.bind_eq_some_iff.1 hk
      have hi:i.toNat < rows.length:=by omega
      cases h with
      | d h =>
        cases h with
        | nil=>simp at h1;omega
        | ro g1 g2 g3 g4 g5 g6 g7 g8 =>
          rename_i b o cap k' f
          have hkk:k' = k:=by rw [← g6 _ _ (rowOf_get hi)];exact h2
          subst hkk
          refine ⟨_,run_indexAt_sl he hk h0 h1,.rp (f:=fun j=>f i.toNat j) g2 (fun j c hc=>?_) (fun j c hc=>g8 _ _ _ _ (rowOf_get hi) hc)⟩
          rw [Nat.add_assoc];exact g7 _ _ _ _ (rowOf_get hi) hc
    · cases he
  · rename_i n len
    split at he
    · rename_i k k' E rows hk hn
      simp only [Option.some.injEq,Prod.mk.injEq] at he
      obtain ⟨rfl,rfl⟩:=he
      obtain ⟨h0,h1,h2,h3⟩:=hq
      subst h0
      obtain ⟨e,he,hk⟩:=Option.bind_eq_some_iff.1 hk
      have hO:=hS.obj n
      rw [hn] at hO
      obtain ⟨z0,⟨hl,hr⟩ | ⟨hl,_⟩⟩:=hO
      · subst hr;simp at h3;omega
      · cases h with
        | os =>
          simp only [KS.sl,hl,cond_false]
          refine ⟨_,run_indexAt_sl he hk h1 h2,?_⟩
          have:=Rep.ap (K:=K) (w:=w) (n:=n) (k:=k') (i:=i.toNat) (j:=0)
          simpa using this
    · rename_i k k' E p h q' hk hn
      simp only [Option.some.injEq,Prod.mk.injEq] at he
      obtain ⟨rfl,rfl⟩:=he
      obtain ⟨h0,h1,h2,h3⟩:=hq
      subst h0
      obtain ⟨e,he,hk⟩:=Option.bind_eq_some_iff.1 hk
      have hO:=hS.obj n
      rw [hn] at hO
      obtain ⟨z0,hl,_⟩:=hO
      cases (show Rep K w (.os n len) x from by assumption) with
      | os =>
        simp only [KS.sl,hl,cond_false]
        refine ⟨_,run_indexAt_sl he hk h1 h2,?_⟩
        have:=Rep.ap (K:=K) (w:=w) (n:=n) (k:=k') (i:=i.toNat) (j:=0)
        simpa using this
    · cases he
  · rename_i n off
    split at he
    · rename_i c e ht
      simp only [Option.map_eq_some_iff,Prod.mk.injEq] at he
      obtain ⟨k,hk,rfl,rfl⟩:=he
      obtain ⟨h0,h1⟩:=hq
      cases h
      refine ⟨.pointer (some ⟨K.blk n,off + i.toNat * k,none⟩),?_,.lp⟩
      simp [Instr.indexAt,run_underlying (run_underlying_arr ht),asIntOf,h0,h1,run_sizeOf' hk,addr_add,Instr.sureAddr]
    · cases he
  · rename_i ad
    split at he
    · rename_i g k' n c e hgd ht
      simp only [Option.map_eq_some_iff,Prod.mk.injEq] at he
      obtain ⟨k,hk,rfl,rfl⟩:=he
      obtain ⟨h3,h4,h0,h1,h2⟩:=hq
      subst h3;subst h4
      cases h with
      | d h =>
        cases h
        obtain ⟨g1,g2⟩:=hS.gl g k' n hgd
        have key:∀ (j:Nat) (c:RV),(List.map RV.v (globR i.toNat))[j]? = some c → ∃ x,(globR i.toNat)[j]? = some x ∧ c = .v x:=fun j c hc=>by
          rw [List.getElem?_map] at hc
          cases hx:(globR i.toNat)[j]? with
          | none=>rw [hx] at hc;cases hc
          | some x=>rw [hx] at hc;exact ⟨x,rfl,(Option.some.inj hc).symm⟩
        refine ⟨.pointer (some ⟨g,i.toNat * k',none⟩),?_,.rp (f:=fun j=>((globR i.toNat)[j]?).getD undef) g1 (fun j c hc=>?_) (fun j c hc=>?_)⟩
        · simp [Instr.indexAt,run_underlying (run_underlying_arr ht),asIntOf,h0,h1,run_sizeOf' hk,addr_add,Instr.sureAddr]
        · obtain ⟨x,hx,rfl⟩:=key j c hc
          simp only [hx,Option.getD_some]
          exact g2 _ _ _ (by omega) hx
        · obtain ⟨x,hx,rfl⟩:=key j c hc
          simp only [hx,Option.getD_some]
          exact .v (globR_one _ _ (List.mem_of_getElem? hx))
    · cases he
  · cases he

def binV (P:Program) (op:BinOp) (ty:TypeId):AV → AV → Option (Prop × AV)
  | .d (.v (.int k x)),.d (.v (.int k' y))=>match op with
    | .add=>some (k = k',.d (.v (.int k (k.wrap (x + y)))))
    | .sub=>some (k = k',.d (.v (.int k (k.wrap (x - y)))))
    | .mul=>some (k = k',.d (.v (.int k (k.wrap (x * y)))))
    | .quo=>some (k = k' ∧ y ≠ 0,.d (.v (.int k (k.wrap (x.tdiv y)))))
    | .rem=>some (k = k' ∧ y ≠ 0,.d (.v (.int k (x.tmod y))))
    | .and=>some (k = k',.d (.v (.int k (bits .and k x y))))
    | .or=>some (k = k',.d (.v (.int k (bits .or k x y))))
    | .eql=>some (k = k',.d (.v (.bool (x == y))))
    | .neq=>some (k = k',.d (.v (.bool (x != y))))
    | .lss=>some (k = k',.d (.v (.bool (decide (x < y)))))
    | .leq=>some (k = k',.d (.v (.bool (decide (x ≤ y)))))
    | .gtr=>some (k = k',.d (.v (.bool (decide (x > y)))))
    | .geq=>some (k = k',.d (.v (.bool (decide (x ≥ y)))))
    | .shl=>some (0 ≤ y,.d (.v (.int k (k.wrap (x * 2 ^ (min y.toNat k.bits))))))
    | .shr=>some (0 ≤ y,.d (.v (.int k (x.fdiv (2 ^ (min y.toNat k.bits))))))
    | _=>none
  | .d (.v (.string x)),.d (.v (.string y))=>match op with
    | .eql=>some (True,.d (.v (.bool (x.toList == y.toList))))
    | .neq=>some (True,.d (.v (.bool (!(x.toList == y.toList)))))
    | .lss=>some (True,.d (.v (.bool (Op.bytesLess x.toList y.toList))))
    | .leq=>some (True,.d (.v (.bool (Op.bytesLess x.toList y.toList || x.toList == y.toList))))
    | .gtr=>some (True,.d (.v (.bool (!(Op.bytesLess x.toList y.toList || x.toList == y.toList)))))
    | .geq=>some (True,.d (.v (.bool (!Op.bytesLess x.toList y.toList))))
    | .add=>some (((x.size + y.size:Nat):Int) ≤ IntKind.i64.max,.d (.v (.string (x ++ y))))
    | _=>none
  | .d (.v (.bool x)),.d (.v (.bool y))=>if tbool P ty = true then match op with
    | .eql=>some (True,.d (.v (.bool (x == y))))
    | .neq=>some (True,.d (.v (.bool (!(x == y)))))
    | _=>none
    else none
  | .agg xs,.agg ys=>if tcmp P ty = true then match op with
    | .eql=>(feq P 20 ty xs ys).map fun r=>(r.1,.d (.v (.bool r.2)))
    | .neq=>(feq P 20 ty xs ys).map fun r=>(r.1,.d (.v (.bool (!r.2))))
    | _=>none
    else none
  | _,_=>none

theorem run_binV {P:Program} {w:World} {op:BinOp} {ty:TypeId} {a b v:AV} {q:Prop} {K:KS} {x y:Value} (xo yo:Operand) (ha:Rep K w a x) (hb:Rep K w b y) (he:binV P op ty a b = some (q,v)) (hq:q) :
    ∃ z,(∀ w:World,(do eqGuard op ty xo yo x y;binOp op ty x y:Sem Value).run P w = .ok z w) ∧ Rep K w v z:=by
  unfold binV at he
  split at he
  · cases ha with | d ha=>cases ha with | v ha=>cases hb with | d hb=>cases hb with | v hb =>
    split at he<;>cases he<;>(try (obtain ⟨rfl,hq⟩:=hq))<;>(try subst hq) <;>
      refine ⟨_,fun w=>?_,.d (.v (x:=_) rfl)⟩ <;>
      simp_all [eqGuard,binOp,Op.intArith,Op.intDiv,Op.intCmp,Op.shift,Op.intBits,bits,Int.not_lt]<;>(intro hlt;omega)
  · cases ha with | d ha=>cases ha with | v ha=>cases hb with | d hb=>cases hb with | v hb =>
    split at he<;>cases he <;>
      refine ⟨_,fun w=>?_,.d (.v (x:=_) rfl)⟩<;>simp_all [eqGuard,binOp,Op.stringOp]
  · cases ha with | d ha=>cases ha with | v ha=>cases hb with | d hb=>cases hb with | v hb =>
    split at he
    · rename_i ht
      have hu:P.underlying ty = some .bool:=by
        unfold tbool at ht
        split at ht
        · assumption
        · cases ht
      split at he<;>cases he <;>
        refine ⟨_,fun w=>?_,.d (.v (x:=_) rfl)⟩<;>simp [eqGuard,binOp,run_equal_bool _ _ _ _ hu]
    · cases he
  · rename_i xs ys
    split at he
    · rename_i ht
      simp only [tcmp,Bool.and_eq_true,Bool.not_eq_true',beq_iff_eq] at ht
      cases ha with | agg a1 a2 a3=>cases hb with | agg b1 b2 b3 =>
      rename_i cx cy
      have key:∀ {r:Prop × Bool},feq P 20 ty xs ys = some r → r.1 → ∀ w:World,(Op.equal ty (.agg cx.toArray) (.agg cy.toArray)).run P w = .ok r.2 w:=fun {r} hf hr w=>by
        have:=feq_ok (q:=r.1) (b:=r.2) hf hr a1 b1 a2 b2 9980 w
        simpa [cellVal,ht.2,Op.equal,Op.maxDepth] using this
      split at he<;>(try (cases he;done))<;>simp only [Option.map_eq_some_iff,Prod.mk.injEq] at he<;>obtain ⟨r,hf,rfl,rfl⟩:=he <;>
        refine ⟨_,fun w=>?_,.d (.v (x:=_) rfl)⟩<;>simp [eqGuard,binOp,key hf hq w,ht.1]
    · cases he
  · cases he

def unV (op:UnOp):AV → Option (Prop × AV)
  | .d (.v (.bool b))=>match op with | .not=>some (True,.d (.v (.bool (!b)))) | _=>none
  | .d (.v (.int k n))=>match op with | .neg=>some (True,.d (.v (.int k (k.wrap (0 - n))))) | _=>none
  | _=>none

theorem unV_ok {P:Program} {w:World} {op:UnOp} {a v:AV} {q:Prop} {K:KS} {x:Value} (ha:Rep K w a x) (he:unV op a = some (q,v)):∃ z,(∀ w:World,(Op.unary op x).run P w = .ok z w) ∧ Rep K w v z:=by
  unfold unV at he
  split at he
  · cases ha with | d ha=>cases ha with | v ha =>
    split at he
    · simp at he;obtain ⟨_,rfl⟩:=he;exact ⟨_,fun w=>by simp [Op.unary],.d (.v rfl)⟩
    · cases he
  · cases ha with | d ha=>cases ha with | v ha =>
    split at he
    · simp at he;obtain ⟨_,rfl⟩:=he;exact ⟨_,fun w=>by simp [Op.unary,Op.intArith],.d (.v (by rfl))⟩
    · cases he
  · cases he

def rowByte:List RV → Option UInt8
  | [.v (.int .u8 n)]=>some (UInt8.ofNat n.toNat)
  | _=>none
def isBytes (rows:List (List RV)):Prop:=∀ r ∈ rows,(rowByte r).isSome = true
def bytesOf (rows:List (List RV)):List UInt8:=rows.filterMap rowByte

def convV (P:Program) (src dst:TypeId) (σ:Sto):AV → Option (Prop × AV)
  | .d (.v (.int k n))=>if (P.underlying src).isSome then (tint P dst).map fun k'=>(True,.d (.v (.int k' (k'.wrap n)))) else none
  | .d (.v (.string s))=>if tstr P src = true ∧ tstr P dst = true then some (True,.d (.v (.string s))) else none
  | .d (.ro rows)=>match (tel P src).bind (tint P),tstr P dst with | some .u8,true=>some (isBytes rows,.d (.v (.string (textOf' (bytesOf rows))))) | _,_=>none
  | .os n len=>match (tel P src).bind (tint P),tstr P dst,σ n with | some .u8,true,.arr _ _ rows=>some (isBytes rows ∧ len ≤ rows.length,.d (.v (.string (textOf' (bytesOf (rows.take len)))))) | _,_,_=>none
  | .d (.v (.slice none 0 0))=>match (tel P src).bind (tint P),tstr P dst with | some .u8,true=>some (True,.d (.v (.string (textOf' [])))) | _,_=>none
  | _=>none
where textOf' (bs:List UInt8):ByteArray:=⟨bs.toArray⟩

def lenV (P:Program) (σ:Sto) (t:TypeId):AV → Option (Prop × AV)
  | .d (.ro rows)=>(tel P t).map fun _=>(True,.d (.v (.int .i64 rows.length)))
  | .os n len=>match tel P t,σ n with | some _,.arr _ _ rows=>some (len ≤ rows.length,.d (.v (.int .i64 len))) | some _,.arh _ _ p _ q=>some (len ≤ p.length + 1 + q.length,.d (.v (.int .i64 len))) | _,_=>none
  | .emp=>(tel P t).map fun _=>(True,.d (.v (.int .i64 0)))
  | .d (.v (.slice none 0 0))=>(tel P t).map fun _=>(True,.d (.v (.int .i64 0)))
  | .d (.v (.string s))=>if tstr P t = true then some (True,.d (.v (.int .i64 s.size))) else none
  | _=>none
end Go.Proofs.Ytikgiadbkjmabaa

/- What operations that only read or reckon make of values as trees (3): texts,lengths,structs,slices. No program in sight. -/
namespace Go.Proofs.Ytikgiadbkjmabaa
open Go.RowKit
set_option linter.unusedSimpArgs false
set_option linter.unusedVariables false

theorem tint_u {P:Program} {t:TypeId} {k:IntKind} (h:tint P t = some k):P.underlying t = some (.int k):=by
  unfold tint at h
  split at h
  · rename_i hu;simp at h;subst h;exact hu
  · cases h
theorem tstr_u {P:Program} {t:TypeId} (h:tstr P t = true):P.underlying t = some .string:=by
  unfold tstr at h
  split at h
  · assumption
  · cases h

theorem byteRow {r:List RV} (h:(rowByte r).isSome = true):∃ n,r = [.v (.int .u8 n)] ∧ rowByte r = some (UInt8.ofNat n.toNat):=by
  unfold rowByte at *
  split at h
  · exact ⟨_,rfl,rfl⟩
  · cases h

theorem numsOf (rows:List (List RV)) (h:isBytes rows):∃ xs:List Int,xs.length = rows.length ∧ strOfNums xs = ⟨(bytesOf rows).toArray⟩ ∧ ∀ (i:Nat) (r:List RV),rows[i]? = some r → r = [RV.v (.int .u8 (xs.getD i 0))]:=by
  induction rows with
  | nil=>exact ⟨[],rfl,rfl,by simp⟩
  | cons r rows ih =>
    obtain ⟨n,rfl,e⟩:=byteRow (h r (by simp))
    obtain ⟨xs,h1,h2,h3⟩:=ih (fun x hx=>h x (by simp [hx]))
    refine ⟨n :: xs,by simp [h1],?_,fun i r hr=>?_⟩
    · simp only [strOfNums,List.map_cons,bytesOf,List.filterMap_cons,e,ByteArray.mk.injEq] at h2 ⊢
      have h2':List.map (fun n=>UInt8.ofNat n.toNat) xs = List.filterMap rowByte rows:=by simpa using h2
      rw [h2']
    · cases i with
      | zero=>simp at hr;subst hr;rfl
      | succ i=>simpa using h3 i r (by simpa using hr)

theorem RRep.int {I:Nat → Prop} {w:World} {x:Value} {y:Value} (h:RRep I w (.v y) x):x = y:=by cases h;rfl

theorem run_conv_row {P:Program} {K:KS} {w:World} {src dst:TypeId} {rows:List (List RV)} {x:Value} (h:RRep K.I w (.ro rows) x) (he:(tel P src).bind (tint P) = some .u8) (hd:tstr P dst = true) (hb:isBytes rows) :
    (convert src dst x).run P w = .ok (.string ⟨(bytesOf rows).toArray⟩) w:=by
  obtain ⟨e,he,hk⟩:=Option.bind_eq_some_iff.1 he
  obtain ⟨xs,h1,h2,h3⟩:=numsOf rows hb
  cases h with
  | nil =>
    rename_i a cap
    cases a with
    | none=>rw [run_convert_bytes_nil w src e (run_underlying_el he) (tint_u hk) _ _ dst (tstr_u hd)];rfl
    | some a=>rw [run_convert_bytes_string w src dst e _ _ cap (run_underlying_el he) (tint_u hk) (tstr_u hd),run_bytesToString w _ _ cap [] (by simp [loadCells,loadCellsFrom])];rfl
  | ro g1 g2 g3 g4 g5 g6 g7 g8 =>
    rename_i b o cap k f
    have hk1:k = 1:=by
      cases rows with
      | nil=>exact absurd rfl g1
      | cons r rows=>rw [← g6 0 r rfl];obtain ⟨n,rfl,_⟩:=byteRow (hb r (by simp));rfl
    subst hk1
    rw [← h2]
    refine run_convert_bytes_arg w src e (run_underlying_el he) (tint_u hk) b o rows.length cap xs h1 (fun i hi=>?_) dst (tstr_u hd)
    have hr:=h3 i _ (rowOf_get hi)
    have hc:(rowOf rows i)[0]? = some (.v (.int .u8 (xs.getD i 0))):=by rw [hr];rfl
    have:=g7 i 0 _ _ (rowOf_get hi) hc
    rw [(g8 i 0 _ _ (rowOf_get hi) hc).int] at this
    simpa using this

theorem sub_rows {rows:List (List RV)} {len i:Nat} {r:List RV} (h:(rows.take len)[i]? = some r):rows[i]? = some r:=by
  rw [List.getElem?_take] at h
  split at h
  · exact h
  · cases h

theorem RepS.own_ro {K:KS} {σ:Sto} {w:World} {n k len:Nat} {E:TypeId} {rows:List (List RV)} (hS:RepS K σ w) (hn:σ n = .arr k E rows) (hl:len ≤ rows.length):RRep (fun b=>K.I b ∨ b = K.blk n) w (.ro (rows.take len)) (K.sl n len):=by
  have hO:=hS.obj n
  rw [hn] at hO
  obtain ⟨h0,⟨hl',hr⟩ | ⟨hl',h1,xs,h2,h3,h4,h5,h6,h7,h8,h9⟩⟩:=hO
  · subst hr
    simp only [KS.sl,hl',cond_true,List.take_nil]
    exact .nil
  · simp only [KS.sl,hl',cond_false]
    by_cases hz:len = 0
    · subst hz;simp only [List.take_zero];exact .nil
    · have hlen:(rows.take len).length = len:=by simp;omega
      have:=RRep.ro (I:=fun b=>K.I b ∨ b = K.blk n) (w:=w) (rows:=rows.take len) (b:=K.blk n) (o:=0) (cap:=K.cap n) (k:=k) (f:=fun i j=>xs.getD (i * k + j) undef) (by intro e;rw [e] at hlen;simp at hlen;omega) (.inr rfl) (by omega) (by omega) h0
        (fun i r hr=>h7 i r (sub_rows hr)) (fun i j r c hr hc=>?_) (fun i j r c hr hc=>?_)
      · rw [hlen] at this;exact this
      all_goals
        have hr':=sub_rows hr
        have hi:i < rows.length:=(List.getElem?_eq_some_iff.1 hr').1
        have hj:j < k:=by rw [← h7 i r hr'];exact (List.getElem?_eq_some_iff.1 hc).1
        have hlt:i * k + j < xs.length:=by
          have:(i + 1) * k ≤ K.cap n * k:=Nat.mul_le_mul_right k (by omega)
          rw [Nat.add_mul] at this;omega
      · rw [cells_at h2];simp [List.getD,hlt]
      · have hx:xs[i * k + j]? = some (xs.getD (i * k + j) undef):=by simp [List.getD,hlt]
        exact (h8 i j r c _ hr' hc hx).up (fun _ h=>.inl h) (Keep.refl _ _)

theorem convV_ok {P:Program} {K:KS} {σ:Sto} {w:World} {src dst:TypeId} {a v:AV} {q:Prop} {x:Value} (hS:RepS K σ w) (ha:Rep K w a x) (he:convV P src dst σ a = some (q,v)) (hq:q):∃ y,(convert src dst x).run P w = .ok y w ∧ Rep K w v y:=by
  unfold convV at he
  split at he
  · cases ha with | d ha=>cases ha with | v ha =>
    split at he
    · rename_i hsrc
      simp only [Option.map_eq_some_iff,Prod.mk.injEq] at he
      obtain ⟨k',hk,rfl,rfl⟩:=he
      obtain ⟨ds,hds⟩:=Option.isSome_iff_exists.1 hsrc
      exact ⟨_,by simp [convert,run_underlying hds,run_underlying (tint_u hk),Conv.intToInt],.d (.v rfl)⟩
    · cases he
  · cases ha with | d ha=>cases ha with | v ha =>
    split at he
    · rename_i h
      cases he
      exact ⟨_,by simp [convert,run_underlying (tstr_u h.1),run_underlying (tstr_u h.2)],.d (.v rfl)⟩
    · cases he
  · cases ha with | d ha =>
    split at he
    · rename_i h1 h2
      cases he
      exact ⟨_,run_conv_row ha h1 h2 hq,.d (.v rfl)⟩
    · cases he
  · cases ha with | os =>
    split at he
    · rename_i h1 h2 hn
      cases he
      obtain ⟨hq1,hq2⟩:=hq
      have:=run_conv_row (K:={ K with I:=fun b=>K.I b ∨ b = K.blk _ }) (hS.own_ro hn hq2) h1 h2 (fun r hr=>hq1 r (List.mem_of_mem_take hr))
      exact ⟨_,this,.d (.v rfl)⟩
    · cases he
  · cases ha with | d ha=>cases ha with | v ha =>
    split at he
    · rename_i h1 h2
      cases he
      exact ⟨_,run_conv_row (K:=K) (rows:=[]) .nil h1 h2 (fun r hr=>by cases hr),.d (.v rfl)⟩
    · cases he
  · cases he

theorem lenV_ok {P:Program} {K:KS} {σ:Sto} {w:World} {t ty:TypeId} {a v:AV} {q:Prop} {x:Value} (hS:RepS K σ w) (ha:Rep K w a x) (he:lenV P σ t a = some (q,v)) (hq:q) :
    ∃ y,(Builtin.len_ #[t] ty #[x]).run P w = .ok y w ∧ Rep K w v y:=by
  have sl:∀ {e:TypeId} (b:Option Addr) (n c:Nat),tel P t = some e → (Builtin.len_ #[t] ty #[.slice b n c]).run P w = .ok (.int .i64 n) w:=fun b n c he=>by
    simp [Builtin.len_,run_underlying (run_underlying_el he),goInt]
  unfold lenV at he
  split at he
  · simp only [Option.map_eq_some_iff,Prod.mk.injEq] at he
    obtain ⟨e,he,rfl,rfl⟩:=he
    cases ha with | d ha =>
    cases ha with
    | nil=>exact ⟨_,sl _ _ _ he,.d (.v rfl)⟩
    | ro=>exact ⟨_,sl _ _ _ he,.d (.v rfl)⟩
  · rename_i n len
    split at he
    · rename_i e k E rows he' hn
      cases he
      cases ha with | os =>
      unfold KS.sl
      cases hl:K.nl n
      · exact ⟨_,sl _ _ _ he',.d (.v rfl)⟩
      · have hO:=hS.obj n
        rw [hn] at hO
        obtain ⟨_,⟨_,hr⟩ | ⟨hl',_⟩⟩:=hO
        · subst hr
          have:len = 0:=by simpa using hq
          subst this
          exact ⟨_,sl _ _ _ he',.d (.v rfl)⟩
        · rw [hl] at hl';cases hl'
    · rename_i e k E p h q' he' hn
      cases he
      cases ha with | os =>
      unfold KS.sl
      have hO:=hS.obj n
      rw [hn] at hO
      obtain ⟨_,hl,_⟩:=hO
      rw [hl]
      exact ⟨_,sl _ _ _ he',.d (.v rfl)⟩
    · cases he
  · simp only [Option.map_eq_some_iff,Prod.mk.injEq] at he
    obtain ⟨e,he,rfl,rfl⟩:=he
    cases ha
    exact ⟨_,sl _ _ _ he,.d (.v rfl)⟩
  · simp only [Option.map_eq_some_iff,Prod.mk.injEq] at he
    obtain ⟨e,he,rfl,rfl⟩:=he
    cases ha with | d ha=>cases ha with | v ha =>
    exact ⟨_,sl _ _ _ he,.d (.v rfl)⟩
  · cases ha with | d ha=>cases ha with | v ha =>
    split at he
    · rename_i h
      cases he
      exact ⟨_,by simp [Builtin.len_,run_underlying (tstr_u h),goInt],.d (.v rfl)⟩
    · cases he
  · cases he
end Go.Proofs.Ytikgiadbkjmabaa

/- What operations that only read or reckon make of values as trees (4): structs put together,parts of slices and texts. No program in sight. -/
namespace Go.Proofs.Ytikgiadbkjmabaa
open Go.RowKit
set_option linter.unusedSimpArgs false
set_option linter.unusedVariables false

def cellsAV:AV → Option (List AV)
  | .agg cs=>some cs
  | .any | .tup _ | .gd _ _=>none
  | v=>some [v]

def RepC (K:KS) (w:World) (cs:List AV) (xs:List Value):Prop:=cs.length = xs.length ∧ (∀ (i:Nat) (c:AV) (x:Value),cs[i]? = some c → xs[i]? = some x → Rep K w c x) ∧ ∀ x ∈ xs,x.oneCell' = true

theorem cellsAV_ok {K:KS} {w:World} {v:AV} {x:Value} {cs:List AV} (h:Rep K w v x) (hc:cellsAV v = some cs):RepC K w cs x.cells.toList:=by
  have one:∀ {v:AV} {x:Value},Rep K w v x → x.oneCell' = true → RepC K w [v] x.cells.toList:=fun {v x} h h1=>by
    have e:x.cells = #[x]:=by cases x<;>first | rfl | (simp [Value.oneCell'] at h1)
    rw [e]
    refine ⟨rfl,fun i c y hc hy=>?_,fun y hy=>by simp at hy;subst hy;exact h1⟩
    cases i with
    | zero=>simp at hc hy;subst hc;subst hy;exact h
    | succ i=>simp at hc
  cases v<;>simp only [cellsAV,Option.some.injEq] at hc<;>(try cases hc)
  case d r=>exact one h (by cases h with | d h=>exact h.one)
  case emp=>exact one h (by cases h;rfl)
  case agg=>cases h with | agg h1 h2 h3=>exact ⟨by simpa [Value.cells] using h1,fun i c x hc hx=>h2 i c x hc (by simpa [Value.cells] using hx),fun x hx=>h3 x (by simpa [Value.cells] using hx)⟩
  case os n l=>exact one h (by cases h;unfold KS.sl;cases K.nl n<;>rfl)
  case lp=>exact one h (by cases h;rfl)
  case rp=>exact one h (by cases h;rfl)
  case ap=>exact one h (by cases h;rfl)
  case clo=>exact one h (by cases h;rfl)
  case mp=>exact one h (by cases h;rfl)
  case sb=>exact one h (by cases h;rfl)

def tzero (P:Program) (t:TypeId):Option (List Value):=(P.info? t).bind fun i=>i.zero.bind fun z=>bif z.cells.toList.all (·.oneCell') then some z.cells.toList else none

theorem tzero_ok {P:Program} {t:TypeId} {z:List Value} (h:tzero P t = some z):(∃ v,(∀ w,(zeroValue t).run P w = .ok v w) ∧ v.cells = z.toArray) ∧ ∀ x ∈ z,x.oneCell' = true:=by
  unfold tzero at h
  obtain ⟨i,hi,h⟩:=Option.bind_eq_some_iff.1 h
  obtain ⟨v,hv,h⟩:=Option.bind_eq_some_iff.1 h
  cases hb:v.cells.toList.all (·.oneCell')
  · rw [hb] at h;cases h
  · rw [hb] at h
    simp only [cond_true,Option.some.injEq] at h
    subst h
    refine ⟨⟨v,fun w=>?_,by simp⟩,List.all_eq_true.1 hb⟩
    simp [zeroValue,typeInfo,hi,hv]

theorem repC_zero {K:KS} {w:World} {z:List Value} (h:∀ x ∈ z,x.oneCell' = true):RepC K w (z.map fun x=>.d (.v x)) z:=by
  refine ⟨by simp,fun i c x hc hx=>?_,h⟩
  simp only [List.getElem?_map,hx,Option.map_some,Option.some.injEq] at hc
  subst hc
  exact .d (.v (h x (List.mem_of_getElem? hx)))

def afill (place:Nat → Option (Nat × Nat)) (cells:List AV):List (Nat × AV) → Option (List AV)
  | []=>some cells
  | (i,v) :: rest=>match place i,cellsAV v with
    | some (off,size),some vs=>if vs.length = size ∧ off + size ≤ cells.length then afill place (cells.take off ++ vs ++ cells.drop (off + size)) rest else none
    | _,_=>none

theorem fold_set (off:Nat):∀ (xs:List Value) (k:Nat) (cells:Array Value) (i:Nat),off + k + xs.length ≤ cells.size →
    ((xs.zipIdx k).foldl (fun (cs:Array Value) (p:Value × Nat)=>cs.setIfInBounds (off + p.2) p.1) cells)[i]? = if off + k ≤ i ∧ i < off + k + xs.length then xs[i - (off + k)]? else cells[i]?
  | [],k,cells,i,h=>by simp;intro h1 h2;omega
  | x :: xs,k,cells,i,h=>by
    simp only [List.length_cons] at h
    simp only [List.zipIdx_cons,List.foldl_cons]
    rw [fold_set off xs (k + 1) _ i (by simp;omega)]
    by_cases h1:off + (k + 1) ≤ i ∧ i < off + (k + 1) + xs.length
    · rw [if_pos h1,if_pos (by simp only [List.length_cons];omega)]
      have:i - (off + k) = (i - (off + (k + 1))) + 1:=by omega
      rw [this,List.getElem?_cons_succ]
    · rw [if_neg h1]
      by_cases h2:i = off + k
      · subst h2
        rw [if_pos (by simp only [List.length_cons];omega)]
        have hlt:off + k < cells.size:=by omega
        simp [Array.getElem?_setIfInBounds,hlt]
      · rw [if_neg (by simp only [List.length_cons];omega),Array.getElem?_setIfInBounds,if_neg (by omega)]

theorem fill_one {cells:Array Value} {xs:List Value} {off:Nat} (h:off + xs.length ≤ cells.size) :
    (xs.toArray.zipIdx.foldl (fun (cs:Array Value) (p:Value × Nat)=>cs.setIfInBounds (off + p.2) p.1) cells) = (cells.toList.take off ++ xs ++ cells.toList.drop (off + xs.length)).toArray:=by
  have e:(xs.toArray.zipIdx.foldl (fun (cs:Array Value) (p:Value × Nat)=>cs.setIfInBounds (off + p.2) p.1) cells) = ((xs.zipIdx 0).foldl (fun (cs:Array Value) (p:Value × Nat)=>cs.setIfInBounds (off + p.2) p.1) cells):=by
    rw [← Array.foldl_toList];simp
  rw [e]
  apply Array.ext_getElem?
  intro i
  rw [fold_set off xs 0 cells i (by omega)]
  simp only [Nat.add_zero,List.getElem?_toArray,List.append_assoc]
  by_cases h1:i < off
  · rw [if_neg (by omega),List.getElem?_append_left (by simp;omega),List.getElem?_take,if_pos h1];simp
  · rw [List.getElem?_append_right (by simp;omega)]
    have hl:(cells.toList.take off).length = off:=by simp;omega
    rw [hl]
    by_cases h2:i < off + xs.length
    · rw [if_pos (by omega),List.getElem?_append_left (by omega)]
    · rw [if_neg (by omega),List.getElem?_append_right (by omega),List.getElem?_drop]
      have:off + xs.length + (i - off - xs.length) = i:=by omega
      rw [this];simp

theorem afill_ok {K:KS} {w:World} {place:Nat → Option (Nat × Nat)}:∀ {parts:List (Nat × AV)} {vals:List (Nat × Value)} {cs cs':List AV} {cells:Array Value},RepC K w cs cells.toList →
    parts.length = vals.length → (∀ (m:Nat) p q,parts[m]? = some p → vals[m]? = some q → p.1 = q.1 ∧ Rep K w p.2 q.2) → afill place cs parts = some cs' → ∃ cells',Instr.fill place cells vals = some cells' ∧ RepC K w cs' cells'.toList
  | [],[],cs,cs',cells,h,_,_,he=>by simp only [afill,Option.some.injEq] at he;subst he;exact ⟨cells,rfl,h⟩
  | [],_ :: _,_,_,_,_,hl,_,_=>by simp at hl
  | _ :: _,[],_,_,_,_,hl,_,_=>by simp at hl
  | (i,v) :: parts,(i',x) :: vals,cs,cs',cells,h,hl,hp,he=>by
    obtain ⟨e1,hv⟩:=hp 0 _ _ rfl rfl
    simp only at e1 hv
    subst e1
    simp only [afill] at he
    split at he
    · rename_i off size vs hpl hvs
      split at he
      · rename_i hfit
        obtain ⟨hf1,hf2⟩:=hfit
        have hC:=cellsAV_ok hv hvs
        obtain ⟨c1,c2,c3⟩:=hC
        obtain ⟨d1,d2,d3⟩:=h
        have hx:x.cells = x.cells.toList.toArray:=by simp
        have hsz:x.cells.size = size:=by rw [← hf1,c1];simp
        have hcs:cs.length = cells.size:=by rw [d1];simp
        have hfo:=fill_one (cells:=cells) (xs:=x.cells.toList) (off:=off) (by rw [← c1];omega)
        rw [← hx] at hfo
        have hlen:x.cells.toList.length = size:=by rw [← c1];exact hf1
        rw [hlen] at hfo
        simp only [Instr.fill,hpl]
        rw [if_neg (by simp [hsz];omega),hfo]
        refine afill_ok (cs:=cs.take off ++ vs ++ cs.drop (off + size)) ?_ (by simpa using hl) (fun m p q h1 h2=>hp (m + 1) p q (by simpa using h1) (by simpa using h2)) he
        simp only [List.toList_toArray]
        have a1:(cs.take off).length = off:=by simp;omega
        have a2:(cells.toList.take off).length = off:=by simp;omega
        refine ⟨by simp;omega,fun m c y hc hy=>?_,fun y hy=>?_⟩
        · simp only [List.append_assoc] at hc hy
          by_cases m1:m < off
          · rw [List.getElem?_append_left (by omega),List.getElem?_take,if_pos m1] at hc hy
            exact d2 _ _ _ hc hy
          · rw [List.getElem?_append_right (by omega)] at hc hy
            rw [a1] at hc;rw [a2] at hy
            by_cases m2:m - off < size
            · rw [List.getElem?_append_left (by omega)] at hc hy
              exact c2 _ _ _ hc hy
            · rw [List.getElem?_append_right (by omega),List.getElem?_drop] at hc hy
              rw [hf1] at hc;rw [hlen] at hy
              exact d2 _ _ _ hc hy
        · simp only [List.mem_append] at hy
          rcases hy with (hy | hy) | hy
          · exact d3 _ (List.mem_of_mem_take hy)
          · exact c3 _ hy
          · exact d3 _ (List.mem_of_mem_drop hy)
      · cases he
    · cases he

def tflds (P:Program) (t:TypeId):Option (List (Nat × Nat)):=match P.underlying t with
  | some (.struct fs)=>bif fs.toList.all (fun f=>(tsz P f.type).isSome) then some (fs.toList.map fun f=>(f.offset,(tsz P f.type).getD 0)) else none
  | _=>none

def buildV (P:Program) (t:TypeId) (parts:List (Nat × AV)):Option AV:=match tzero P t with
  | some z=>match tflds P t,tarr P t with
    | some fs,_=>(afill (fun i=>fs[i]?) (z.map fun x=>.d (.v x)) parts).map .agg
    | none,some (n,e)=>(tsz P e).bind fun s=>(afill (fun i=>some (i * s,s)) (z.map fun x=>.d (.v x)) parts).map .agg
    | _,_=>none
  | none=>none

theorem run_places {P:Program} {w:World}:∀ (fs:List Field),fs.all (fun f=>(tsz P f.type).isSome) = true →
    (fs.mapM (fun f=>do pure (f.offset,← sizeOf f.type):Field → Sem (Nat × Nat))).run P w = .ok (fs.map fun f=>(f.offset,(tsz P f.type).getD 0)) w
  | [],_=>rfl
  | f :: fs,h=>by
    simp only [List.all_cons,Bool.and_eq_true] at h
    obtain ⟨z,hz⟩:=Option.isSome_iff_exists.1 h.1
    rw [List.mapM_cons]
    simp only [Sem.run_bind,run_sizeOf' hz,Result.andThen,Sem.run_pure,run_places fs h.2,hz,List.map_cons,Option.getD_some]

theorem buildV_ok {P:Program} {K:KS} {w:World} {t:TypeId} {parts:List (Nat × AV)} {vals:List (Nat × Value)} {v:AV} (hl:parts.length = vals.length) (hp:∀ (m:Nat) p q,parts[m]? = some p → vals[m]? = some q → p.1 = q.1 ∧ Rep K w p.2 q.2)
    (he:buildV P t parts = some v):∃ y,(∀ w:World,(Instr.build t vals.toArray).run P w = .ok y w) ∧ Rep K w v y:=by
  unfold buildV at he
  split at he
  · rename_i z hz
    obtain ⟨⟨zv,hz1,hz2⟩,hz3⟩:=tzero_ok hz
    have hC:=repC_zero (K:=K) (w:=w) hz3
    have fin:∀ {cs:List AV} {cells:Array Value},RepC K w cs cells.toList → Rep K w (.agg cs) (.agg cells):=fun {cs cells} h=>by
      have:=Rep.agg (K:=K) (w:=w) h.1 h.2.1 h.2.2
      simpa using this
    split at he
    · rename_i fs _ hfs
      simp only [Option.map_eq_some_iff] at he
      obtain ⟨cs,he,rfl⟩:=he
      unfold tflds at hfs
      split at hfs
      · rename_i fs0 hu
        cases hb:fs0.toList.all (fun f=>(tsz P f.type).isSome)
        · rw [hb] at hfs;cases hfs
        · rw [hb] at hfs
          simp only [cond_true,Option.some.injEq] at hfs
          subst hfs
          obtain ⟨cells,h1,h2⟩:=afill_ok (cells:=z.toArray) (by simpa using hC) hl hp he
          refine ⟨.agg cells,fun w'=>?_,fin h2⟩
          have hm:(fs0.mapM (fun f=>do pure (f.offset,← sizeOf f.type):Field → Sem (Nat × Nat))).run P w' = .ok (fs0.toList.map fun f=>(f.offset,(tsz P f.type).getD 0)).toArray w':=by
            rw [Array.mapM_eq_mapM_toList]
            simp only [Sem.run_map,run_places fs0.toList hb]
            rfl
          unfold Instr.build
          simp only [Sem.run_bind,hz1,Result.andThen,run_underlying hu,hm,hz2]
          have e:(fun i:Nat=>(fs0.toList.map fun f=>(f.offset,(tsz P f.type).getD 0)).toArray[i]?) = fun i:Nat=>(fs0.toList.map fun f=>(f.offset,(tsz P f.type).getD 0))[i]?:=by funext i;simp
          rw [e,h1]
          rfl
      · cases hfs
    · rename_i n e _ hfs ha
      obtain ⟨s,hs,he⟩:=Option.bind_eq_some_iff.1 he
      simp only [Option.map_eq_some_iff] at he
      obtain ⟨cs,he2,rfl⟩:=he
      obtain ⟨cells,h1,h2⟩:=afill_ok (cells:=z.toArray) (by simpa using hC) hl hp he2
      refine ⟨.agg cells,fun w'=>?_,fin h2⟩
      unfold Instr.build
      simp only [Sem.run_bind,hz1,Result.andThen,run_underlying (run_underlying_arr ha),run_sizeOf' hs,hz2,h1,Sem.run_pure]
    · cases he
  · cases he
end Go.Proofs.Ytikgiadbkjmabaa

/- What operations that only read or reckon make of values as trees (5): parts of slices and texts;all of them in one. No program in sight. -/
namespace Go.Proofs.Ytikgiadbkjmabaa
open Go.RowKit
set_option linter.unusedSimpArgs false
set_option linter.unusedVariables false

def bnd (a:Fr):Option Operand → Option (Prop × Option Int)
  | none=>some (True,none)
  | some x=>match opd a x with
    | (p,.d (.v (.int _ i)))=>some (p,some i)
    | _=>none

def bval (x:Option Value) (i:Option Int):Prop:=match x,i with
  | none,none=>True
  | some v,some i=>∃ k,v = .int k i
  | _,_=>False

theorem bnd_ok {K:KS} {w:World} {a:Fr} {ρ:Operand → Value} {x:Option Operand} {p:Prop} {i:Option Int} (hx:∀ y,x = some y → OpOk K w a ρ y) (h:bnd a x = some (p,i)) (hp:p):bval (x.map ρ) i:=by
  unfold bnd at h
  split at h
  · cases h;trivial
  · rename_i y
    split at h
    · rename_i p' k i' he
      cases h
      have:=hx y rfl
      unfold OpOk at this
      rw [he] at this
      have:=this hp
      cases this with | d h=>exact ⟨_,h.int⟩
    · cases h

def Rows (rows:List (List RV)) (k:Nat):Prop:=∀ r ∈ rows,r.length = k

theorem slice_ro {I:Nat → Prop} {w:World} {rows:List (List RV)} {a:Option Addr} {len cap size l h m:Nat} (hr:RRep I w (.ro rows) (.slice a len cap)) (hk:Rows rows size) (h1:l ≤ h) (h2:h ≤ m) (h3:m ≤ cap) (h4:h ≤ rows.length) :
    RRep I w (.ro ((rows.drop l).take (h - l))) (.slice (if m = l then a else a.map (·.add (l * size))) (h - l) (m - l)):=by
  by_cases hz:h = l
  · subst hz;simp only [Nat.sub_self,List.take_zero];exact .nil
  · have hlen:((rows.drop l).take (h - l)).length = h - l:=by simp;omega
    cases hr with
    | nil=>simp at h4;omega
    | ro g1 g2 g3 g4 g5 g6 g7 g8 =>
      rename_i b o k f
      have hkk:k = size:=by rw [← g6 0 _ (rowOf_get (by omega))];exact hk _ (List.mem_of_getElem? (rowOf_get (by omega)))
      subst hkk
      have hml:m ≠ l:=by omega
      simp only [hml,if_false,Option.map_some,addr_add]
      have:=RRep.ro (I:=I) (w:=w) (rows:=(rows.drop l).take (h - l)) (b:=b) (o:=o + l * k) (cap:=m - l) (k:=k) (f:=fun i j=>f (l + i) j) (by intro e;rw [e] at hlen;simp at hlen;omega) g2 (by omega) (by omega) g5
        (fun i r hr=>?_) (fun i j r c hr hc=>?_) (fun i j r c hr hc=>?_)
      · rw [hlen] at this;exact this
      all_goals (have hr':=sub_rows hr;rw [List.getElem?_drop] at hr')
      · exact g6 _ _ hr'
      · have:=g7 _ _ _ _ hr' hc
        rw [← this];congr 2;rw [Nat.add_mul];omega
      · exact g8 _ _ _ _ hr' hc

theorem run_bounds {P:Program} {w:World} {isS:Bool} {len cap:Nat} {lo hi:Option Value} {l h:Option Int} (hl:bval lo l) (hh:bval hi h) (h0:0 ≤ l.getD 0) (h1:l.getD 0 ≤ h.getD len) (h2:h.getD len ≤ cap) :
    (Instr.sliceBounds isS len cap lo hi none).run P w = .ok ((l.getD 0).toNat,(h.getD len).toNat,cap) w:=by
  cases lo<;>cases hi<;>cases l<;>cases h<;>simp only [bval] at hl hh
  · simp [Instr.sliceBounds]
  · obtain ⟨k,rfl⟩:=hh
    simp only [Option.getD_none,Option.getD_some] at *
    simp [Instr.sliceBounds,run_sliceBound w k _ cap _ (by omega) h2]
  · obtain ⟨k,rfl⟩:=hl
    simp only [Option.getD_none,Option.getD_some] at *
    simp [Instr.sliceBounds,run_sliceBound w k _ len _ h0 h1]
  · obtain ⟨k,rfl⟩:=hl
    obtain ⟨k',rfl⟩:=hh
    simp only [Option.getD_none,Option.getD_some] at *
    simp [Instr.sliceBounds,run_sliceBound w k' _ cap _ (by omega) h2]
    rw [run_sliceBound w k _ _ _ h0 (by omega)]
    simp

def sliceV (P:Program) (σ:Sto) (t:TypeId) (lo hi:Option Int):AV → Option (Prop × AV)
  | .d (.ro rows)=>match (tel P t).bind (tsz P) with
    | some k=>some (0 ≤ lo.getD 0 ∧ lo.getD 0 ≤ hi.getD rows.length ∧ hi.getD rows.length ≤ rows.length ∧ Rows rows k,.d (.ro ((rows.drop (lo.getD 0).toNat).take ((hi.getD rows.length).toNat - (lo.getD 0).toNat))))
    | none=>none
  | .os n len=>match (tel P t).bind (tsz P),lo,σ n with
    | some k,none,.arr _ _ rows=>some (0 ≤ hi.getD len ∧ hi.getD len ≤ len ∧ len ≤ rows.length,.os n (hi.getD len).toNat)
    | some k,some lo,.arr k' _ rows=>some (k' = k ∧ 0 ≤ lo ∧ lo < hi.getD len ∧ hi.getD len ≤ len ∧ len ≤ rows.length ∧ 0 < rows.length,.sb n k lo.toNat ((hi.getD len).toNat - lo.toNat))
    | _,_,_=>none
  | .d (.v (.string s))=>if tstr P t = true then some (0 ≤ lo.getD 0 ∧ lo.getD 0 ≤ hi.getD s.size ∧ hi.getD s.size ≤ s.size,.d (.v (.string (s.extract (lo.getD 0).toNat (hi.getD s.size).toNat)))) else none
  | .d (.v (.slice none 0 0))=>match (tel P t).bind (tsz P) with
    | some k=>some (lo.getD 0 = 0 ∧ hi.getD 0 = 0,.d (.v (.slice none 0 0)))
    | none=>none
  | _=>none

theorem run_sliceAt_sl {P:Program} {w:World} {t e:TypeId} {k len cap:Nat} {a:Option Addr} {lo hi:Option Value} {l h:Option Int} (ht:tel P t = some e) (hk:tsz P e = some k) (hl:bval lo l) (hh:bval hi h) (h0:0 ≤ l.getD 0) (h1:l.getD 0 ≤ h.getD len) (h2:h.getD len ≤ cap) :
    (Instr.sliceAt t (.slice a len cap) lo hi none).run P w = .ok (.slice (if cap = (l.getD 0).toNat then a else a.map (·.add ((l.getD 0).toNat * k))) ((h.getD len).toNat - (l.getD 0).toNat) (cap - (l.getD 0).toNat)) w:=by
  have:=run_underlying_el ht
  simp [Instr.sliceAt,Instr.slice,run_underlying this,run_bounds (P:=P) (w:=w) (isS:=true) hl hh h0 h1 h2,run_sizeOf' hk]

theorem sliceV_ok {P:Program} {K:KS} {σ:Sto} {w:World} {t:TypeId} {a v:AV} {q:Prop} {x:Value} {lo hi:Option Value} {l h:Option Int} (hS:RepS K σ w) (ha:Rep K w a x) (hl:bval lo l) (hh:bval hi h) (he:sliceV P σ t l h a = some (q,v)) (hq:q) :
    ∃ y,(Instr.sliceAt t x lo hi none).run P w = .ok y w ∧ Rep K w v y:=by
  unfold sliceV at he
  split at he
  · rename_i rows
    split at he
    · rename_i k hk
      cases he
      obtain ⟨h0,h1,h2,h3⟩:=hq
      obtain ⟨e,he,hk⟩:=Option.bind_eq_some_iff.1 hk
      cases ha with | d ha =>
      have key:∃ b cap,x = .slice b rows.length cap ∧ rows.length ≤ cap:=by
        cases ha with
        | nil=>exact ⟨_,_,rfl,by simp⟩
        | ro g1 g2 g3=>exact ⟨_,_,rfl,g3⟩
      obtain ⟨b,cap,rfl,hc⟩:=key
      refine ⟨_,run_sliceAt_sl he hk hl hh h0 h1 (by omega),.d (slice_ro ha h3 ?_ ?_ (Nat.le_refl _) ?_)⟩<;>omega
    · cases he
  · rename_i n len
    split at he
    · rename_i k k' E rows hk hn
      cases he
      obtain ⟨h0,h1,h2⟩:=hq
      obtain ⟨e,he,hk⟩:=Option.bind_eq_some_iff.1 hk
      have hO:=hS.obj n
      rw [hn] at hO
      cases ha with | os =>
      obtain ⟨z0,⟨hnl,hr⟩ | ⟨hnl,z1,xs,z2,z3,z4,_⟩⟩:=hO
      · subst hr
        have hlen:len = 0:=by simpa using h2
        subst hlen
        have hsl:∀ m,K.sl n m = .slice (K.ad n) 0 0:=fun m=>by simp [KS.sl,hnl]
        rw [hsl]
        have:=run_sliceAt_sl (P:=P) (w:=w) (a:=K.ad n) (len:=0) (cap:=0) he hk hl hh (by simp) (by simpa using h0) (by simpa using h1)
        refine ⟨_,this,?_⟩
        have e2:h.getD 0 = 0:=by
          have:h.getD ((0:Nat):Int) = 0:=by omega
          simpa using this
        have:Rep K w (.os n (h.getD 0).toNat) (K.sl n (h.getD 0).toNat):=.os
        rw [hsl] at this
        simp [e2] at this ⊢
        exact this
      · have hsl:∀ m,K.sl n m = .slice (some ⟨K.blk n,0,none⟩) m (K.cap n):=fun m=>by simp [KS.sl,hnl]
        rw [hsl]
        have:=run_sliceAt_sl (P:=P) (w:=w) (a:=some ⟨K.blk n,0,none⟩) (len:=len) (cap:=K.cap n) he hk hl hh (by simp) (by simpa using h0) (by omega)
        refine ⟨_,this,?_⟩
        have:Rep K w (.os n (h.getD len).toNat) (K.sl n (h.getD len).toNat):=.os
        rw [hsl] at this
        simpa [addr_add] using this
    · rename_i k lo' k' E rows hk hn
      cases he
      obtain ⟨h00,h0,h1,h2,h3,h4⟩:=hq
      subst h00
      obtain ⟨e,he,hk⟩:=Option.bind_eq_some_iff.1 hk
      have hO:=hS.obj n
      rw [hn] at hO
      cases ha with | os =>
      obtain ⟨z0,⟨hnl,hr⟩ | ⟨hnl,z1,xs,z2,z3,z4,_⟩⟩:=hO
      · subst hr;simp at h4
      · have hsl:∀ m,K.sl n m = .slice (some ⟨K.blk n,0,none⟩) m (K.cap n):=fun m=>by simp [KS.sl,hnl]
        rw [hsl]
        have:=run_sliceAt_sl (P:=P) (w:=w) (a:=some ⟨K.blk n,0,none⟩) (len:=len) (cap:=K.cap n) he hk hl hh (by simpa using h0) (by simp;omega) (by omega)
        refine ⟨_,this,?_⟩
        have:=Rep.sb (K:=K) (w:=w) (n:=n) (k:=k') (i:=lo'.toNat) (len:=(h.getD len).toNat - lo'.toNat) hnl
        have e1:((h.getD (len:Int)) - lo').toNat = (h.getD (len:Int)).toNat - lo'.toNat:=by omega
        have e2:((K.cap n:Int) - lo').toNat = K.cap n - lo'.toNat:=by omega
        have e3:¬ (K.cap n = lo'.toNat):=by omega
        simpa [addr_add,e1,e2,e3] using this
    · cases he
  · rename_i s
    cases ha with | d ha=>cases ha with | v ha =>
    split at he
    · rename_i ht
      cases he
      obtain ⟨h0,h1,h2⟩:=hq
      refine ⟨.string (s.extract (l.getD 0).toNat (h.getD s.size).toNat),?_,.d (.v rfl)⟩
      simp [Instr.sliceAt,Instr.slice,run_underlying (tstr_u ht),run_bounds (P:=P) (w:=w) (isS:=false) hl hh h0 h1 h2]
    · cases he
  · cases ha with | d ha=>cases ha with | v ha =>
    split at he
    · rename_i k hk
      cases he
      obtain ⟨h0,h1⟩:=hq
      obtain ⟨e,he,hk⟩:=Option.bind_eq_some_iff.1 hk
      have:=run_sliceAt_sl (P:=P) (w:=w) (a:=none) (len:=0) (cap:=0) he hk hl hh (by omega) (by simp;omega) (by simp;omega)
      refine ⟨_,this,?_⟩
      simp [h0,h1]
      exact .d (.v rfl)
    · cases he
  · cases he

def slice3V (P:Program) (t:TypeId) (lo:Option Int) (h m:Int):AV → Option (Prop × AV)
  | .d (.ro rows)=>match (tel P t).bind (tsz P) with
    | some k=>some (0 ≤ lo.getD 0 ∧ lo.getD 0 ≤ h ∧ h ≤ m ∧ m ≤ rows.length ∧ Rows rows k,.d (.ro ((rows.drop (lo.getD 0).toNat).take (h.toNat - (lo.getD 0).toNat))))
    | none=>none
  | _=>none

theorem slice3V_ok {P:Program} {K:KS} {w:World} {t:TypeId} {a v:AV} {q:Prop} {x:Value} {lo:Option Value} {l:Option Int} {k1 k2:IntKind} {h m:Int} (ha:Rep K w a x) (hl:bval lo l) (he:slice3V P t l h m a = some (q,v)) (hq:q) :
    ∃ y,(Instr.sliceAt t x lo (some (.int k1 h)) (some (.int k2 m))).run P w = .ok y w ∧ Rep K w v y:=by
  unfold slice3V at he
  split at he
  · rename_i rows
    split at he
    · rename_i k hk
      cases he
      obtain ⟨h0,h1,h2,h3,h4⟩:=hq
      obtain ⟨e,he,hk⟩:=Option.bind_eq_some_iff.1 hk
      cases ha with | d ha =>
      have key:∃ b cap,x = .slice b rows.length cap ∧ rows.length ≤ cap:=by
        cases ha with
        | nil=>exact ⟨_,_,rfl,by simp⟩
        | ro g1 g2 g3=>exact ⟨_,_,rfl,g3⟩
      obtain ⟨b,cap,rfl,hc⟩:=key
      have hu:=run_underlying_el he
      have hb:(Instr.sliceBounds true rows.length cap lo (some (.int k1 h)) (some (.int k2 m))).run P w = .ok ((l.getD 0).toNat,h.toNat,m.toNat) w:=by
        cases lo<;>cases l<;>simp only [bval] at hl
        · simp only [Option.getD_none] at *
          simp [Instr.sliceBounds,run_sliceBound w k2 m cap _ (by omega) (by omega)]
          rw [run_sliceBound w k1 h m.toNat _ (by omega) (by omega)]
          simp
        · obtain ⟨k3,rfl⟩:=hl
          simp only [Option.getD_some] at *
          simp [Instr.sliceBounds,run_sliceBound w k2 m cap _ (by omega) (by omega)]
          rw [run_sliceBound w k1 h m.toNat _ (by omega) (by omega)]
          simp
          rw [run_sliceBound w k3 _ h.toNat _ h0 (by omega)]
          simp
      refine ⟨_,?_,.d (slice_ro (m:=m.toNat) ha h4 ?_ ?_ ?_ ?_)⟩<;>(try omega)
      simp [Instr.sliceAt,Instr.slice,run_underlying hu,hb,run_sizeOf' hk]
    · cases he
  · cases he

def empV (P:Program) (t:TypeId):AV → Option (Prop × AV)
  | .d (.ro _) | .os _ _ | .emp=>((tel P t).bind (tsz P)).map fun _=>(True,.emp)
  | .d (.v (.slice none 0 0))=>((tel P t).bind (tsz P)).map fun _=>(True,.emp)
  | _=>none

theorem empV_ok {P:Program} {K:KS} {w:World} {t:TypeId} {a v:AV} {q:Prop} {x:Value} {k k':IntKind} (ha:Rep K w a x) (he:empV P t a = some (q,v)) :
    ∃ y,(Instr.sliceAt t x none (some (.int k 0)) (some (.int k' 0))).run P w = .ok y w ∧ Rep K w v y:=by
  have key:((tel P t).bind (tsz P)).map (fun _=>((True:Prop),AV.emp)) = some (q,v) → ∀ b len cap,∃ y,(Instr.sliceAt t (.slice b len cap) none (some (.int k 0)) (some (.int k' 0))).run P w = .ok y w ∧ Rep K w v y:=fun he b len cap=>by
    simp only [Option.map_eq_some_iff,Prod.mk.injEq] at he
    obtain ⟨s,hs,_,rfl⟩:=he
    obtain ⟨e,he,hk⟩:=Option.bind_eq_some_iff.1 hs
    refine ⟨.slice b 0 0,?_,.emp⟩
    have:=run_underlying_el he
    simp [Instr.sliceAt,Instr.slice,run_underlying this,Instr.sliceBounds,run_sliceBound w k' 0 cap _ (by omega) (by omega),run_sliceBound w k 0 0 _ (by omega) (by omega),run_sizeOf' hk]
  unfold empV at he
  split at he
  · cases ha with | d ha=>cases ha<;>exact key he _ _ _
  · cases ha;unfold KS.sl;cases K.nl _<;>exact key he _ _ _
  · cases ha;exact key he _ _ _
  · cases ha with | d ha=>cases ha with | v ha=>exact key he _ _ _
  · cases he

def minV (mn:Bool):List AV → Option AV
  | .d (.v (.int k x)) :: rest=>rest.foldlM (fun (acc:AV) y=>match acc,y with
    | .d (.v (.int k x)),.d (.v (.int _ y))=>some (.d (.v (.int k (if (bif mn then decide (y < x) else decide (x < y)) = true then y else x))))
    | _,_=>none) (.d (.v (.int k x)))
  | _=>none

def idxV (P:Program) (t:TypeId):AV → Int → Option (Prop × AV)
  | .d (.v (.string s)),i=>if tstr P t = true then some (0 ≤ i ∧ i < s.size,.d (.v (.int .u8 (s.data.getD i.toNat 0).toNat))) else none
  | _,_=>none

theorem idxV_ok {P:Program} {K:KS} {w:World} {t:TypeId} {p v:AV} {q:Prop} {x:Value} {kd:IntKind} {i:Int} (h:Rep K w p x) (he:idxV P t p i = some (q,v)) (hq:q):∃ y,(Instr.index t x (.int kd i)).run P w = .ok y w ∧ Rep K w v y:=by
  unfold idxV at he
  split at he
  · rename_i s
    cases h with | d h=>cases h with | v h =>
    split at he
    · rename_i ht
      cases he
      obtain ⟨h0,h1⟩:=hq
      refine ⟨_,?_,.d (.v (x:=_) rfl)⟩
      have hlt:i.toNat < s.data.size:=by have:s.size = s.data.size:=rfl;omega
      have hg:s[i.toNat]? = some (s.data.getD i.toNat 0):=by
        have e1:s[i.toNat]? = some (s[i.toNat]'hlt):=getElem?_pos s i.toNat hlt
        rw [e1]
        simp only [Array.getD,hlt,dif_pos]
        rfl
      simp [Instr.index,asIntOf,run_underlying (tstr_u ht),h0,hg]
    · cases he
  · cases he
end Go.Proofs.Ytikgiadbkjmabaa

/- Operations without their places in the text;those that only read or reckon,all in one. No program in sight. -/
namespace Go.Proofs.Ytikgiadbkjmabaa
open Go.RowKit
set_option linter.unusedSimpArgs false
set_option linter.unusedVariables false

inductive SOp where
  | move (x:Operand)
  | pick (c x y:Operand)
  | load (t:TypeId) (x:Operand)
  | faddr (s:TypeId) (x:Operand) (f:Nat)
  | iaddr (t:TypeId) (x i:Operand)
  | idx (t:TypeId) (x i:Operand)
  | bin (op:BinOp) (t:TypeId) (x y:Operand)
  | un (op:UnOp) (x:Operand)
  | conv (s d:TypeId) (x:Operand)
  | slice (t:TypeId) (x:Operand) (lo hi:Option Operand)
  | emp (t:TypeId) (x:Operand)
  | slice3 (t:TypeId) (x:Operand) (lo:Option Operand) (hi mx:Operand)
  | bad
  | cap (t:TypeId) (x:Operand)
  | extract (x:Operand) (i:Nat)
  | build (t:TypeId) (parts:List (Nat × Operand))
  | mkfn (fn:Fn) (first cap:List Operand)
  | nilCheck (x:Operand)
  | len (t:TypeId) (x:Operand)
  | minmax (mn:Bool) (xs:List Operand)
  | alloc (t:TypeId)
  | box (t:TypeId) (x:Operand)
  | store (t:TypeId) (p x:Operand)
  | bslice (t:TypeId) (n:Nat) (parts:List (Nat × Operand))
  | app (t:TypeId) (u:TypeId) (s x:Operand)
  | mkslice (t:TypeId) (l c:Operand)
  | call (f:FuncId) (args:List Operand)
  | callv (x:Operand) (args:List Operand)
  | mkmap (t:TypeId)
  | mget (t:TypeId) (x k:Operand)
  | mset (t:TypeId) (x k v:Operand)
  | clr (t:TypeId) (x:Operand)

def comp:Op → Option SOp
  | .move x | .assign x=>some (.move x)
  | .pick c x y=>some (.pick c x y)
  | .load t x=>some (.load t x)
  | .fieldAddr s x f=>some (.faddr s x f)
  | .indexAddr t x i=>some (.iaddr t x i)
  | .index t x i=>some (.idx t x i)
  | .binOp op t x y _=>some (.bin op t x y)
  | .unOp op _ x=>some (.un op x)
  | .convert s d x=>some (.conv s d x)
  | .slice t x lo hi mx=>match mx,hi,lo with
    | none,hi,lo=>some (.slice t x lo hi)
    | some (.const (.int _ 0)),some (.const (.int _ 0)),none=>some (.emp t x)
    | some m,some h,lo=>some (.slice3 t x lo h m)
    | _,_,_=>some .bad
  | .extract x i=>some (.extract x i)
  | .build t parts=>some (.build t parts.toList)
  | .makeFunc fn first cap=>some (.mkfn fn first.toList cap.toList)
  | .nilCheck x=>some (.nilCheck x)
  | .alloc t=>some (.alloc t)
  | .box t x=>some (.box t x)
  | .store t p x=>some (.store t p x)
  | .buildSlice t n parts=>some (.bslice t n parts.toList)
  | .makeSlice t l c=>some (.mkslice t l c)
  | .makeMap t rs=>if rs.isNone then some (.mkmap t) else some .bad
  | .lookup t x k ok=>if ok then some .bad else some (.mget t x k)
  | .mapUpdate t x k v=>some (.mset t x k v)
  | .call c=>match c.callee,c.args.toList,c.argTypes.toList with
    | .builtin .len,[x],[t]=>some (.len t x)
    | .builtin .cap,[x],[t]=>some (.cap t x)
    | .builtin .clear,[x],[t]=>some (.clr t x)
    | .builtin .min,xs,_=>some (.minmax true xs)
    | .builtin .max,xs,_=>some (.minmax false xs)
    | .builtin .append,[s,x],[t,u]=>some (.app t u s x)
    | .value (.func f),xs,_=>some (.call f xs)
    | .value x,xs,_=>some (.callv x xs)
    | _,_,_=>some .bad
  | _=>some .bad

def SOp.opnds:SOp → List Operand
  | .move x | .load _ x | .faddr _ x _ | .un _ x | .conv _ _ x | .emp _ x | .extract x _ | .nilCheck x | .len _ x | .cap _ x | .box _ x | .clr _ x=>[x]
  | .pick c x y=>[c,x,y]
  | .iaddr _ x i | .idx _ x i | .bin _ _ x i | .store _ x i | .app _ _ x i | .mkslice _ x i=>[x,i]
  | .slice _ x lo hi=>x :: (lo.toList ++ hi.toList)
  | .slice3 _ x lo h m=>x :: h :: m :: lo.toList
  | .bad=>[]
  | .build _ ps | .bslice _ _ ps=>ps.map (·.2)
  | .mkfn _ a b=>a ++ b
  | .minmax _ xs | .call _ xs=>xs
  | .callv x xs=>x :: xs
  | .alloc _ | .mkmap _=>[]
  | .mget _ x k=>[x,k]
  | .mset _ x k v=>[x,k,v]

def allP:List Prop → Prop
  | []=>True
  | p :: l=>p ∧ allP l

theorem allP_mem {l:List Prop} (h:allP l):∀ p ∈ l,p:=by
  induction l with
  | nil=>intro p hp;cases hp
  | cons q l ih =>
    intro p hp
    rcases List.mem_cons.1 hp with rfl | hp
    · exact h.1
    · exact ih h.2 p hp

def with1 (x:Prop × AV) (f:AV → Option (Prop × AV)):Option (Prop × AV):=(f x.2).map fun r=>(x.1 ∧ r.1,r.2)
def with2 (x y:Prop × AV) (f:AV → AV → Option (Prop × AV)):Option (Prop × AV):=(f x.2 y.2).map fun r=>(x.1 ∧ y.1 ∧ r.1,r.2)
def onInt (f:AV → Int → Option (Prop × AV)) (v:AV):AV → Option (Prop × AV)
  | .d (.v (.int _ n))=>f v n
  | _=>none
def tupV (i:Nat):AV → Option (Prop × AV)
  | .tup cs=>(cs[i]?).map fun v=>(True,v)
  | _=>none
def nilV:AV → Option (Prop × AV)
  | .lp n o=>some (True,.lp n o)
  | .rp cs=>some (True,.rp cs)
  | .ap n k i j=>some (True,.ap n k i j)
  | _=>none

def getM:List (KV × Bool) → KV → Bool
  | [],_=>false
  | p :: es,k=>if p.1 = k then p.2 else getM es k
def setM:List (KV × Bool) → KV → Bool → List (KV × Bool)
  | [],k,b=>[(k,b)]
  | p :: es,k,b=>if p.1 = k then (k,b) :: es else p :: setM es k b
def kvOf:AV → Option KV
  | .d (.v (.int .i64 n))=>some (.i n)
  | .agg [.d (.v (.string a)),.d (.v (.string b))]=>some (.s2 a b)
  | _=>none
structure MapT (P:Program) (t:TypeId) (s:Bool):Prop where
  ex:∃ kt et,P.underlying t = some (.map kt et) ∧ (∀ w,(zeroValue et).run P w = .ok (.bool false) w) ∧
    (∀ (w:World) (em:Bool) (k:KV),k.ok s → (Instr.checkKey em 10000 kt k.val).run P w = .ok () w) ∧
    (∀ (w:World) (k:KV) (xs:List MapEntry),k.ok s → (∀ e ∈ xs,∃ k':KV,k'.ok s ∧ e.key = k'.val) → ((Instr.findKey kt k.val xs).run P w = .ok none w ∧ ∀ e ∈ xs,e.key ≠ k.val) ∨ ∃ j e,(Instr.findKey kt k.val xs).run P w = .ok (some (j,e.val)) w ∧ xs[j]? = some e ∧ e.key = k.val) ∧
    (∀ (w:World) (k:KV),k.ok s → (Instr.keyThatStays k.val k.val).run P w = .ok k.val w)
def mgetV (P:Program) (σ:Sto) (t:TypeId):AV → AV → Option (Prop × AV)
  | .mp n,kv=>match σ n,kvOf kv with
    | .mp s es,some k=>some (MapT P t s ∧ k.ok s,.d (.v (.bool (getM es k))))
    | _,_=>none
  | _,_=>none
theorem kv_rep {K:KS} {w:World} {v:AV} {x:Value} {k:KV} (h:Rep K w v x) (hk:kvOf v = some k):x = k.val:=by
  unfold kvOf at hk
  split at hk
  · cases hk;cases h with | d h=>cases h with | v h=>rfl
  · rename_i a b
    cases hk
    cases h with
    | @agg cs xs h1 h2 h3 =>
      match xs,h1,h2,h3 with
      | [x,y],h1,h2,h3 =>
        have e1:=h2 0 _ _ rfl rfl
        have e2:=h2 1 _ _ rfl rfl
        cases e1 with | d e1=>cases e1 with | v e1 =>
        cases e2 with | d e2=>cases e2 with | v e2=>rfl
  · cases hk
theorem getM_some:∀ {es:List (KV × Bool)} {xs:List MapEntry} {k:KV} {j:Nat} {e:MapEntry},xs.map (fun e=>(e.key,e.val)) = es.map (fun p=>(p.1.val,.bool p.2)) → (es.map (·.1)).Nodup → xs[j]? = some e → e.key = k.val → e.val = .bool (getM es k)
  | [],xs,k,j,e,h,_,hj,_=>by
    cases xs with
    | nil=>simp at hj
    | cons x xs=>cases h
  | p :: es,[],k,j,e,h,_,hj,_=>by cases h
  | p :: es,x :: xs,k,j,e,h,hn,hj,hk=>by
    simp only [List.map_cons,List.cons.injEq,Prod.mk.injEq] at h
    obtain ⟨⟨h1,h2⟩,h3⟩:=h
    rw [List.map_cons,List.nodup_cons] at hn
    simp only [getM]
    cases j with
    | zero =>
      simp only [List.getElem?_cons_zero,Option.some.injEq] at hj
      subst hj
      have:p.1 = k:=KV.val_inj (by rw [← h1,hk])
      rw [if_pos this,h2]
    | succ j =>
      simp only [List.getElem?_cons_succ] at hj
      have ih:=getM_some h3 hn.2 hj hk
      have hne:p.1 ≠ k:=fun e0=>by
        have hm:(e.key,e.val) ∈ es.map (fun p=>(p.1.val,Value.bool p.2)):=by
          rw [← h3];exact List.mem_map.2 ⟨e,List.mem_of_getElem? hj,rfl⟩
        obtain ⟨p',hp',hpe⟩:=List.mem_map.1 hm
        simp only [Prod.mk.injEq] at hpe
        have:p'.1 = k:=KV.val_inj (by rw [hpe.1,hk])
        exact hn.1 (List.mem_map.2 ⟨p',hp',by rw [this,e0]⟩)
      rw [if_neg hne];exact ih
theorem getM_none:∀ {es:List (KV × Bool)} {k:KV},(∀ p ∈ es,p.1 ≠ k) → getM es k = false
  | [],_,_=>rfl
  | p :: es,k,h=>by
    simp only [getM]
    rw [if_neg (h p (by simp))]
    exact getM_none fun q hq=>h q (by simp [hq])
theorem mgetV_ok {P:Program} {K:KS} {σ:Sto} {w:World} {t:TypeId} {v kv r:AV} {x y:Value} {q:Prop} (hS:RepS K σ w) (hx:Rep K w v x) (hy:Rep K w kv y) (h:mgetV P σ t v kv = some (q,r)) (hq:q):∃ z,(Instr.lookup t x y false).run P w = .ok z w ∧ Rep K w r z:=by
  unfold mgetV at h
  split at h
  · rename_i n
    split at h
    · rename_i s es k ho hk
      cases h
      obtain ⟨⟨kt,et,hu,hz,hc,hf,_⟩,hok⟩:=hq
      have e:=kv_rep hy hk
      subst e
      cases hx
      have hO:=hS.obj n
      rw [ho] at hO
      obtain ⟨h1,h2,h3,xs,clock,h4,h5⟩:=hO
      have hall:∀ e ∈ xs,∃ k':KV,k'.ok s ∧ e.key = k'.val:=fun e he=>by
        have hm:(e.key,e.val) ∈ es.map (fun p=>(p.1.val,Value.bool p.2)):=by rw [← h5];exact List.mem_map.2 ⟨e,he,rfl⟩
        obtain ⟨p,hp,hpe⟩:=List.mem_map.1 hm
        simp only [Prod.mk.injEq] at hpe
        exact ⟨p.1,h3 p hp,hpe.1.symm⟩
      have hgo:(getObj (K.blk n)).run P w = .ok (.map xs.toArray clock) w:=by simp [getObj,Sem.run,h4]
      refine ⟨.bool (getM es k),?_,.d (.v rfl)⟩
      rcases hf w k xs hok hall with ⟨g1,g2⟩ | ⟨j,e,g1,g2,g3⟩
      · have:getM es k = false:=getM_none fun p hp e0=>by
          have hm:(p.1.val,Value.bool p.2) ∈ xs.map (fun e=>(e.key,e.val)):=by rw [h5];exact List.mem_map.2 ⟨p,hp,rfl⟩
          obtain ⟨e,he,hee⟩:=List.mem_map.1 hm
          simp only [Prod.mk.injEq] at hee
          exact g2 e he (by rw [hee.1,e0])
        simp only [Instr.lookup,Sem.run_bind,run_underlying hu,Result.andThen,hgo,hc w _ k hok,g1,hz,Sem.run_pure,Bool.false_eq_true,if_false,this]
      · have:=getM_some h5 h2 g2 g3
        simp only [Instr.lookup,Sem.run_bind,run_underlying hu,Result.andThen,hgo,hc w _ k hok,g1,Sem.run_pure,Bool.false_eq_true,if_false,this]
    · cases h
  · cases h

def aev (P:Program) (σ:Sto) (a:Fr):SOp → Option (Prop × AV)
  | .move x=>some (opd a x)
  | .pick c x y=>match opd a c with
    | (p,.d (.v (.bool b)))=>some (p ∧ (b = true → (opd a x).1) ∧ (b = false → (opd a y).1),AV.pick b (opd a x).2 (opd a y).2)
    | _=>none
  | .load t x=>with1 (opd a x) (loadV P σ t)
  | .faddr s x f=>with1 (opd a x) (fieldV P s f)
  | .iaddr t x i=>with2 (opd a x) (opd a i) (onInt (indexV P σ t))
  | .idx t x i=>with2 (opd a x) (opd a i) (onInt (idxV P t))
  | .bin op t x y=>with2 (opd a x) (opd a y) (binV P op t)
  | .un op x=>with1 (opd a x) (unV op)
  | .conv s d x=>with1 (opd a x) (convV P s d σ)
  | .slice t x lo hi=>match bnd a lo,bnd a hi with
    | some (p,l),some (q,h)=>with1 (opd a x) fun v=>(sliceV P σ t l h v).map fun r=>(p ∧ q ∧ r.1,r.2)
    | _,_=>none
  | .emp t x=>with1 (opd a x) (empV P t)
  | .slice3 t x lo h m=>match bnd a lo,opd a h,opd a m with
    | some (p,l),(p1,.d (.v (.int _ h))),(p2,.d (.v (.int _ m)))=>with1 (opd a x) fun v=>(slice3V P t l h m v).map fun r=>(p ∧ p1 ∧ p2 ∧ r.1,r.2)
    | _,_,_=>none
  | .extract x i=>with1 (opd a x) (tupV i)
  | .build t ps=>(buildV P t (ps.map fun p=>(p.1,(opd a p.2).2))).map fun v=>(allP (ps.map fun p=>(opd a p.2).1),v)
  | .mkfn fn x y=>some (allP (x.map fun z=>(opd a z).1) ∧ allP (y.map fun z=>(opd a z).1),.clo fn (x.map fun z=>(opd a z).2) (y.map fun z=>(opd a z).2))
  | .nilCheck x=>with1 (opd a x) nilV
  | .mget t x k=>with2 (opd a x) (opd a k) (mgetV P σ t)
  | .len t x=>with1 (opd a x) (lenV P σ t)
  | .minmax mn xs=>(minV mn (xs.map fun z=>(opd a z).2)).map fun v=>(allP (xs.map fun z=>(opd a z).1),v)
  | _=>none

theorem with1_some {x:Prop × AV} {f:AV → Option (Prop × AV)} {q:Prop} {v:AV} (h:with1 x f = some (q,v)):∃ r,f x.2 = some (r,v) ∧ q = (x.1 ∧ r):=by
  unfold with1 at h
  simp only [Option.map_eq_some_iff,Prod.mk.injEq] at h
  obtain ⟨⟨r,v'⟩,h1,rfl,rfl⟩:=h
  exact ⟨r,h1,rfl⟩
theorem with2_some {x y:Prop × AV} {f:AV → AV → Option (Prop × AV)} {q:Prop} {v:AV} (h:with2 x y f = some (q,v)):∃ r,f x.2 y.2 = some (r,v) ∧ q = (x.1 ∧ y.1 ∧ r):=by
  unfold with2 at h
  simp only [Option.map_eq_some_iff,Prod.mk.injEq] at h
  obtain ⟨⟨r,v'⟩,h1,rfl,rfl⟩:=h
  exact ⟨r,h1,rfl⟩

theorem run_val {P:Program} {w w':World} {s:Sem Value} {y:Value} (h:s.run P w = .ok y w'):(do pure (Next.value (← s)):Sem Next).run P w = .ok (.value y) w':=by
  simp only [Sem.run_bind,h,Result.andThen,Sem.run_pure]

theorem reps_list {K:KS} {w:World} {a:Fr} {ρ:Operand → Value} {xs:List Operand} (h:∀ x ∈ xs,OpOk K w a ρ x) (hp:allP (xs.map fun z=>(opd a z).1)) :
    (xs.map fun z=>(opd a z).2).length = (xs.map ρ).length ∧ ∀ (i:Nat) (c:AV) (x:Value),(xs.map fun z=>(opd a z).2)[i]? = some c → (xs.map ρ)[i]? = some x → Rep K w c x:=by
  refine ⟨by simp,fun i c x hc hx=>?_⟩
  simp only [List.getElem?_map] at hc hx
  cases hz:xs[i]? with
  | none=>simp [hz] at hc
  | some z =>
    simp [hz] at hc hx
    subst hc;subst hx
    have hm:=List.mem_of_getElem? hz
    exact h z hm (allP_mem hp _ (List.mem_map.2 ⟨z,hm,rfl⟩))

theorem minV_ok {P:Program} {K:KS} {w:World} {mn:Bool} {vs:List AV} {xs:List Value} {v:AV} (hl:vs.length = xs.length) (h:∀ (i:Nat) (c:AV) (x:Value),vs[i]? = some c → xs[i]? = some x → Rep K w c x) (he:minV mn vs = some v) :
    ∃ y,(if mn then Builtin.min_ #[] 0 xs.toArray else Builtin.max_ #[] 0 xs.toArray).run P w = .ok y w ∧ Rep K w v y:=by
  unfold minV at he
  split at he
  · rename_i k x rest
    cases xs with
    | nil=>simp at hl
    | cons x0 xs =>
      have hx0:x0 = .int k x:=by
        have:=h 0 _ _ rfl rfl
        cases this with | d h=>exact h.int
      subst hx0
      have key:∀ (rest:List AV) (xs:List Value) (x:Int) (v:AV),rest.length = xs.length → (∀ (i:Nat) (c:AV) (x:Value),rest[i]? = some c → xs[i]? = some x → Rep K w c x) →
          rest.foldlM (fun (acc:AV) y=>match acc,y with
            | .d (.v (.int k x)),.d (.v (.int _ y))=>some (.d (.v (.int k (if (bif mn then decide (y < x) else decide (x < y)) = true then y else x))))
            | _,_=>none) (.d (.v (.int k x))) = some v → ∃ y,(xs.foldlM (if mn then Builtin.min2 else Builtin.max2) (.int k x)).run P w = .ok y w ∧ Rep K w v y:=by
        intro rest
        induction rest with
        | nil =>
          intro xs x v hl _ he
          cases xs with
          | nil=>simp at he;subst he;exact ⟨_,by simp,.d (.v rfl)⟩
          | cons=>simp at hl
        | cons r rest ih =>
          intro xs x v hl hr he
          cases xs with
          | nil=>simp at hl
          | cons y ys =>
            simp only [List.foldlM_cons] at he
            split at he
            · rename_i k1 x1 k2 y2 e1
              have hy:y = .int k2 y2:=by
                have:=hr 0 _ _ rfl rfl
                cases this with | d h=>exact h.int
              subst hy
              cases e1
              simp only [Option.bind_eq_bind,Option.bind_some] at he
              obtain ⟨z,hz1,hz2⟩:=ih ys _ v (by simpa using hl) (fun i c x hc hx=>hr (i + 1) c x (by simpa using hc) (by simpa using hx)) he
              refine ⟨z,?_,hz2⟩
              simp only [List.foldlM_cons,Sem.run_bind]
              cases mn
              · simp only [cond_false,decide_eq_true_eq,Bool.false_eq_true,if_false] at hz1 ⊢
                simp only [Builtin.max2,Sem.run_pure,Result.andThen]
                first | exact hz1 | (have e:(if y2 > x1 then y2 else x1) = (if x1 < y2 then y2 else x1):=rfl;exact hz1)
              · simp only [cond_true,decide_eq_true_eq,if_true] at hz1 ⊢
                simp only [Builtin.min2,Sem.run_pure,Result.andThen]
                exact hz1
            · simp at he
      obtain ⟨y,h1,h2⟩:=key rest xs x v (by simpa using hl) (fun i c x hc hx=>h (i + 1) c x (by simpa using hc) (by simpa using hx)) he
      refine ⟨y,?_,h2⟩
      cases mn
      · simpa [Builtin.max_] using h1
      · simpa [Builtin.min_] using h1
  · cases he
end Go.Proofs.Ytikgiadbkjmabaa

/- Operations that only read or reckon: what the model makes of them is what is said of them as trees. No program in sight. -/
namespace Go.Proofs.Ytikgiadbkjmabaa
open Go.RowKit
set_option linter.unusedSimpArgs false
set_option linter.unusedVariables false

theorem map_list {α β:Type} (f:α → β) (xs:Array α):(xs.toList.map f).toArray = xs.map f:=by cases xs;simp

theorem aev_ok {P:Program} {K:KS} {σ:Sto} {w:World} {a:Fr} {ρ:Operand → Value} {o:Oper} {s:SOp} {q:Prop} {v:AV} (hc:comp o.op = some s) (hx:∀ x ∈ s.opnds,OpOk K w a ρ x) (hS:RepS K σ w) (hρ:∀ v,ρ (.const v) = v) (he:aev P σ a s = some (q,v)) (hq:q) :
    ∃ y,(execOp ρ o).run P w = .ok (.value y) w ∧ Rep K w v y:=by
  obtain ⟨dst,op,ty,pos,after,guard⟩:=o
  simp only at hc
  cases op<;>simp only [comp,Option.some.injEq] at hc<;>(try (cases hc))<;>simp only [aev,SOp.opnds,List.mem_cons,List.not_mem_nil,or_false,forall_eq_or_imp,forall_eq] at he hx
  case move x =>
    have e:=Option.some.inj he
    unfold OpOk at hx;rw [e] at hx
    exact ⟨ρ x,by simp [execOp],hx hq⟩
  case assign x =>
    have e:=Option.some.inj he
    unfold OpOk at hx;rw [e] at hx
    exact ⟨ρ x,by simp [execOp],hx hq⟩
  case pick c x y =>
    obtain ⟨h1,h2,h3⟩:=hx
    split at he
    · rename_i p b hcv
      cases he
      obtain ⟨q1,q2,q3⟩:=hq
      unfold OpOk at h1
      rw [hcv] at h1
      have hb:ρ c = .bool b:=by have:=h1 q1;cases this with | d h=>exact h.int
      refine ⟨bif b then ρ x else ρ y,?_,AV.pick_ok (fun hb=>h2 (q2 hb)) (fun hb=>h3 (q3 hb))⟩
      simp only [execOp,hb,asBool,Sem.run_bind,Sem.run_pure,Result.andThen]
      cases b<;>rfl
    · cases he
  case load t x =>
    obtain ⟨r,h1,rfl⟩:=with1_some he
    obtain ⟨y,h2,h3⟩:=loadV_ok hS (hx hq.1) h1 hq.2
    exact ⟨y,run_val h2,h3⟩
  case nilCheck x =>
    obtain ⟨r,h1,rfl⟩:=with1_some he
    have:=hx hq.1
    unfold nilV at h1
    split at h1<;>cases h1<;>rename_i e<;>rw [e] at this<;>(refine ⟨ρ x,?_,this⟩;cases h:ρ x<;>rw [h] at this<;>cases this<;>simp [execOp,h])
  case binOp op t x y t' =>
    obtain ⟨r,h1,rfl⟩:=with2_some he
    obtain ⟨z,h2,h3⟩:=run_binV x y (hx.1 hq.1) (hx.2 hq.2.1) h1 hq.2.2
    exact ⟨z,run_val (h2 w),h3⟩
  case unOp op t x =>
    obtain ⟨r,h1,rfl⟩:=with1_some he
    obtain ⟨z,h2,h3⟩:=unV_ok (P:=P) (hx hq.1) h1
    exact ⟨z,run_val (h2 w),h3⟩
  case convert src dst x =>
    obtain ⟨r,h1,rfl⟩:=with1_some he
    obtain ⟨z,h2,h3⟩:=convV_ok hS (hx hq.1) h1 hq.2
    exact ⟨z,run_val h2,h3⟩
  case fieldAddr t x f =>
    obtain ⟨r,h1,rfl⟩:=with1_some he
    obtain ⟨z,h2,h3⟩:=fieldV_ok (hx hq.1) h1
    exact ⟨z,run_val (h2 w),h3⟩
  case indexAddr t x i =>
    obtain ⟨r,h1,rfl⟩:=with2_some he
    unfold onInt at h1
    split at h1
    · rename_i k n e
      have hi:=hx.2 hq.2.1
      rw [e] at hi
      have hi':ρ i = .int k n:=by cases hi with | d h=>exact h.int
      obtain ⟨z,h2,h3⟩:=indexV_ok (kd:=k) hS (hx.1 hq.1) h1 hq.2.2
      exact ⟨z,run_val (by rw [hi'];exact h2),h3⟩
    · cases h1
  case index t x i =>
    obtain ⟨r,h1,rfl⟩:=with2_some he
    unfold onInt at h1
    split at h1
    · rename_i k n e
      have hi:=hx.2 hq.2.1
      rw [e] at hi
      have hi':ρ i = .int k n:=by cases hi with | d h=>exact h.int
      obtain ⟨z,h2,h3⟩:=idxV_ok (P:=P) (kd:=k) (hx.1 hq.1) h1 hq.2.2
      exact ⟨z,run_val (by rw [hi'];exact h2),h3⟩
    · cases h1
  case lookup t x k ok =>
    cases ok with
    | false =>
      have hs:SOp.mget t x k = s:=by simpa [comp] using hc
      subst hs
      simp only [aev,SOp.opnds,List.mem_cons,List.not_mem_nil,or_false,forall_eq_or_imp,forall_eq] at he hx
      obtain ⟨r,h1,rfl⟩:=with2_some he
      obtain ⟨z,h2,h3⟩:=mgetV_ok hS (hx.1 hq.1) (hx.2 hq.2.1) h1 hq.2.2
      exact ⟨z,run_val h2,h3⟩
    | true =>
      have hs:SOp.bad = s:=by simpa [comp] using hc
      subst hs
      simp only [aev] at he
      cases he
  case makeMap t rs =>
    cases rs with
    | none =>
      have hs:SOp.mkmap t = s:=by simpa [comp] using hc
      subst hs
      simp only [aev] at he
      cases he
    | some y =>
      have hs:SOp.bad = s:=by simpa [comp] using hc
      subst hs
      simp only [aev] at he
      cases he
  case extract x i =>
    obtain ⟨r,h1,rfl⟩:=with1_some he
    have:=hx hq.1
    unfold tupV at h1
    split at h1
    · rename_i cs e
      rw [e] at this
      simp only [Option.map_eq_some_iff,Prod.mk.injEq] at h1
      obtain ⟨c,hc,rfl,rfl⟩:=h1
      cases h:ρ x<;>rw [h] at this<;>cases this
      rename_i xs hl hr
      have hi:i < xs.length:=by rw [← hl];exact (List.getElem?_eq_some_iff.1 hc).1
      have hxi:xs[i]? = some xs[i]:=List.getElem?_eq_getElem hi
      exact ⟨xs[i],run_val (by simp [Instr.extract,hi,h]),hr i _ _ hc hxi⟩
    · cases h1
  case build t parts =>
    simp only [Option.map_eq_some_iff,Prod.mk.injEq] at he
    obtain ⟨v',he,rfl,rfl⟩:=he
    obtain ⟨y,h1,h2⟩:=buildV_ok (K:=K) (w:=w) (vals:=parts.toList.map fun p=>(p.1,ρ p.2)) (by simp) (fun m p q h1 h2=>by
      simp only [List.getElem?_map] at h1 h2
      cases hz:parts.toList[m]? with
      | none=>simp [hz] at h1
      | some z =>
        simp [hz] at h1 h2
        subst h1;subst h2
        have hm:=List.mem_of_getElem? hz
        exact ⟨rfl,hx z.2 (List.mem_map.2 ⟨z,hm,rfl⟩) (allP_mem hq _ (List.mem_map.2 ⟨z,hm,rfl⟩))⟩) he
    refine ⟨y,run_val ?_,h2⟩
    have e:(parts.map fun (p:Nat × Operand)=>(p.1,ρ p.2)) = (parts.toList.map fun p=>(p.1,ρ p.2)).toArray:=(map_list _ _).symm
    have e':(parts.map fun (i,x)=>(i,ρ x)) = (parts.toList.map fun p=>(p.1,ρ p.2)).toArray:=e
    rw [e'];exact h1 w
  case makeFunc fn first cap =>
    cases he
    obtain ⟨a1,a2⟩:=reps_list (fun x hxm=>hx x (List.mem_append_left _ hxm)) hq.1
    obtain ⟨b1,b2⟩:=reps_list (fun x hxm=>hx x (List.mem_append_right _ hxm)) hq.2
    have:=Rep.clo (fn:=fn) a1 b1 a2 b2
    have e1:(first.toList.map ρ).toArray = first.map ρ:=map_list _ _
    have e2:(cap.toList.map ρ).toArray = cap.map ρ:=map_list _ _
    rw [e1,e2] at this
    exact ⟨_,run_val (by rfl),this⟩
  case slice t x lo hi mx =>
    split at hc
    · cases hc
      simp only [aev] at he
      split at he
      · rename_i p l q h e1 e2
        obtain ⟨r,h1,rfl⟩:=with1_some he
        simp only [Option.map_eq_some_iff,Prod.mk.injEq] at h1
        obtain ⟨⟨r',v'⟩,h1,rfl,rfl⟩:=h1
        obtain ⟨z,h2,h3⟩:=sliceV_ok hS (hx x (by simp [SOp.opnds]) hq.1) (bnd_ok (fun y hy=>hx y (by simp [SOp.opnds,hy])) e1 hq.2.1) (bnd_ok (fun y hy=>hx y (by simp [SOp.opnds,hy])) e2 hq.2.2.1) h1 hq.2.2.2
        exact ⟨z,run_val h2,h3⟩
      · cases he
    · cases hc
      simp only [aev] at he
      obtain ⟨r,h1,rfl⟩:=with1_some he
      rename_i k1 k2
      obtain ⟨z,h2,h3⟩:=empV_ok (P:=P) (k:=k1) (k':=k2) (hx x (by simp [SOp.opnds]) hq.1) h1
      exact ⟨z,run_val (by simp only [Option.map_some,Option.map_none,hρ];exact h2),h3⟩
    · rename_i lo0 m hh hne
      cases hc
      simp only [aev] at he
      split at he
      · rename_i p l p1 kk1 hv p2 kk2 mv e1 e2 e3
        obtain ⟨r,h1,rfl⟩:=with1_some he
        simp only [Option.map_eq_some_iff,Prod.mk.injEq] at h1
        obtain ⟨⟨r',v'⟩,h1,rfl,rfl⟩:=h1
        have v1:ρ hh = .int kk1 hv:=by
          have:=hx hh (by simp [SOp.opnds])
          unfold OpOk at this;rw [e2] at this
          cases this hq.2.2.1 with | d h=>exact h.int
        have v2:ρ m = .int kk2 mv:=by
          have:=hx m (by simp [SOp.opnds])
          unfold OpOk at this;rw [e3] at this
          cases this hq.2.2.2.1 with | d h=>exact h.int
        obtain ⟨z,h2,h3⟩:=slice3V_ok (P:=P) (k1:=kk1) (k2:=kk2) (hx x (by simp [SOp.opnds]) hq.1) (bnd_ok (fun y hy=>hx y (by simp [SOp.opnds,hy])) e1 hq.2.1) h1 hq.2.2.2.2
        exact ⟨z,run_val (by simp only [Option.map_some,v1,v2];exact h2),h3⟩
      · cases he
    · cases hc
      simp only [aev] at he
      cases he
  case call c =>
    obtain ⟨callee,args,ats⟩:=c
    simp only at hc
    split at hc<;>cases hc<;>simp only [aev] at he<;>(try (cases he;done))
    · rename_i x t hargs hats
      have ea:args = #[x]:=by cases args;simp_all
      have et:ats = #[t]:=by cases ats;simp_all
      subst ea;subst et
      obtain ⟨r,h1,rfl⟩:=with1_some he
      obtain ⟨z,h2,h3⟩:=lenV_ok (ty:=ty) hS (hx x (by simp [SOp.opnds]) hq.1) h1 hq.2
      refine ⟨z,?_,h3⟩
      simp only [execOp,resolve,invoke,builtin,pure_bind,Sem.run_bind,Sem.run_pure,Result.andThen]
      have:(#[x].map ρ) = #[ρ x]:=by simp
      rw [this,h2]
    · simp only [Option.map_eq_some_iff,Prod.mk.injEq] at he
      obtain ⟨v',he,rfl,rfl⟩:=he
      obtain ⟨a1,a2⟩:=reps_list hx hq
      obtain ⟨y,h1,h2⟩:=minV_ok (P:=P) a1 a2 he
      refine ⟨y,?_,h2⟩
      simp only [execOp,resolve,invoke,builtin,pure_bind,Sem.run_bind,Sem.run_pure,Result.andThen]
      simp only [if_true] at h1
      have e:(args.map ρ) = (args.toList.map ρ).toArray:=(map_list _ _).symm
      have e2:∀ x y,Builtin.min_ x y (args.map ρ) = Builtin.min_ #[] 0 (args.map ρ):=fun _ _=>rfl
      rw [e2,e,h1]
    · simp only [Option.map_eq_some_iff,Prod.mk.injEq] at he
      obtain ⟨v',he,rfl,rfl⟩:=he
      obtain ⟨a1,a2⟩:=reps_list hx hq
      obtain ⟨y,h1,h2⟩:=minV_ok (P:=P) a1 a2 he
      refine ⟨y,?_,h2⟩
      simp only [execOp,resolve,invoke,builtin,pure_bind,Sem.run_bind,Sem.run_pure,Result.andThen]
      simp only [Bool.false_eq_true,if_false] at h1
      have e:(args.map ρ) = (args.toList.map ρ).toArray:=(map_list _ _).symm
      have e2:∀ x y,Builtin.max_ x y (args.map ρ) = Builtin.max_ #[] 0 (args.map ρ):=fun _ _=>rfl
      rw [e2,e,h1]
  all_goals simp at he
end Go.Proofs.Ytikgiadbkjmabaa

/- Operations whose value hangs on no world;loads,whose value hangs on one block. No program in sight. -/
namespace Go.Proofs.Ytikgiadbkjmabaa
open Go.RowKit
set_option linter.unusedSimpArgs false
set_option linter.unusedVariables false

def plainOp:Op → Bool
  | .move _ | .assign _ | .extract .. | .fieldAddr .. | .binOp .. | .unOp .. | .nilCheck _ | .build .. | .pick ..=>true
  | _=>false
def loadOp:Op → Bool
  | .load ..=>true
  | _=>false

theorem plain_any_world {P:Program} {K:KS} {σ:Sto} {w:World} {a:Fr} {ρ:Operand → Value} {o:Oper} {s:SOp} {q:Prop} {v:AV} (hp:plainOp o.op = true) (hc:comp o.op = some s) (hx:∀ x ∈ s.opnds,OpOk K w a ρ x) (hS:RepS K σ w) (he:aev P σ a s = some (q,v)) (hq:q) :
    ∃ y,(∀ w:World,(execOp ρ o).run P w = .ok (.value y) w) ∧ Rep K w v y:=by
  obtain ⟨dst,op,ty,pos,after,guard⟩:=o
  simp only at hc hp
  cases op<;>simp only [plainOp,Bool.false_eq_true] at hp<;>simp only [comp,Option.some.injEq] at hc<;>cases hc<;>simp only [aev,SOp.opnds,List.mem_cons,List.not_mem_nil,or_false,forall_eq_or_imp,forall_eq] at he hx
  case move x =>
    have e:=Option.some.inj he
    unfold OpOk at hx;rw [e] at hx
    exact ⟨ρ x,fun w=>by simp [execOp],hx hq⟩
  case assign x =>
    have e:=Option.some.inj he
    unfold OpOk at hx;rw [e] at hx
    exact ⟨ρ x,fun w=>by simp [execOp],hx hq⟩
  case pick c x y =>
    obtain ⟨h1,h2,h3⟩:=hx
    split at he
    · rename_i p b hcv
      cases he
      obtain ⟨q1,q2,q3⟩:=hq
      unfold OpOk at h1
      rw [hcv] at h1
      have hb:ρ c = .bool b:=by have:=h1 q1;cases this with | d h=>exact h.int
      refine ⟨bif b then ρ x else ρ y,fun w=>?_,AV.pick_ok (fun hb=>h2 (q2 hb)) (fun hb=>h3 (q3 hb))⟩
      simp only [execOp,hb,asBool,Sem.run_bind,Sem.run_pure,Result.andThen]
      cases b<;>rfl
    · cases he
  case nilCheck x =>
    obtain ⟨r,h1,rfl⟩:=with1_some he
    have:=hx hq.1
    unfold nilV at h1
    split at h1<;>cases h1<;>rename_i e<;>rw [e] at this<;>(refine ⟨ρ x,fun w=>?_,this⟩;cases h:ρ x<;>rw [h] at this<;>cases this<;>simp [execOp,h])
  case binOp op t x y t' =>
    obtain ⟨r,h1,rfl⟩:=with2_some he
    obtain ⟨z,h2,h3⟩:=run_binV x y (hx.1 hq.1) (hx.2 hq.2.1) h1 hq.2.2
    exact ⟨z,fun w=>run_val (h2 w),h3⟩
  case unOp op t x =>
    obtain ⟨r,h1,rfl⟩:=with1_some he
    obtain ⟨z,h2,h3⟩:=unV_ok (P:=P) (hx hq.1) h1
    exact ⟨z,fun w=>run_val (h2 w),h3⟩
  case fieldAddr t x f =>
    obtain ⟨r,h1,rfl⟩:=with1_some he
    obtain ⟨z,h2,h3⟩:=fieldV_ok (hx hq.1) h1
    exact ⟨z,fun w=>run_val (h2 w),h3⟩
  case extract x i =>
    obtain ⟨r,h1,rfl⟩:=with1_some he
    have:=hx hq.1
    unfold tupV at h1
    split at h1
    · rename_i cs e
      rw [e] at this
      simp only [Option.map_eq_some_iff,Prod.mk.injEq] at h1
      obtain ⟨c,hc,rfl,rfl⟩:=h1
      cases h:ρ x<;>rw [h] at this<;>cases this
      rename_i xs hl hr
      have hi:i < xs.length:=by rw [← hl];exact (List.getElem?_eq_some_iff.1 hc).1
      have hxi:xs[i]? = some xs[i]:=List.getElem?_eq_getElem hi
      exact ⟨xs[i],fun w=>run_val (by simp [Instr.extract,hi,h]),hr i _ _ hc hxi⟩
    · cases h1
  case build t parts =>
    simp only [Option.map_eq_some_iff,Prod.mk.injEq] at he
    obtain ⟨v',he,rfl,rfl⟩:=he
    obtain ⟨y,h1,h2⟩:=buildV_ok (K:=K) (w:=w) (vals:=parts.toList.map fun p=>(p.1,ρ p.2)) (by simp) (fun m p q h1 h2=>by
      simp only [List.getElem?_map] at h1 h2
      cases hz:parts.toList[m]? with
      | none=>simp [hz] at h1
      | some z =>
        simp [hz] at h1 h2
        subst h1;subst h2
        have hm:=List.mem_of_getElem? hz
        exact ⟨rfl,hx z.2 (List.mem_map.2 ⟨z,hm,rfl⟩) (allP_mem hq _ (List.mem_map.2 ⟨z,hm,rfl⟩))⟩) he
    refine ⟨y,fun w=>run_val ?_,h2⟩
    have e:(parts.map fun (p:Nat × Operand)=>(p.1,ρ p.2)) = (parts.toList.map fun p=>(p.1,ρ p.2)).toArray:=(map_list _ _).symm
    have e':(parts.map fun (i,x)=>(i,ρ x)) = (parts.toList.map fun p=>(p.1,ρ p.2)).toArray:=e
    rw [e'];exact h1 w

theorem load_any_world {P:Program} {K:KS} {σ:Sto} {w:World} {a:Fr} {ρ:Operand → Value} {o:Oper} {t:TypeId} {x:Operand} {q:Prop} {v:AV} (ho:o.op = .load t x) (hx:OpOk K w a ρ x) (hS:RepS K σ w) (he:aev P σ a (.load t x) = some (q,v)) (hq:q) :
    ∃ b y,(atBlk K (opd a x).2 b ∧ ∀ n,avName (opd a x).2 = some n → (σ n).live K n) ∧ (∀ w':World,w'.heap[b]? = w.heap[b]? → (execOp ρ o).run P w' = .ok (.value y) w') ∧ Rep K w v y:=by
  simp only [aev] at he
  obtain ⟨r,h1,rfl⟩:=with1_some he
  obtain ⟨b,y,hb,h2,h3⟩:=loadV_raw hS (hx hq.1) h1 hq.2
  refine ⟨b,y,hb,fun w' hw'=>?_,h3⟩
  unfold execOp;rw [ho]
  exact run_val (h2 w' hw')
end Go.Proofs.Ytikgiadbkjmabaa
