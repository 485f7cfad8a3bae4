/- The engine,piece EngC. -/
import Derived.Test.YtikgiadbkjmabaaEngB
import Derived.OrdersHeld

/- Regions that draw their order (1): what of their edges is asked,looked at by a program. No program in sight. -/
namespace Go.Proofs.Ytikgiadbkjmabaa
open Go.RowKit
set_option linter.unusedSimpArgs false
set_option linter.unusedVariables false

inductive Anc (ops:List Oper):Nat → Nat → Prop
  | edge {i j:Nat} {o:Oper} {e:Edge}:ops[j]? = some o → e ∈ o.after → Region.binds .any e = true → e.on = i → Anc ops i j
  | more {i m j:Nat} {o:Oper} {e:Edge}:ops[j]? = some o → e ∈ o.after → Region.binds .any e = true → e.on = m → Anc ops i m → Anc ops i j

def depsOf (o:Oper):List Nat:=o.after.toList.filterMap fun e=>bif Region.binds .any e then some e.on else none

def uni (tab:List (List Nat)):List Nat → List Nat → List Nat
  | [],s=>s
  | d :: ds,s=>uni tab ds ((d :: tab.getD d []).foldl (fun s x=>bif s.contains x then s else x :: s) s)

def ancTab:List Oper → List (List Nat) → List (List Nat)
  | [],tab=>tab
  | o :: os,tab=>ancTab os (tab ++ [uni tab (depsOf o) []])

theorem mem_addAll (xs:List Nat):∀ (s:List Nat) (x:Nat),x ∈ xs.foldl (fun s x=>bif s.contains x then s else x :: s) s → x ∈ xs ∨ x ∈ s:=by
  induction xs with
  | nil=>intro s x h;exact .inr h
  | cons y xs ih =>
    intro s x h
    simp only [List.foldl_cons] at h
    rcases ih _ x h with h | h
    · exact .inl (List.mem_cons_of_mem _ h)
    · cases hc:s.contains y
      · rw [hc] at h
        simp only [cond_false,List.mem_cons] at h
        rcases h with rfl | h
        · exact .inl (by simp)
        · exact .inr h
      · rw [hc] at h;exact .inr h

theorem mem_uni (tab:List (List Nat)):∀ (ds s:List Nat) (x:Nat),x ∈ uni tab ds s → x ∈ s ∨ ∃ d ∈ ds,x = d ∨ x ∈ tab.getD d []
  | [],s,x,h=>.inl h
  | d :: ds,s,x,h=>by
    simp only [uni] at h
    rcases mem_uni tab ds _ x h with h | ⟨d',hd,h⟩
    · rcases mem_addAll _ _ x h with h | h
      · rcases List.mem_cons.1 h with rfl | h
        · exact .inr ⟨_,by simp,.inl rfl⟩
        · exact .inr ⟨d,by simp,.inr h⟩
      · exact .inl h
    · exact .inr ⟨d',List.mem_cons_of_mem _ hd,h⟩

theorem mem_depsOf {o:Oper} {d:Nat} (h:d ∈ depsOf o):∃ e ∈ o.after,Region.binds .any e = true ∧ e.on = d:=by
  simp only [depsOf,List.mem_filterMap] at h
  obtain ⟨e,he,h⟩:=h
  cases hb:Region.binds .any e
  · rw [hb] at h;cases h
  · rw [hb] at h;simp at h;exact ⟨e,by simpa using he,hb,h⟩

theorem ancTab_ok {ops:List Oper}:∀ (os:List Oper) (tab:List (List Nat)) (pre:List Oper),ops = pre ++ os → tab.length = pre.length → (∀ j i,i ∈ tab.getD j [] → Anc ops i j) → ∀ j i,i ∈ (ancTab os tab).getD j [] → Anc ops i j
  | [],tab,pre,_,_,h,j,i,hm=>h j i hm
  | o :: os,tab,pre,ho,hl,h,j,i,hm=>by
    refine ancTab_ok os (tab ++ [uni tab (depsOf o) []]) (pre ++ [o]) (by simp [ho]) (by simp [hl]) (fun j i hm=>?_) j i hm
    rw [List.getD_eq_getElem?_getD] at hm
    by_cases h1:j < tab.length
    · rw [List.getElem?_append_left h1,← List.getD_eq_getElem?_getD] at hm
      exact h j i hm
    · rw [List.getElem?_append_right (by omega)] at hm
      by_cases h2:j = tab.length
      · subst h2
        simp only [Nat.sub_self,List.getElem?_cons_zero,Option.getD_some] at hm
        have hoj:ops[tab.length]? = some o:=by rw [ho,hl];simp
        rcases mem_uni tab _ _ _ hm with hm | ⟨d,hd,hm⟩
        · cases hm
        · obtain ⟨e,he,hb,hon⟩:=mem_depsOf hd
          rcases hm with rfl | hm
          · exact .edge hoj he hb hon
          · exact .more hoj he hb hon (h d i hm)
      · have:j - tab.length ≠ 0:=by omega
        obtain ⟨m,hm2⟩:=Nat.exists_eq_succ_of_ne_zero this
        rw [hm2] at hm
        simp at hm

theorem anc_listed {ops:List Oper} {listed:Array Bool} (hs:Shut .any ops.toArray listed) {i j:Nat} (h:Anc ops i j):(∀ o,ops[j]? = some o → ∀ e ∈ o.after,Region.binds .any e = true → listed.getD e.on false = true) → listed.getD i false = true:=by
  induction h with
  | edge h1 h2 h3 h4=>intro hall;rw [← h4];exact hall _ h1 _ h2 h3
  | more h1 h2 h3 h4 h5 ih =>
    intro hall
    refine ih fun o ho e he hb=>hs _ o ?_ (by simpa using ho) e he hb
    rw [← h4];exact hall _ h1 _ h2 h3

/-! ### what is looked at -/

def effK (ee:Nat) (o:Oper):Bool:=match o.op with
  | .store ..=>true
  | .mapUpdate ..=>true
  | .call { callee:=.value _,.. }=>ee == 2 || (ee == 1 && o.type == 0)
  | .call { callee:=.builtin .append,args,.. }=>match args.toList with
    | .const (.slice none 0 0) :: _=>false
    | _=>true
  | _=>false
def plainK (o:Oper):Bool:=plainOp o.op
def freeK (fr:Bool) (o:Oper):Bool:=plainOp o.op || (fr && loadOp o.op)

def tails (ee:Nat):List Oper → List Bool → List Bool
  | [],t=>t
  | o :: os,t=>tails ee os (t ++ [effK ee o || (depsOf o).any fun d=>t.getD d false])

def readsOf (ops:List Oper) (o:Oper):List Nat:=o.looksAt ops.toArray

def chk (tab:List (List Nat)) (i j:Nat):Bool:=(tab.getD j []).contains i

def quietK (o:Oper):Bool:=match comp o.op with
  | some (.move _) | some (.pick ..) | some (.load ..) | some (.faddr ..) | some (.iaddr ..) | some (.idx ..) | some (.un ..) | some (.len ..) | some (.extract ..) | some (.build ..) | some (.nilCheck _) | some (.mget ..)=>true
  | some (.bin op ..)=>match op with
    | .eql | .neq=>false
    | _=>true
  | _=>false
def moveK (o:Oper):Bool:=match o.op with
  | .move _ | .assign _=>true
  | _=>false
def atK (q:Oper → Bool) (ops:Array Oper) (i:Nat):Bool:=match ops[i]? with
  | some o=>q o
  | none=>false
def quietT (ops:Array Oper):Array Bool → List Nat → Bool
  | listed,[]=>(Region.ready .any ops listed).isEmpty
  | listed,i :: rest=>atK quietK ops i && ((Region.ready .any ops listed).contains i && (Region.free .any ops listed i && quietT ops (listed.setIfInBounds i true) rest))
def chainT (ops:Array Oper):Array Bool → List Nat → Bool
  | listed,[]=>(Region.ready .any ops listed).isEmpty
  | listed,i :: rest=>(Region.ready .any ops listed == [i] && chainT ops (listed.setIfInBounds i true) rest) ||
      ((atK quietK ops i && (atK moveK ops i && ((Region.ready .any ops listed).contains i && (Region.free .any ops listed i && chainT ops (listed.setIfInBounds i true) rest)))) || quietT ops listed (i :: rest))
def ordT (ops:Array Oper):Nat → Array Bool → List Nat
  | 0,_=>[]
  | n + 1,listed=>match (Region.ready .any ops listed).find? (fun i=>atK moveK ops i && Region.free .any ops listed i) with
    | some i=>i :: ordT ops n (listed.setIfInBounds i true)
    | none=>match (Region.ready .any ops listed).find? (fun i=>Region.free .any ops listed i) with
      | some i=>i :: ordT ops n (listed.setIfInBounds i true)
      | none=>match Region.ready .any ops listed with
        | []=>[]
        | i :: _=>i :: ordT ops n (listed.setIfInBounds i true)

def drOkT (tl:List Bool) (fr:Bool) (ops:List Oper):Bool :=
  let tab:=ancTab ops []
  let ix:=List.range ops.length
  let hd:=ix.filter fun i=>!tl.getD i false
  let te:=ix.filter fun i=>tl.getD i false
  -- edges lead back;what comes ahead of an operation of the head is in the head
  (ix.all fun i=>match ops[i]? with | some o=>(depsOf o).all fun d=>decide (d < i) && (tl.getD i false || !tl.getD d false) | none=>true) &&
  Region.noSelect ops.toArray &&
  -- each slot is written once,and read behind or ahead of that for sure
  (ix.all fun p=>match ops[p]? with
    | some op=>match op.dst with
      | some t=>decide (t < 100000) && ix.all fun j=>j == p || match ops[j]? with
        | some oj=>oj.dst != some t && (tl.getD j false || !(readsOf ops oj).contains t || (decide (p < j) && chk tab p j) || (decide (j < p) && chk tab j p))
        | none=>true
      | none=>true
    | none=>true) &&
  -- plain operations may be taken first
  (hd.all fun i=>match ops[i]? with
    | some oi=>!freeK fr oi || ix.all fun j=>j == i || chk tab j i || match ops[j]? with
      | some oj=>oj.after.any (fun e=>Region.binds .any e && e.on == i) || oi.apart ops.toArray oj
      | none=>true
    | none=>true) &&
  -- what writes waits for all that is not plain
  (te.all fun e=>hd.all fun i=>chk tab i e || match ops[i]? with | some oi=>freeK fr oi | none=>true) &&
  -- what is loaded late is not led elsewhere later
  (hd.all fun i=>match ops[i]? with
    | some oi=>!(fr && loadOp oi.op) || ix.all fun p=>decide (p < i) || match ops[p]? with
      | some op=>(match op.dst with | some t=>!(readsOf ops oi).contains t | none=>true)
      | none=>true
    | none=>true) &&
  (te.all fun e=>match ops[e]? with | some oe=>!fr || oe.guard.isNone | none=>true) &&
  bif fr then chainB ops.toArray (lst ops.length hd) te else
    decide ((ordT ops.toArray te.length (lst ops.length hd)).length = te.length) && ((ordT ops.toArray te.length (lst ops.length hd)).all (fun i=>decide (i < ops.length)) && chainT ops.toArray (lst ops.length hd) (ordT ops.toArray te.length (lst ops.length hd)))

def isTail (ops:List Oper):List Bool :=
  bif ops.any (fun o=>effK 2 o && !effK 0 o) && drOkT (tails 2 ops []) false ops then tails 2 ops [] else
  bif ops.any (fun o=>effK 1 o && !effK 0 o) && drOkT (tails 1 ops []) false ops then tails 1 ops [] else tails 0 ops []
def drOk (fr:Bool) (ops:List Oper):Bool:=drOkT (isTail ops) fr ops
def hdIx (ops:List Oper):List Nat:=(List.range ops.length).filter fun i=>!(isTail ops).getD i false
def tlIx (ops:List Oper):List Nat:=(List.range ops.length).filter fun i=>(isTail ops).getD i false
def tlOrd (ops:List Oper):List Nat:=ordT ops.toArray (tlIx ops).length (lst ops.length (hdIx ops))
def tlUse (fr:Bool) (ops:List Oper):List Nat:=bif fr then tlIx ops else tlOrd ops

structure DrOk (fr:Bool) (ops:List Oper):Prop where
  back:∀ (i:Nat) (o:Oper) (d:Nat),ops[i]? = some o → d ∈ depsOf o → d < i ∧ ((isTail ops).getD i false = false → (isTail ops).getD d false = false)
  nosel:Region.noSelect ops.toArray = true
  small:∀ (p:Nat) (op:Oper) (t:Nat),ops[p]? = some op → op.dst = some t → t < 100000
  once:∀ (p j:Nat) (op oj:Oper) (t:Nat),ops[p]? = some op → ops[j]? = some oj → j ≠ p → op.dst = some t → oj.dst ≠ some t
  reads:∀ (p j:Nat) (op oj:Oper) (t:Nat),ops[p]? = some op → ops[j]? = some oj → j ≠ p → op.dst = some t → (isTail ops).getD j false = false → t ∈ readsOf ops oj → (p < j ∧ Anc ops p j) ∨ (j < p ∧ Anc ops j p)
  plain:∀ (i j:Nat) (oi oj:Oper),ops[i]? = some oi → ops[j]? = some oj → (isTail ops).getD i false = false → freeK fr oi = true → j ≠ i → Anc ops j i ∨ (∃ e ∈ oj.after,Region.binds .any e = true ∧ e.on = i) ∨ oi.apart ops.toArray oj = true
  waits:∀ (e i:Nat) (oi:Oper),e < ops.length → ops[i]? = some oi → (isTail ops).getD e false = true → (isTail ops).getD i false = false → freeK fr oi = false → Anc ops i e
  frees:∀ (i p:Nat) (oi op:Oper) (t:Nat),fr = true → ops[i]? = some oi → (isTail ops).getD i false = false → loadOp oi.op = true → ops[p]? = some op → i ≤ p → op.dst = some t → t ∉ readsOf ops oi
  bare:∀ (e:Nat) (oe:Oper),fr = true → ops[e]? = some oe → (isTail ops).getD e false = true → oe.guard = none
  chain:fr = true → chainB ops.toArray (lst ops.length (hdIx ops)) (tlIx ops) = true
  chainO:fr = false → (tlOrd ops).length = (tlIx ops).length ∧ (∀ i ∈ tlOrd ops,i < ops.length) ∧ chainT ops.toArray (lst ops.length (hdIx ops)) (tlOrd ops) = true

theorem chk_ok {ops:List Oper} {i j:Nat} (h:chk (ancTab ops []) i j = true):Anc ops i j :=
  ancTab_ok ops [] [] rfl rfl (fun j i hm=>by simp at hm) j i (by simpa [chk] using h)

theorem lt_of_get {ops:List Oper} {i:Nat} {o:Oper} (h:ops[i]? = some o):i < ops.length:=(List.getElem?_eq_some_iff.1 h).1

theorem drOk_spec {fr:Bool} {ops:List Oper} (h:drOk fr ops = true):DrOk fr ops:=by
  simp only [drOk,drOkT,Bool.and_eq_true] at h
  obtain ⟨⟨⟨⟨⟨⟨⟨h1,h2⟩,h3⟩,h4⟩,h5⟩,h7⟩,h8⟩,h6⟩:=h
  have m3:∀ (p:Nat) (op:Oper) (t:Nat),ops[p]? = some op → op.dst = some t → t < 100000 ∧ ∀ (j:Nat) (oj:Oper),ops[j]? = some oj → j ≠ p → (oj.dst ≠ some t) ∧ ((isTail ops).getD j false = false → t ∈ readsOf ops oj → (p < j ∧ Anc ops p j) ∨ (j < p ∧ Anc ops j p)):=fun p op t hp ht=>by
    have:=List.all_eq_true.1 h3 p (List.mem_range.2 (lt_of_get hp))
    rw [hp] at this
    simp only [ht,Bool.and_eq_true,decide_eq_true_eq] at this
    obtain ⟨a1,a2⟩:=this
    refine ⟨a1,fun j oj hj hne=>?_⟩
    have:=List.all_eq_true.1 a2 j (List.mem_range.2 (lt_of_get hj))
    rw [hj] at this
    simp only [Bool.or_eq_true,beq_iff_eq,hne,false_or,Bool.and_eq_true,bne_iff_ne,ne_eq,decide_eq_true_eq,Bool.not_eq_true'] at this
    refine ⟨this.1,fun htl hr=>?_⟩
    rcases this.2 with ((hx | hx) | hx) | hx
    · rw [htl] at hx;cases hx
    · have:(readsOf ops oj).contains t = true:=by simpa using hr
      rw [hx] at this;cases this
    · exact .inl ⟨hx.1,chk_ok hx.2⟩
    · exact .inr ⟨hx.1,chk_ok hx.2⟩
  refine ⟨fun i o d ho hd=>?_,h2,fun p op t hp ht=>(m3 p op t hp ht).1,fun p j op oj t hp hj hne ht=>((m3 p op t hp ht).2 j oj hj hne).1,fun p j op oj t hp hj hne ht=>((m3 p op t hp ht).2 j oj hj hne).2,fun i j oi oj hi hj htl hpl hne=>?_,fun e i oi he hi h7 h8 h9=>?_,fun i p oi op t hfr hi htl hld hp hip hd hm=>?_,fun e oe hfr he htl=>?_,fun hfr=>?_,fun hfr=>?_⟩
  · have:=List.all_eq_true.1 h1 i (List.mem_range.2 (lt_of_get ho))
    rw [ho] at this
    have:=List.all_eq_true.1 this d hd
    simp only [Bool.and_eq_true,decide_eq_true_eq,Bool.or_eq_true,Bool.not_eq_true'] at this
    exact ⟨this.1,fun h0=>this.2.resolve_left (by rw [h0];exact Bool.false_ne_true)⟩
  · have:=List.all_eq_true.1 h4 i (by simp [lt_of_get hi];simpa using htl)
    rw [hi] at this
    simp only [hpl,Bool.not_true,Bool.false_or] at this
    have:=List.all_eq_true.1 this j (List.mem_range.2 (lt_of_get hj))
    rw [hj] at this
    simp only [Bool.or_eq_true,beq_iff_eq,hne,false_or] at this
    rcases this with hx | hx | hx
    · exact .inl (chk_ok hx)
    · obtain ⟨e,he,hb⟩:=Array.any_eq_true'.1 hx
      simp only [Bool.and_eq_true,beq_iff_eq] at hb
      exact .inr (.inl ⟨e,he,hb.1,hb.2⟩)
    · exact .inr (.inr hx)
  · have:=List.all_eq_true.1 h5 e (by simp [he];simpa using h7)
    have:=List.all_eq_true.1 this i (by simp [lt_of_get hi];simpa using h8)
    rw [hi] at this
    simp only [h9,Bool.or_false] at this
    exact chk_ok this
  · have:=List.all_eq_true.1 h7 i (by simp [lt_of_get hi];simpa using htl)
    rw [hi] at this
    simp only [hfr,hld,Bool.and_self,Bool.not_true,Bool.false_or] at this
    have:=List.all_eq_true.1 this p (List.mem_range.2 (lt_of_get hp))
    rw [hp] at this
    have hc:(readsOf ops oi).contains t = true:=by simpa using hm
    simp only [hd,hc,Bool.not_true,Bool.or_false,decide_eq_true_eq] at this
    omega
  · have:=List.all_eq_true.1 h8 e (by simp [lt_of_get he];simpa using htl)
    rw [he] at this
    simpa [hfr] using this
  · rw [hfr] at h6;exact h6
  · rw [hfr] at h6
    simp only [cond_false,Bool.and_eq_true,decide_eq_true_eq] at h6
    exact ⟨h6.1,fun i hi=>by simpa using List.all_eq_true.1 h6.2.1 i hi,h6.2.2⟩
end Go.Proofs.Ytikgiadbkjmabaa

/- Regions that draw their order (2): what is reckoned in the order of the text,by places. No program in sight. -/
namespace Go.Proofs.Ytikgiadbkjmabaa
open Go.RowKit
set_option linter.unusedSimpArgs false
set_option linter.unusedVariables false

structure Ent where
  so:SO
  fr:Fr
  val:AV
  ob:Option AO

section
variable (P:Program) (B:Nat) (C:List Nat) (σ0:Sto) (l0:Loc)

def LocOk (e:Ent):Prop:=match e.so.guard with
  | none=>SDv P B C σ0 l0 e.fr e.so (fun v ob=>v = e.val ∧ ob = e.ob)
  | some (s,b)=>∃ p c v,opd e.fr (.tmp s) = (p,.d (.v (.bool c))) ∧ e.val = .gd (p ∧ c = b) v ∧ e.ob = none ∧ noN B C v ∧ (p ∧ c = b → SDv P B C σ0 l0 e.fr e.so (fun v' ob=>v' = v ∧ ob = none))

inductive Chain:Fr → Loc → List Ent → Fr → Loc → Prop
  | nil {a:Fr} {nw:Loc}:Chain a nw [] a nw
  | cons {a:Fr} {nw:Loc} {e:Ent} {es:List Ent} {aF:Fr} {nwF:Loc}:e.fr = a → LocOk P B C σ0 l0 e → Chain (putO e.so.dst e.val a) (addN B e.so.dst e.ob nw) es aF nwF → Chain a nw (e :: es) aF nwF
end

section
variable {P:Program} {B:Nat} {C:List Nat} {σ0:Sto} {l0:Loc}

theorem SDv_split {a:Fr} {o:SO} {k:AV → Option AO → Prop} (h:SDv P B C σ0 l0 a o k):∃ v ob,k v ob ∧ SDv P B C σ0 l0 a o (fun v' ob'=>v' = v ∧ ob' = ob):=by
  unfold SDv at h ⊢
  split at h
  · exact ⟨_,_,h.2.2,h.1,h.2.1,rfl,rfl⟩
  · split at h
    · split at h
      · exact ⟨_,_,h,rfl,rfl⟩
      · exact h.elim
    · split at h
      · exact ⟨_,_,h.2.2,h.1,h.2.1,rfl,rfl⟩
      · exact h.elim
    · split at h
      · exact ⟨_,_,h.2,h.1,rfl,rfl⟩
      · exact h.elim
    · split at h
      · split at h
        · obtain ⟨h1,h2,h3,h4,h5,h6,h7,h8,h9⟩:=h
          exact ⟨_,_,h9,h1,h2,h3,h4,h5,h6,h7,h8,rfl,rfl⟩
        · exact h.elim
      · exact h.elim
    · obtain ⟨v,h1,h2,h3,h4,h5,h6⟩:=h
      exact ⟨_,_,h6,v,h1,h2,h3,h4,h5,rfl,rfl⟩
    · obtain ⟨v,h1,h2,h3,h4,h5,h6⟩:=h
      exact ⟨_,_,h6,v,h1,h2,h3,h4,h5,rfl,rfl⟩
    · exact h.elim

theorem SWD_chain:∀ {ss:List SO} {k:Fr → Loc → Prop} {a:Fr} {nw:Loc},SWD P B C σ0 l0 ss k a nw → ∃ es aF nwF,es.map (·.so) = ss ∧ Chain P B C σ0 l0 a nw es aF nwF ∧ k aF nwF
  | [],k,a,nw,h=>⟨[],a,nw,rfl,.nil,h⟩
  | o :: os,k,a,nw,h=>by
    unfold SWD at h
    split at h
    · rename_i hg
      obtain ⟨v,ob,h1,h2⟩:=SDv_split h
      obtain ⟨es,aF,nwF,g1,g2,g3⟩:=SWD_chain h1
      exact ⟨⟨o,a,v,ob⟩ :: es,aF,nwF,by simp [g1],.cons rfl (by unfold LocOk;rw [show (Ent.mk o a v ob).so.guard = none from hg];exact h2) g2,g3⟩
    · rename_i s b hg
      split at h
      · rename_i p c hv
        by_cases hcb:c = b
        case neg =>
          rw [if_neg hcb] at h
          obtain ⟨es,aF,nwF,g1,g2,g3⟩:=SWD_chain h
          exact ⟨⟨o,a,.gd (p ∧ c = b) (.d (.v (.bool false))),none⟩ :: es,aF,nwF,by simp [g1],.cons rfl (by unfold LocOk;rw [show (Ent.mk o a (.gd (p ∧ c = b) (.d (.v (.bool false)))) none).so.guard = some (s,b) from hg];exact ⟨p,c,.d (.v (.bool false)),hv,rfl,rfl,rfl,fun hG=>absurd hG.2 hcb⟩) (by simpa [addN] using g2),g3⟩
        rw [if_pos hcb] at h
        split at h
        · rename_i q v he
          obtain ⟨h1,h2,h3⟩:=h
          obtain ⟨es,aF,nwF,g1,g2,g3⟩:=SWD_chain h3
          exact ⟨⟨o,a,.gd (p ∧ c = b) v,none⟩ :: es,aF,nwF,by simp [g1],.cons rfl (by unfold LocOk;rw [show (Ent.mk o a (.gd (p ∧ c = b) v) none).so.guard = some (s,b) from hg];exact ⟨p,c,v,hv,rfl,rfl,h2,fun hG=>by unfold SDv;rw [he];exact ⟨h1 hG,h2,rfl,rfl⟩⟩) (by simpa [addN] using g2),g3⟩
        · obtain ⟨v,h1,h2,h3⟩:=h
          obtain ⟨es,aF,nwF,g1,g2,g3⟩:=SWD_chain h3
          exact ⟨⟨o,a,.gd (p ∧ c = b) v,none⟩ :: es,aF,nwF,by simp [g1],.cons rfl (by unfold LocOk;rw [show (Ent.mk o a (.gd (p ∧ c = b) v) none).so.guard = some (s,b) from hg];exact ⟨p,c,v,hv,rfl,rfl,h2,h1⟩) (by simpa [addN] using g2),g3⟩
      · exact h.elim

theorem putO_get (d:Option Nat) (v:AV) (a:Fr) (t:Nat):Fr.get (putO d v a) t = if d = some t then v else Fr.get a t:=by
  cases d with
  | none=>simp [putO]
  | some s=>simp [putO,Fr.get]

def look2 (Z:List (Nat × Ent)) (i:Nat):Option Ent:=match Z with
  | []=>none
  | (j,e) :: Z=>if i = j then some e else look2 Z i

theorem look2_mem {Z:List (Nat × Ent)} {i:Nat} {e:Ent} (h:look2 Z i = some e):(i,e) ∈ Z:=by
  induction Z with
  | nil=>cases h
  | cons z Z ih =>
    obtain ⟨j,e'⟩:=z
    simp only [look2] at h
    split at h
    · rename_i hi;subst hi;cases h;simp
    · exact List.mem_cons_of_mem _ (ih h)

def Good (Z:List (Nat × Ent)):Prop:=Z.Pairwise fun x y=>x.1 < y.1 ∧ (∀ t,x.2.so.dst = some t → y.2.so.dst ≠ some t)

structure Facts (a0:Fr) (Z:List (Nat × Ent)) (aF:Fr):Prop where
  wr:∀ i e t p ep,look2 Z i = some e → look2 Z p = some ep → ep.so.dst = some t → p < i → e.fr.get t = ep.val
  no:∀ i e t,look2 Z i = some e → (∀ p ep,look2 Z p = some ep → ep.so.dst = some t → ¬ p < i) → e.fr.get t = a0.get t
  fw:∀ t p ep,look2 Z p = some ep → ep.so.dst = some t → aF.get t = ep.val
  fn:∀ t,(∀ p ep,look2 Z p = some ep → ep.so.dst ≠ some t) → aF.get t = a0.get t
  loc:∀ i e,look2 Z i = some e → LocOk P B C σ0 l0 e

theorem chain_facts:∀ {es:List Ent} {hd:List Nat} {a:Fr} {nw:Loc} {aF:Fr} {nwF:Loc},Chain P B C σ0 l0 a nw es aF nwF → hd.length = es.length → Good (hd.zip es) → Facts (P:=P) (B:=B) (C:=C) (σ0:=σ0) (l0:=l0) a (hd.zip es) aF
  | [],[],a,nw,aF,nwF,h,_,_=>by
    cases h
    refine ⟨fun i e t p ep h=>?_,fun i e t h=>?_,fun t p ep h=>?_,fun t _=>rfl,fun i e h=>?_⟩<;>simp [look2] at h
  | [],_ :: _,_,_,_,_,_,hl,_=>by simp at hl
  | _ :: _,[],_,_,_,_,_,hl,_=>by simp at hl
  | e :: es,j :: hd,a,nw,aF,nwF,h,hl,hg=>by
    cases h with
    | cons hfr hloc hch =>
    simp only [List.zip_cons_cons,Good,List.pairwise_cons] at hg ⊢
    obtain ⟨hg1,hg2⟩:=hg
    have ih:=chain_facts hch (by simpa using hl) hg2
    have lt:∀ p ep,look2 (hd.zip es) p = some ep → j < p ∧ ∀ t,e.so.dst = some t → ep.so.dst ≠ some t:=fun p ep hp=>hg1 _ (look2_mem hp)
    have lk:∀ i,look2 ((j,e) :: hd.zip es) i = if i = j then some e else look2 (hd.zip es) i:=fun i=>rfl
    refine ⟨fun i ei t p ep hi hp ht hlt=>?_,fun i ei t hi hno=>?_,fun t p ep hp ht=>?_,fun t hno=>?_,fun i ei hi=>?_⟩
    · rw [lk] at hi hp
      split at hi
      · rename_i hij;subst hij
        split at hp
        · omega
        · have:=(lt p ep hp).1;omega
      · split at hp
        · rename_i hpj;subst hpj;cases hp
          rw [ih.no i ei t hi (fun p' ep' hp' ht'=>absurd ht' ((lt p' ep' hp').2 t ht)),putO_get,if_pos ht]
        · exact ih.wr i ei t p ep hi hp ht hlt
    · rw [lk] at hi
      split at hi
      · cases hi;rw [hfr]
      · rename_i hij
        have hji:=(lt i ei hi).1
        rw [ih.no i ei t hi (fun p' ep' hp' ht'=>hno p' ep' (by rw [lk,if_neg (by have:=(lt p' ep' hp').1;omega)];exact hp') ht'),putO_get,if_neg (fun ht=>hno j e (by rw [lk,if_pos rfl]) ht hji)]
    · rw [lk] at hp
      split at hp
      · rename_i hpj;subst hpj;cases hp
        rw [ih.fn t (fun p' ep' hp'=>(lt p' ep' hp').2 t ht),putO_get,if_pos ht]
      · exact ih.fw t p ep hp ht
    · rw [ih.fn t (fun p' ep' hp'=>hno p' ep' (by rw [lk,if_neg (by have:=(lt p' ep' hp').1;omega)];exact hp')),putO_get,if_neg (fun ht=>hno j e (by rw [lk,if_pos rfl]) ht)]
    · rw [lk] at hi
      split at hi
      · cases hi;exact hloc
      · exact ih.loc i ei hi

theorem chain_objs (r:Sto) (l1:Loc):∀ {es:List Ent} {hd:List Nat} {a:Fr} {nw:Loc} {aF:Fr} {nwF:Loc},Chain P B C σ0 l0 a nw es aF nwF → hd.length = es.length → Good (hd.zip es) →
    (∀ p ep s o,look2 (hd.zip es) p = some ep → ep.so.dst = some s → ep.ob = some o → sto (nwF ++ l1) r (B + s) = o) ∧ (∀ n,(∀ p ep s o,look2 (hd.zip es) p = some ep → ep.so.dst = some s → ep.ob = some o → n ≠ B + s) → sto (nwF ++ l1) r n = sto (nw ++ l1) r n)
  | [],[],a,nw,aF,nwF,h,_,_=>by
    cases h
    refine ⟨fun p ep s o h=>?_,fun n _=>rfl⟩
    simp [look2] at h
  | [],_ :: _,_,_,_,_,_,hl,_=>by simp at hl
  | _ :: _,[],_,_,_,_,_,hl,_=>by simp at hl
  | e :: es,j :: hd,a,nw,aF,nwF,h,hl,hg=>by
    cases h with
    | cons hfr hloc hch =>
    simp only [List.zip_cons_cons,Good,List.pairwise_cons] at hg ⊢
    obtain ⟨hg1,hg2⟩:=hg
    obtain ⟨ih1,ih2⟩:=chain_objs r l1 hch (by simpa using hl) hg2
    have lt:∀ p ep,look2 (hd.zip es) p = some ep → j < p ∧ ∀ t,e.so.dst = some t → ep.so.dst ≠ some t:=fun p ep hp=>hg1 _ (look2_mem hp)
    have lk:∀ i,look2 ((j,e) :: hd.zip es) i = if i = j then some e else look2 (hd.zip es) i:=fun i=>rfl
    refine ⟨fun p ep s o hp ht hob=>?_,fun n hno=>?_⟩
    · rw [lk] at hp
      split at hp
      · cases hp
        rw [ih2 (B + s) (fun p' ep' s' o' hp' ht' _ hne=>(lt p' ep' hp').2 s ht (by rw [ht'];congr 1;omega))]
        simp [addN,ht,hob,sto_cons]
      · exact ih1 p ep s o hp ht hob
    · rw [ih2 n (fun p' ep' s' o' hp' ht' ho'=>hno p' ep' s' o' (by rw [lk,if_neg (by have:=(lt p' ep' hp').1;omega)];exact hp') ht' ho')]
      unfold addN
      split
      · rename_i s o ht hob
        simp only [List.cons_append,sto_cons]
        rw [if_neg (hno j e s o (by rw [lk,if_pos rfl]) ht hob)]
      · rfl
end
end Go.Proofs.Ytikgiadbkjmabaa

/- Regions that draw their order (3): one operation,whenever it comes up. No program in sight. -/
namespace Go.Proofs.Ytikgiadbkjmabaa
open Go.RowKit
set_option linter.unusedSimpArgs false
set_option linter.unusedVariables false

theorem RepS.sub {K:KS} {σ σ0:Sto} {w:World} (h:RepS K σ w) (hs:∀ n,σ0 n = σ n ∨ σ0 n = .dead):RepS K σ0 w:=by
  have live:∀ n,(σ0 n).live K n → (σ n).live K n:=fun n hl=>by
    rcases hs n with e | e
    · rw [e] at hl;exact hl
    · rw [e] at hl;exact hl.elim
  refine ⟨h.gl,h.inI,fun n=>?_,fun i j hi hj e=>h.inj i j (live i hi) (live j hj) e⟩
  rcases hs n with e | e
  · rw [e];exact h.obj n
  · rw [e];trivial

def made (B:Nat) (d:Option Nat) (ob:Option AO) (σ:Sto):Sto:=match d,ob with
  | some s,some o=>fun n=>if n = B + s then o else σ n
  | _,_=>σ

section
variable {P:Program} {N B:Nat} {T0:List Nat} {C:List Nat} {r:Sto} {S:KS → Prop} {f:Nat → AV} {σ σ0:Sto} {l0:Loc} {act:Act} {u:World} {o:Oper} {s:SO} {fr:Fr} {v:AV} {ob:Option AO} {Q:Exit → Act → World → Prop}

def StepOut (P:Program) (B:Nat) (T0 C:List Nat) (S:KS → Prop) (σ:Sto) (act:Act) (u:World) (o:Oper) (s:SO) (v:AV) (ob:Option AO):Act → World → Prop:=fun act' u' =>
  ∃ y,act' = act.put o.dst y ∧ ∀ K,S K → ∃ K',Ext B T0 K σ u K' (made B s.dst ob σ) u' ∧ RepS K' (made B s.dst ob σ) u' ∧ Rep K' u' v y ∧
    ∀ v' x,v'.allN (fun m=>decide (m < B + 100000) && !(ob.isSome && decide (s.dst.map (B + ·) = some m))) = true → Rep K u v' x → Rep K' u' v' x

theorem keepRep {K K':KS} {u':World} (hI:∀ b,K.I b → K'.I b) (hk:Keep K.I u u') (hs:∀ n,n < B + 100000 → (ob.isSome && decide (s.dst.map (B + ·) = some n)) = false → K.same K' n) :
    ∀ v' x,v'.allN (fun m=>decide (m < B + 100000) && !(ob.isSome && decide (s.dst.map (B + ·) = some m))) = true → Rep K u v' x → Rep K' u' v' x:=fun v' x hq h =>
  h.upQ hI hk (fun n hn=>by
    simp only [Bool.and_eq_true,decide_eq_true_eq,Bool.not_eq_true'] at hn
    exact hs n hn.1 hn.2) hq

theorem box_step (hS:∃ K,S K) (hrs:∀ K,S K → RepS K σ u) {d:Nat} (hd:s.dst = some d) (hod:o.dst = some d) {cs:List AV} {xs:List Value} {T:TypeId} (hC:∀ K,S K → RepC K u cs xs)
    (hno:∀ m,(σ m).kill (B + d) = σ m) (hcs:cs.map (AV.kill (B + d)) = cs) :
    StepOut P B T0 C S σ act u o s (.lp (B + d) 0) (some (.box cs)) (act.put o.dst (.pointer (some ⟨u.heap.size,0,none⟩))) (u.alloc (.cells xs.toArray T)):=by
  have hg:Grow u (u.alloc (.cells xs.toArray T)):=(Grow.refl u).alloc _
  refine ⟨_,rfl,fun K hK=>?_⟩
  have hkp:Keep K.I u (u.alloc (.cells xs.toArray T)):=Keep.of_grow hg (hrs K hK).inI
  have hsame:∀ m,m ≠ B + d → K.same (K.new (B + d) u.heap.size 0) m:=fun m hm=>KS.new_same K (B + d) u.heap.size 0 m hm
  have hσ:∀ m,made B s.dst (some (.box cs)) σ m = if m = B + d then .box cs else (σ m).kill (B + d):=fun m=>by
    simp only [made,hd,hno m]
  have hS':RepS (K.new (B + d) u.heap.size 0) (made B s.dst (some (.box cs)) σ) (u.alloc (.cells xs.toArray T)):=by
    refine (hrs K hK).newBlock (c:=0) (o:=.box cs) hg ⟨fun hi=>?_,xs,T,?_,(hC K hK).1,fun i c x hc hx=>?_,(hC K hK).2.2⟩ hσ
    · have:=(hrs K hK).inI _ hi
      simp only [KS.new,if_true] at this;omega
    · simp only [KS.new,if_true];exact alloc_at _ _
    · have hc':(cs.map (AV.kill (B + d)))[i]? = some c:=by rw [hcs];exact hc
      simp only [List.getElem?_map,hc,Option.map_some,Option.some.injEq] at hc'
      rw [← hc']
      exact Rep.kill (K:=K) (K':=K.new (B + d) u.heap.size 0) (n:=B + d) (fun _ h=>h) hkp hsame ((hC K hK).2.1 i c x hc hx)
  refine ⟨K.new (B + d) u.heap.size 0,⟨fun m hm _=>hsame m (by omega),fun _ h=>h,hkp,fun b hb=>?_⟩,hS',?_,keepRep (fun _ h=>h) hkp fun n _ hn=>hsame n (by
      simp only [Option.isSome_some,Bool.true_and,hd,Option.map_some,decide_eq_false_iff_not,Option.some.injEq] at hn
      exact fun e=>hn e.symm)⟩
  · rcases hb with hb | ⟨n,hl,rfl⟩
    · exact .inl hb
    · by_cases hn:n = B + d
      · subst hn;simp [KS.new]
      · rw [hσ,if_neg hn,AO.kill_live,live_same (hsame n hn)] at hl
        exact .inr (.inr ⟨n,hl,(hsame n hn).1.symm⟩)
  · have:Rep (K.new (B + d) u.heap.size 0) (u.alloc (.cells xs.toArray T)) (.lp (B + d) 0) (.pointer (some ⟨(K.new (B + d) u.heap.size 0).blk (B + d),0,none⟩)):=.lp
    simpa [KS.new] using this

theorem same_step {y:Value} {u':World} {J:KS → Nat → Prop} (hob:ob = none) (hrs:∀ K,S K → RepS K σ u) (hg:Grow u u') (hJ:∀ K b,J K b → u.heap.size ≤ b ∧ b < u'.heap.size) (hv:∀ K,S K → Rep { K with I:=fun b=>K.I b ∨ J K b } u' v y) :
    StepOut P B T0 C S σ act u o s v ob (act.put o.dst y) u':=by
  subst hob
  have hm:made B s.dst none σ = σ:=by unfold made;split<;>simp_all
  refine ⟨y,rfl,fun K hK=>?_⟩
  rw [hm]
  have hkp:=Keep.of_grow hg (hrs K hK).inI
  have hsame:∀ m,K.same { K with I:=fun b=>K.I b ∨ J K b } m:=fun m=>⟨rfl,rfl,rfl,rfl⟩
  refine ⟨{ K with I:=fun b=>K.I b ∨ J K b },⟨fun m _ _=>hsame m,fun b hb=>.inl hb,hkp,fun b hb=>?_⟩,(hrs K hK).more hg (hJ K),hv K hK,keepRep (fun b hb=>.inl hb) hkp fun n _ _=>hsame n⟩
  rcases hb with (hb | hb) | ⟨m,h1,h2⟩
  · exact .inl hb
  · exact .inr (.inl (hJ K b hb).1)
  · exact .inr (.inr ⟨m,(live_same (hsame m)).1 h1,h2⟩)

theorem call_step (hS:∃ K,S K) (hrs:∀ K,S K → RepS K σ u) (hsub:∀ n,σ0 n = σ n ∨ σ0 n = .dead) (hcl0:ClosedS (B + 100000) σ0) (hlow:∀ n,(σ n).allN (fun m=>decide (m < B + 100000)) = true ∧ (B + 100000 ≤ n → σ n = .dead))
    {fn:FuncId} {avs:List AV} {xs:List Value} (hrun:(execOp act.eval o).run P u = .ok (.enter fn xs.toArray) u) (hlen:avs.length = xs.length) (hreps:∀ K,S K → ∀ (i:Nat) (c:AV) (x:Value),avs[i]? = some c → xs[i]? = some x → Rep K u c x)
    (hA:ACalls P fn avs σ0 (B + 100000) [] (fun v' σ'=>v' = v ∧ σ' = σ0)) (hob:ob = none) :
    o.wp P act u (StepOut P B T0 C S σ act u o s v ob) Q:=by
  subst hob
  have hm:made B s.dst none σ = σ:=by unfold made;split<;>simp_all
  unfold Oper.wp
  rw [hrun]
  simp only [Oper.upon]
  have hpre:∀ K,S K → Pre avs σ0 (B + 100000) xs u K:=fun K hK=>⟨(hrs K hK).sub hsub,hcl0,hlen,hreps K hK⟩
  obtain ⟨K0,hK0⟩:=hS
  refine (hA xs u ⟨K0,hpre K0 hK0⟩).mono fun e u' ⟨x,v',σ',he,⟨hv',hσ'⟩,hall⟩=>?_
  subst he;subst hv';have hσ2:=hσ'.symm;subst hσ2
  refine ⟨x,rfl,fun K hK=>?_⟩
  rw [hm]
  obtain ⟨K',hE,hS',hv⟩:=hall K (hpre K hK)
  -- the same call,the other objects held apart
  let J:Nat → Prop:=fun b=>∃ n,(σ n).live K n ∧ σ0 n = .dead ∧ K.blk n = b
  have hJ0:RepS { K with I:=fun b=>K.I b ∨ J b } σ0 u:=by
    have h0:=(hrs K hK).sub hsub
    have l0:∀ n,(σ0 n).live K n → (σ n).live K n:=fun n hl=>by
      rcases hsub n with e | e
      · rw [e] at hl;exact hl
      · rw [e] at hl;exact hl.elim
    refine ⟨h0.gl.up (fun b hb=>.inl hb) (Keep.refl _ _),fun b hb=>?_,fun n=>?_,fun i j hi hj e=>h0.inj i j ((live_same (K:=K) (K':={ K with I:=fun b=>K.I b ∨ J b }) (n:=i) ⟨rfl,rfl,rfl,rfl⟩).1 hi) ((live_same (K:=K) (K':={ K with I:=fun b=>K.I b ∨ J b }) (n:=j) ⟨rfl,rfl,rfl,rfl⟩).1 hj) e⟩
    · rcases hb with hb | ⟨n,h1,_,rfl⟩
      · exact h0.inI b hb
      · exact (((hrs K hK).obj n).lt h1).1
    · by_cases hl:(σ0 n).live K n
      · refine (h0.obj n).up (q:=fun _=>true) (K':={ K with I:=fun b=>K.I b ∨ J b }) (fun b hb=>.inl hb) (Keep.refl _ _) (fun _ _=>⟨rfl,rfl,rfl,rfl⟩) ⟨rfl,rfl,rfl,rfl⟩ (fun hn hi=>hi.elim hn fun ⟨m,h1,h2,h3⟩=>?_) (fun _=>rfl) (AO.allN_true _)
        have:=(hrs K hK).inj m n h1 (l0 n hl) h3
        subst this
        rw [h2] at hl;exact hl
      · have hO:=h0.obj n
        cases hσ:σ0 n with
        | dead=>trivial
        | box cs=>rw [hσ] at hl;exact absurd trivial hl
        | mp _ _=>rw [hσ] at hl;exact absurd trivial hl
        | arh _ _ _ _ _=>rw [hσ] at hl;exact absurd trivial hl
        | arr k E rows =>
          rw [hσ] at hl hO
          obtain ⟨h0,h1 | ⟨h1,_⟩⟩:=hO
          · exact ⟨h0,.inl h1⟩
          · exact absurd h1 hl
  obtain ⟨K2,hE2,_,_⟩:=hall { K with I:=fun b=>K.I b ∨ J b } ⟨hJ0,hcl0,hlen,fun i c x h1 h2=>(hreps K hK i c x h1 h2).up (K':={ K with I:=fun b=>K.I b ∨ J b }) (fun b hb=>.inl hb) (Keep.refl _ _) (fun _=>⟨rfl,rfl,rfl,rfl⟩)⟩
  have same:∀ n,n < B + 100000 → K.same K' n:=fun n hn=>hE.same n hn (by simp)
  have lowlive:∀ n,(σ n).live K n ∨ (σ n).live K' n → n < B + 100000:=fun n hl=>by
    rcases Nat.lt_or_ge n (B + 100000) with h | h
    · exact h
    · rw [(hlow n).2 h] at hl;exact hl.elim (fun h=>h.elim) (fun h=>h.elim)
  have livesame:∀ n,(σ n).live K' n ↔ (σ n).live K n:=fun n=>by
    constructor<;>intro hl
    · exact (live_same (same n (lowlive n (.inr hl)))).1 hl
    · exact (live_same (same n (lowlive n (.inl hl)))).2 hl
  refine ⟨K',⟨fun n hn _=>same n (by omega),hE.sub,hE.keep,fun b hb=>?_⟩,⟨hS'.gl,hS'.inI,fun n=>?_,fun i j hi hj e=>?_⟩,hv,keepRep hE.sub hE.keep fun n hn _=>same n hn⟩
  · rcases hb with hb | ⟨n,hl,rfl⟩
    · rcases hE.orig b (.inl hb) with h | h | ⟨n,h1,h2⟩
      · exact .inl h
      · exact .inr (.inl h)
      · refine .inr (.inr ⟨n,?_,h2⟩)
        rcases hsub n with e | e
        · rw [e] at h1;exact h1
        · rw [e] at h1;exact h1.elim
    · exact .inr (.inr ⟨n,(livesame n).1 hl,(same n (lowlive n (.inr hl))).1.symm⟩)
  · rcases hsub n with e | e
    · rw [← e];exact hS'.obj n
    · by_cases hl:(σ n).live K n
      · have hlt:=((hrs K hK).obj n).lt hl
        have hsm:=same n (lowlive n (.inl hl))
        refine ((hrs K hK).obj n).up (q:=fun m=>decide (m < B + 100000)) hE.sub hE.keep (fun m hm=>same m (by simpa using hm)) hsm (fun hn hi=>?_) (fun _=>hE2.keep.block _ (.inr ⟨n,hl,e,rfl⟩)) (hlow n).1
        rw [hsm.1] at hi
        rcases hE.orig _ (.inl hi) with h | h | ⟨m,h1,h2⟩
        · exact hn h
        · omega
        · have hm:(σ m).live K m:=by
            rcases hsub m with e' | e'
            · rw [e'] at h1;exact h1
            · rw [e'] at h1;exact h1.elim
          have:=(hrs K hK).inj m n hm hl h2
          subst this
          rw [e] at h1;exact h1
      · have hO:=(hrs K hK).obj n
        cases hσ:σ n with
        | dead=>trivial
        | box cs=>rw [hσ] at hl;exact absurd trivial hl
        | mp _ _=>rw [hσ] at hl;exact absurd trivial hl
        | arh _ _ _ _ _=>rw [hσ] at hl;exact absurd trivial hl
        | arr k E rows =>
          rw [hσ] at hl hO
          have hlt:n < B + 100000:=by
            rcases Nat.lt_or_ge n (B + 100000) with h | h
            · exact h
            · have:=(hlow n).2 h;rw [hσ] at this;cases this
          obtain ⟨h0,⟨h1,h1'⟩ | ⟨h1,_⟩⟩:=hO
          · exact ⟨h0,.inl ⟨by rw [(same n hlt).2.2.1];exact h1,h1'⟩⟩
          · exact absurd h1 hl
  · have h1:=(livesame i).1 hi
    have h2:=(livesame j).1 hj
    exact (hrs K hK).inj i j h1 h2 (by rw [← (same i (lowlive i (.inl h1))).1,← (same j (lowlive j (.inl h2))).1];exact e)
end
end Go.Proofs.Ytikgiadbkjmabaa

/- Regions that draw their order (4): one operation with what is said of it. No program in sight. -/
namespace Go.Proofs.Ytikgiadbkjmabaa
open Go.RowKit
set_option linter.unusedSimpArgs false
set_option linter.unusedVariables false

theorem opnds_sub {op:Op} {s:SOp} (h:comp op = some s):∀ x ∈ s.opnds,x ∈ op.operands.toList:=by
  intro y hy
  cases op
  case slice t x lo hi mx =>
    simp only [comp] at h
    split at h<;>cases h<;>simp [SOp.opnds,Op.operands] at hy ⊢
    · rcases hy with rfl | hy | hy<;>simp_all
    · exact .inl hy
    · rcases hy with h | h | h | h
      · exact .inl h
      · exact .inr (.inr (.inl h))
      · exact .inr (.inr (.inr h))
      · exact .inr (.inl h)
  case call c =>
    obtain ⟨cal,⟨args⟩,⟨ats⟩⟩:=c
    simp only [comp] at h
    split at h<;>cases h<;>simp [SOp.opnds,Op.operands,Call.operands] at hy ⊢<;>(try simp_all)
  case makeMap t rs =>
    simp only [comp] at h
    split at h<;>cases h<;>simp [SOp.opnds] at hy
  case lookup t x k ok =>
    simp only [comp] at h
    split at h<;>cases h<;>simp [SOp.opnds,Op.operands] at hy ⊢<;>(try simp_all)
  all_goals (simp only [comp,Option.some.injEq] at h)
  all_goals (try (cases h;done))
  all_goals (subst h;first | (simp [SOp.opnds,Op.operands] at hy;done) | (simpa [SOp.opnds,Op.operands] using hy) | (simp [SOp.opnds] at hy))

theorem call_run {P:Program} {o:Oper} {f:FuncId} {c:Call} {act:Act} {w:World} (ho:o.op = .call c) (hc:c.callee = .value (.func f)) (hent:enters P f = true) :
    (execOp act.eval o).run P w = .ok (.enter f (c.args.toList.map act.eval).toArray) w:=by
  have e:(c.args.toList.map act.eval).toArray = c.args.map act.eval:=map_list _ _
  obtain ⟨cal,args,ats⟩:=c
  simp only at hc e
  subst hc
  unfold execOp;rw [ho]
  simp only [resolve,Act.eval,Deferred.ofValue,pure_bind,invoke]
  rw [e]
  have:=enters_run (P:=P) hent (args.map act.eval) w
  simpa using this

theorem callv_run {P:Program} {o:Oper} {x:Operand} {f:FuncId} {fs cs:List Value} {c:Call} {act:Act} {w:World} (ho:o.op = .call c) (hc:c.callee = .value x) (hent:enters P f = true) (hxe:act.eval x = .func (.func f) (List.toArray fs) (List.toArray cs)) :
    (execOp act.eval o).run P w = .ok (.enter f (fs ++ c.args.toList.map act.eval ++ cs).toArray) w:=by
  obtain ⟨cal,args,ats⟩:=c
  simp only at hc
  subst hc
  unfold execOp;rw [ho]
  simp only [resolve,hxe,Deferred.ofValue,pure_bind,invoke]
  have e1:(args.toList.map act.eval).toArray = args.map act.eval:=map_list _ _
  have:=enters_run (P:=P) hent (fs ++ args.toList.map act.eval ++ cs).toArray w
  rw [← this]
  congr 2
  apply Array.toList_inj.1
  simp

def isMk:SOp → Bool
  | .alloc _ | .box _ _=>true
  | _=>false

section
variable {P:Program} {N B:Nat} {T0:List Nat} {C:List Nat} {S:KS → Prop} {σ σ0:Sto} {l0:Loc} {act:Act} {u:World} {o:Oper} {s:SO} {fr:Fr} {v:AV} {ob:Option AO} {Q:Exit → Act → World → Prop} {ops:List Oper}

theorem valF (hS:∃ K,S K) (hrs:∀ K,S K → RepS K σ0 u) {so:SOp} {q:Prop} (hop:∀ K,S K → ∀ x ∈ so.opnds,OpOk K u fr act.eval x) (hc:comp o.op = some so) (he:aev P σ0 fr so = some (q,v)) (hq:q) :
    ∃ y,(execOp act.eval o).run P u = .ok (.value y) u ∧ ∀ K,S K → Rep K u v y:=by
  obtain ⟨K0,hK0⟩:=hS
  obtain ⟨y,h1,h2⟩:=aev_ok hc (hop K0 hK0) (hrs K0 hK0) (fun _=>rfl) he hq
  refine ⟨y,h1,fun K hK=>?_⟩
  obtain ⟨y',g1,g2⟩:=aev_ok hc (hop K hK) (hrs K hK) (fun _=>rfl) he hq
  rw [h1] at g1
  cases g1
  exact g2

theorem dv_step (hs:SoOk N ops o s) (hS:∃ K,S K) (hrs:∀ K,S K → RepS K σ u) (hop:∀ K,S K → ∀ x ∈ s.op.opnds,OpOk K u fr act.eval x) (hsub:∀ n,σ0 n = σ n ∨ σ0 n = .dead) (hcl0:ClosedS (B + 100000) σ0)
    (hlow:∀ n,(σ n).allN (fun m=>decide (m < B + 100000)) = true ∧ (B + 100000 ≤ n → σ n = .dead)) (hno:∀ n,C.contains n = true → ∀ m,(σ m).kill n = σ m) (hmem:∀ d,s.dst = some d → isMk s.op = true → C.contains (B + d) = true)
    (h:SDv P B C σ0 l0 fr s (fun v' ob'=>v' = v ∧ ob' = ob)):o.wp P act u (StepOut P B T0 C S σ act u o s v ob) Q:=by
  have hrs0:∀ K,S K → RepS K σ0 u:=fun K hK=>(hrs K hK).sub hsub
  unfold SDv at h
  split at h
  · rename_i q v' he
    obtain ⟨hq,hn,rfl,rfl⟩:=h
    obtain ⟨y,h1,h2⟩:=valF hS hrs0 hop hs.op he hq
    refine wp_of_value h1 (same_step (J:=fun _ _=>False) rfl hrs (Grow.refl u) (fun _ _ hf=>hf.elim) fun K hK=>?_)
    exact (h2 K hK).up (K':={ K with I:=fun b=>K.I b ∨ False }) (fun b hb=>.inl hb) (Keep.refl _ _) (fun _=>⟨rfl,rfl,rfl,rfl⟩)
  · rename_i hae
    split at h
    · rename_i t hsop
      split at h
      · rename_i d z hdst hz
        obtain ⟨rfl,rfl⟩:=h
        have ho:o.op = .alloc t:=by
          have:=hs.op
          rw [hsop] at this
          cases ho:o.op<;>rw [ho] at this<;>simp only [comp,Option.some.injEq] at this<;>(try (cases this;try rfl))
          all_goals (split at this<;>cases this)
        obtain ⟨⟨v,hv,hvz⟩,h1⟩:=tzero_ok hz
        refine wp_of_value (y:=.pointer (some ⟨u.heap.size,0,none⟩)) (w':=u.alloc (.cells z.toArray t)) ?_ ?_
        · unfold execOp;rw [ho]
          exact run_val (by simp [Instr.alloc,hv,newVar,newRow,hvz])
        · refine box_step hS hrs hdst (hs.dst.trans hdst) (fun K hK=>repC_zero h1) (hno _ (hmem d hdst (by rw [hsop];rfl))) ?_
          simp [AV.kill,AV.mapN]
      · exact h.elim
    · rename_i t x hsop
      split at h
      · rename_i d cs hdst hcs
        obtain ⟨hp,hall,rfl,rfl⟩:=h
        have ho:o.op = .box t x:=by
          have:=hs.op
          rw [hsop] at this
          cases ho:o.op<;>rw [ho] at this<;>simp only [comp,Option.some.injEq] at this<;>(try (cases this;try rfl))
          all_goals (split at this<;>cases this)
        refine wp_of_value (y:=.pointer (some ⟨u.heap.size,0,none⟩)) (w':=u.alloc (.cells (act.eval x).cells.toList.toArray t)) ?_ ?_
        · unfold execOp;rw [ho]
          exact run_val (by simp [Instr.box,newVar,newRow])
        · have hm:=hmem d hdst (by rw [hsop];rfl)
          refine box_step hS hrs hdst (hs.dst.trans hdst) (fun K hK=>cellsAV_ok (hop K hK x (by rw [hsop];simp [SOp.opnds]) hp) hcs) (hno _ hm) ?_
          conv=>rhs;rw [← List.map_id cs]
          refine List.map_congr_left fun c hc=>?_
          exact AV.kill_below (q:=fun m=>!C.contains m && decide (m < B + 100000)) (by simp only [hm];rfl) c (AV.allNL_iff.1 hall c hc)
      · exact h.elim
    · rename_i t n parts hsop
      split at h
      · rename_i rows hrows
        obtain ⟨hp,rfl,rfl⟩:=h
        have ho:∃ ps,o.op = .buildSlice t n ps ∧ ps.toList = parts:=by
          have:=hs.op
          rw [hsop] at this
          cases ho:o.op<;>rw [ho] at this<;>simp only [comp,Option.some.injEq] at this<;>(try (cases this;try exact ⟨_,rfl,rfl⟩))
          all_goals (split at this<;>cases this)
        obtain ⟨ps,ho,rfl⟩:=ho
        have core:=fun K (hK:S K)=>bs_core (P:=P) (K:=K) (w:=u) (σ:=σ0) (act:=act) ho (fun p hp'=>hop K hK p.2 (by rw [hsop];simp only [SOp.opnds,List.mem_map];exact ⟨p,hp',rfl⟩)) hrows hp
        obtain ⟨K0,hK0⟩:=hS
        obtain ⟨cells,E,h1,_⟩:=core K0 hK0
        refine wp_of_value h1 (same_step (J:=fun _ b=>b = u.heap.size) rfl hrs ((Grow.refl u).alloc _) (fun _ b hb=>by subst hb;simp) fun K hK=>?_)
        obtain ⟨cells',E',g1,g2⟩:=core K hK
        rw [h1] at g1
        have hw:u.alloc (.cells cells E) = u.alloc (.cells cells' E'):=by injection g1
        rw [hw]
        exact g2 (hrs K hK).inI
      · exact h.elim
    · rename_i t u0 s0 x hsop
      split at h
      · rename_i E0 kk by_ z hdv ht hk' hb' hz'
        split at h
        · rename_i q news hsrc
          obtain ⟨hx1,hs1,hq,hzl,hk0,hnews,hby,hle,rfl,rfl⟩:=h
          have hk:tsz P E0 = some kk:=by rw [ht] at hk';exact hk'
          have hb:tby P E0 = some by_:=by rw [ht] at hb';exact hb'
          have hz:tzero P E0 = some z:=by rw [ht] at hz';exact hz'
          have hz1:=(tzero_ok hz).2
          have ho:∃ c:Call,o.op = .call c ∧ c.callee = .builtin .append ∧ c.args = #[s0,x] ∧ c.argTypes = #[t,u0]:=by
            have:=hs.op
            rw [hsop] at this
            cases ho:o.op<;>rw [ho] at this<;>simp only [comp,Option.some.injEq] at this<;>(try (cases this))
            case slice=>split at this<;>cases this
            case makeMap=>split at this<;>cases this
            case lookup=>split at this<;>cases this
            case call c =>
              obtain ⟨cal,as,ats⟩:=c
              simp only at this
              split at this<;>cases this
              exact ⟨_,rfl,rfl,by cases as;simp_all,by cases ats;simp_all⟩
          obtain ⟨c,ho,hc,hargs,hats⟩:=ho
          have hexec:∀ {y u'},(Builtin.append_ #[t,u0] o.type #[act.eval s0,act.eval x]).run P u = .ok y u' → (execOp act.eval o).run P u = .ok (.value y) u':=fun {y u'} h1=>by
            unfold execOp;rw [ho]
            obtain ⟨cal,args,ats⟩:=c
            simp only at hc hargs hats
            subst hc;subst hargs;subst hats
            simp only [resolve,invoke,builtin,pure_bind]
            exact run_val (by simpa using h1)
          have core:∀ K,S K → ∃ cells,SrcOk P kk u0 z u (act.eval x) news.length cells ∧ CellsOk K.I u kk news cells:=fun K hK=>src_ok (hrs0 K hK) (hop K hK x (by rw [hsop];simp [SOp.opnds]) hx1) hzl hk0 hz1 hsrc hq hnews
          obtain ⟨K0,hK0⟩:=hS
          have hse:act.eval s0 = .slice none 0 0:=by
            have:=hop K0 hK0 s0 (by rw [hsop];simp [SOp.opnds]) hs1
            rw [hdv] at this
            cases this with | d h=>exact h.int
          by_cases hn0:news = []
          · subst hn0
            obtain ⟨ncells,h1,h2⟩:=core K0 hK0
            have hnl:ncells = []:=List.eq_nil_of_length_eq_zero (by simpa using h2.1)
            have hrun:=run_app_nothing (ty:=o.type) (base:=none) ht hk hb hz h1 hnl
            rw [← hse] at hrun
            exact wp_of_value (hexec hrun) (same_step (J:=fun _ _=>False) rfl hrs (Grow.refl u) (fun _ _ hf=>hf.elim) fun K hK=>by rw [hse];exact .d .nil)
          · have hpos:0 < news.length:=List.length_pos_iff.2 hn0
            have key:∀ K,S K → ∃ obj,(execOp act.eval o).run P u = .ok (.value (.slice (some ⟨u.heap.size,0,none⟩) (0 + news.length) (grownCap u (0 + news.length) 0 E0))) (u.drew.alloc obj) ∧
                Rep { K with I:=fun b=>K.I b ∨ b = u.heap.size } (u.drew.alloc obj) (.d (.ro news)) (.slice (some ⟨u.heap.size,0,none⟩) (0 + news.length) (grownCap u (0 + news.length) 0 E0)):=fun K hK=>by
              obtain ⟨ncells,h1,h2⟩:=core K hK
              have hrun:=run_app_grow (ty:=o.type) (base:=none) (sLen:=0) (sCap:=0) (olds:=[]) ht hk hb hz hzl h1 (fun w' _=>firstCells_zero _ _ _) (by simpa using hby) (by simpa using hle) (by omega)
              rw [← hse] at hrun
              refine ⟨_,hexec hrun,?_⟩
              have hg:Grow u (u.drew.alloc (.cells ((#[]:Array Value) ++ ncells.toArray ++ Builtin.zeroCells z.toArray (grownCap u (0 + news.length) 0 E0 - (0 + news.length))) E0)):=((Grow.refl u).drew).alloc _
              have hkp:=Keep.of_grow hg (hrs K hK).inI
              have hcap:=grownCap_ge u (0 + news.length) 0 E0
              have hheap:(u.drew.alloc (.cells ((#[]:Array Value) ++ ncells.toArray ++ Builtin.zeroCells z.toArray (grownCap u (0 + news.length) 0 E0 - (0 + news.length))) E0)).heap[u.heap.size]? = some (.cells (ncells ++ (Builtin.zeroCells z.toArray (grownCap u (0 + news.length) 0 E0 - (0 + news.length))).toList).toArray E0 (0,0)):=by
                rw [show (u.drew.alloc (.cells ((#[]:Array Value) ++ ncells.toArray ++ Builtin.zeroCells z.toArray (grownCap u (0 + news.length) 0 E0 - (0 + news.length))) E0)).heap[u.heap.size]? = _ from hp_new (w:=u.drew) rfl]
                simp
              have hcell:∀ (i j:Nat) (r:List RV) (c:RV),news[i]? = some r → r[j]? = some c → ncells[i * kk + j]? = some (ncells.getD (i * kk + j) undef):=fun i j r c hr hc=>by
                have hlt:i < news.length:=(List.getElem?_eq_some_iff.1 hr).1
                have hj:j < kk:=by rw [← hnews r (List.mem_of_getElem? hr)];exact (List.getElem?_eq_some_iff.1 hc).1
                have:(i + 1) * kk ≤ news.length * kk:=Nat.mul_le_mul_right kk hlt
                rw [Nat.add_mul] at this
                have:i * kk + j < ncells.length:=by rw [h2.1];omega
                simp [List.getD,this]
              have:=RRep.ro (I:=fun b=>K.I b ∨ b = u.heap.size) (w:=u.drew.alloc (.cells ((#[]:Array Value) ++ ncells.toArray ++ Builtin.zeroCells z.toArray (grownCap u (0 + news.length) 0 E0 - (0 + news.length))) E0)) (rows:=news) (b:=u.heap.size) (o:=0) (cap:=grownCap u (0 + news.length) 0 E0) (k:=kk) (f:=fun i j=>ncells.getD (i * kk + j) undef) hn0 (.inr rfl) (by omega) hle hk0 (fun i r hr=>hnews r (List.mem_of_getElem? hr)) (fun i j r c hr hc=>by
                have e:=hcell i j r c hr hc
                have hlt:i * kk + j < ncells.length:=(List.getElem?_eq_some_iff.1 e).1
                rw [cells_at hheap,Nat.zero_add (i * kk + j),List.getElem?_append_left hlt]
                exact e) (fun i j r c hr hc=>(h2.2.1 i j r c _ hr hc (hcell i j r c hr hc)).up (fun b hb=>.inl hb) hkp)
              rw [Nat.zero_add] at this ⊢
              exact .d this
            obtain ⟨obj,h1,_⟩:=key K0 hK0
            refine wp_of_value h1 (same_step (J:=fun _ b=>b = u.heap.size) rfl hrs (((Grow.refl u).drew).alloc _) (fun _ b hb=>by subst hb;simp) fun K hK=>?_)
            obtain ⟨obj',g1,g2⟩:=key K hK
            rw [h1] at g1
            have hw:u.drew.alloc obj = u.drew.alloc obj':=by injection g1
            rw [hw]
            exact g2
        · exact h.elim
      · exact h.elim
    · rename_i f args hsop
      obtain ⟨v',hent,hA,hp,hL,hn,rfl,rfl⟩:=h
      have ho:∃ c:Call,o.op = .call c ∧ c.callee = .value (.func f) ∧ c.args.toList = args:=by
        have:=hs.op
        rw [hsop] at this
        cases ho:o.op<;>rw [ho] at this<;>simp only [comp,Option.some.injEq] at this<;>(try (cases this))
        case slice=>split at this<;>cases this
        case makeMap=>split at this<;>cases this
        case lookup=>split at this<;>cases this
        case call c =>
          obtain ⟨cal,as,ats⟩:=c
          simp only at this
          split at this<;>cases this
          exact ⟨_,rfl,rfl,rfl⟩
      obtain ⟨c,ho,hc,rfl⟩:=ho
      exact call_step hS hrs hsub hcl0 hlow (call_run ho hc hent) (by simp) (fun K hK=>(reps_list (xs:=c.args.toList) (fun x hx=>hop K hK x (by rw [hsop];exact hx)) hp).2) hA rfl
    · rename_i x args hsop
      obtain ⟨v',hA,hx,hp,hL,hn,rfl,rfl⟩:=h
      have ho:∃ c:Call,o.op = .call c ∧ c.callee = .value x ∧ c.args.toList = args:=by
        have:=hs.op
        rw [hsop] at this
        cases ho:o.op<;>rw [ho] at this<;>simp only [comp,Option.some.injEq] at this<;>(try (cases this))
        case slice=>split at this<;>cases this
        case makeMap=>split at this<;>cases this
        case lookup=>split at this<;>cases this
        case call c =>
          obtain ⟨cal,as,ats⟩:=c
          simp only at this
          split at this<;>cases this
          exact ⟨_,rfl,rfl,rfl⟩
      obtain ⟨c,ho,hc,rfl⟩:=ho
      unfold ACallv at hA
      split at hA
      · rename_i f first cap e
        obtain ⟨hent,hA⟩:=hA
        have key:∀ K,S K → ∃ fs cs,act.eval x = .func (.func f) (List.toArray fs) (List.toArray cs) ∧ first.length = fs.length ∧ cap.length = cs.length ∧ (∀ (i:Nat) (c:AV) (x:Value),first[i]? = some c → fs[i]? = some x → Rep K u c x) ∧ (∀ (i:Nat) (c:AV) (x:Value),cap[i]? = some c → cs[i]? = some x → Rep K u c x):=fun K hK=>by
          have hv:=hop K hK x (by rw [hsop];simp [SOp.opnds]) hx
          rw [e] at hv
          generalize act.eval x = y at hv
          cases hv with
          | clo h1 h2 h3 h4=>exact ⟨_,_,rfl,h1,h2,h3,h4⟩
        obtain ⟨K0,hK0⟩:=hS
        obtain ⟨fs,cs,hxe,f1,f2,_,_⟩:=key K0 hK0
        refine call_step ⟨K0,hK0⟩ hrs hsub hcl0 hlow (callv_run ho hc hent hxe) (by simp [f1,f2]) (fun K hK i c' y hc' hy=>?_) hA rfl
        obtain ⟨fs',cs',hxe',_,_,f3,f4⟩:=key K hK
        rw [hxe] at hxe'
        simp only [Value.func.injEq,true_and] at hxe'
        have hf1:fs = fs':=by have:=congrArg Array.toList hxe'.1;simpa using this
        have hf2:cs = cs':=by have:=congrArg Array.toList hxe'.2;simpa using this
        subst hf1;subst hf2
        obtain ⟨a1,a2⟩:=reps_list (xs:=c.args.toList) (fun x hx=>hop K hK x (by rw [hsop];simp [SOp.opnds];exact .inr (by simpa using hx))) hp
        simp only [List.append_assoc] at hc' hy
        by_cases h1:i < first.length
        · rw [List.getElem?_append_left (by omega)] at hc' hy
          exact f3 _ _ _ hc' hy
        · rw [List.getElem?_append_right (by omega)] at hc' hy
          rw [← f1] at hy
          by_cases h2:i - first.length < (c.args.toList.map fun z=>(opd fr z).2).length
          · rw [List.getElem?_append_left (by omega)] at hc' hy
            exact a2 _ _ _ hc' hy
          · rw [List.getElem?_append_right (by omega)] at hc' hy
            rw [← a1] at hy
            exact f4 _ _ _ hc' hy
      · exact hA.elim
    · exact h.elim
end
end Go.Proofs.Ytikgiadbkjmabaa

/- Regions that draw their order (5): what holds between one operation and the next. No program in sight. -/
namespace Go.Proofs.Ytikgiadbkjmabaa
open Go.RowKit
set_option linter.unusedSimpArgs false
set_option linter.unusedVariables false

structure StD (N:Nat) (K:KS) (f:Nat → AV) (σ:Sto) (act:Act) (u:World):Prop where
  rs:RepS K σ u
  rf:∀ t,Rep K u (f t) (act.tmps.getD t undef)
  sz:act.tmps.size = N
  df:act.defers = []

def inB (B:Nat) (C:List Nat) (m:Nat):Bool:=!C.contains m && decide (m < B + 100000)

section
variable {P:Program} {fr:Bool} {N B:Nat} {T0:List Nat} {C:List Nat} {S:KS → Prop} {σ σ0:Sto} {l0:Loc} {act:Act} {u:World} {o:Oper} {e:Ent} {Q:Exit → Act → World → Prop} {ops:List Oper}

theorem ent_val (h:LocOk P B C σ0 l0 e):(∃ s o,e.so.dst = some s ∧ e.val = .lp (B + s) 0 ∧ e.ob = some o ∧ isMk e.so.op = true ∧ o.allN (inB B C) = true) ∨ (e.ob = none ∧ e.val.allN (inB B C) = true):=by
  unfold LocOk at h
  split at h
  · unfold SDv at h
    split at h
    · exact .inr ⟨h.2.2.2.symm,by rw [← h.2.2.1];exact h.2.1⟩
    · split at h
      · rename_i t hsop
        split at h
        · rename_i d z hdst hz
          refine .inl ⟨d,_,hdst,h.1.symm,h.2.symm,by rw [hsop];rfl,?_⟩
          simp only [AO.allN]
          exact AV.allNL_iff.2 fun c hc=>by
            obtain ⟨x,_,rfl⟩:=List.mem_map.1 hc;rfl
        · exact h.elim
      · rename_i t x hsop
        split at h
        · rename_i d cs hdst hcs
          exact .inl ⟨d,_,hdst,h.2.2.1.symm,h.2.2.2.symm,by rw [hsop];rfl,h.2.1⟩
        · exact h.elim
      · split at h
        · exact .inr ⟨h.2.2.symm,by rw [← h.2.1];rfl⟩
        · exact h.elim
      · split at h
        · split at h
          · obtain ⟨_,_,_,_,_,_,_,_,h8,h9⟩:=h
            exact .inr ⟨h9.symm,by rw [← h8];rfl⟩
          · exact h.elim
        · exact h.elim
      · obtain ⟨v,h1,h2,h3,h4,h5,h6⟩:=h
        exact .inr ⟨h6.2.symm,by rw [← h6.1];exact h5⟩
      · obtain ⟨v,h1,h2,h3,h4,h5,h6⟩:=h
        exact .inr ⟨h6.2.symm,by rw [← h6.1];exact h5⟩
      · exact h.elim
  · obtain ⟨p,c,v,h1,h2,h3,h4,h5⟩:=h
    exact .inr ⟨h3,by rw [h2];exact h4⟩

theorem ent_step (hs:SoOk N ops o e.so) (hS:∃ K,S K) (hrs:∀ K,S K → RepS K σ u) (hop:∀ K,S K → ∀ x ∈ e.so.op.opnds,OpOk K u e.fr act.eval x) (hsub:∀ n,σ0 n = σ n ∨ σ0 n = .dead) (hcl0:ClosedS (B + 100000) σ0)
    (hlow:∀ n,(σ n).allN (fun m=>decide (m < B + 100000)) = true ∧ (B + 100000 ≤ n → σ n = .dead)) (hno:∀ n,C.contains n = true → ∀ m,(σ m).kill n = σ m) (hmem:∀ d,e.so.dst = some d → isMk e.so.op = true → C.contains (B + d) = true)
    (hsz:act.tmps.size = N) (hdf:act.defers = []) (hgd:∀ t b,e.so.guard = some (t,b) → ∀ K,S K → Rep K u (e.fr.get t) (act.tmps.getD t undef)) (h:LocOk P B C σ0 l0 e) :
    (Region.wanted o (yielded ops.toArray act.tmps) = true → o.wp P act u (StepOut P B T0 C S σ act u o e.so e.val e.ob) Q) ∧
    (Region.wanted o (yielded ops.toArray act.tmps) = false → StepOut P B T0 C S σ act u o e.so e.val e.ob (act.put o.dst undef) u):=by
  unfold LocOk at h
  split at h
  · rename_i hg
    have hwt:Region.wanted o (yielded ops.toArray act.tmps) = true:=by
      rcases hs.gd with ⟨h1,_⟩ | ⟨j,b,t,_,h2,_⟩
      · simp [Region.wanted,h1]
      · rw [hg] at h2;cases h2
    exact ⟨fun _=>dv_step hs hS hrs hop hsub hcl0 hlow hno hmem h,fun hn=>by rw [hwt] at hn;cases hn⟩
  · rename_i t b hg
    obtain ⟨p,c,v,h1,h2,h3,h4,h5⟩:=h
    obtain ⟨K0,hK0⟩:=hS
    have hstd:Std N σ K0 [(t,e.fr.get t)] [] act u:=⟨hrs K0 hK0,fun m=>by
      simp only [Fr.get]
      split
      · rename_i hm;subst hm;exact hgd _ _ hg K0 hK0
      · exact .any,hsz,hdf⟩
    have hw:=wanted_guard (p:=p) (c:=c) hs hstd hg (by
      have e1:Fr.get [(t,e.fr.get t)] t = e.fr.get t:=by simp [Fr.get]
      simp only [opd,e1] at h1 ⊢
      exact h1)
    rw [h2,h3]
    refine ⟨fun hwt=>?_,fun hwt=>?_⟩
    · have hG:=hw.1 hwt
      refine Oper.wp_mono (fun act' u' ⟨y,g1,g2⟩=>⟨y,g1,fun K hK=>?_⟩) (dv_step (T0:=T0) (v:=v) (ob:=none) hs ⟨K0,hK0⟩ hrs hop hsub hcl0 hlow hno hmem (h5 hG))
      obtain ⟨K',k1,k2,k3,k4⟩:=g2 K hK
      exact ⟨K',k1,k2,.gd (fun _=>k3) (fun hn=>absurd hG hn),k4⟩
    · have hG:¬ (p ∧ c = b):=fun hG=>by rw [hw.2 hG] at hwt;cases hwt
      exact same_step (J:=fun _ _=>False) rfl hrs (Grow.refl u) (fun _ _ hf=>hf.elim) fun K hK=>.gd (fun hn=>absurd hn hG) (fun _=>rfl)
end

structure Ctx (P:Program) (fr:Bool) (N B:Nat) (C:List Nat) (σ0:Sto) (l0:Loc) (a0:Fr) (ops:List Oper) (Z:List (Nat × Ent)) (aF:Fr):Prop where
  dr:DrOk fr ops
  fa:Facts (P:=P) (B:=B) (C:=C) (σ0:=σ0) (l0:=l0) a0 Z aF
  so:∀ i o,ops[i]? = some o → (isTail ops).getD i false = false → ∃ e,look2 Z i = some e
  zo:∀ i e,look2 Z i = some e → ∃ o,ops[i]? = some o ∧ (isTail ops).getD i false = false ∧ SoOk N ops o e.so
  cl:ClosedS (B + 100000) σ0
  nc:∀ n,(σ0 n).allN (fun m=>!C.contains m) = true
  dead:∀ n,C.contains n = true → σ0 n = .dead
  ab:∀ t,(a0.get t).allN (inB B C) = true
  mem:∀ i e d,look2 Z i = some e → e.so.dst = some d → isMk e.so.op = true → C.contains (B + d) = true

structure FS (B:Nat) (a0:Fr) (σ0:Sto) (Z:List (Nat × Ent)) (listed:Array Bool) (f:Nat → AV) (σ:Sto):Prop where
  wr:∀ p e t,look2 Z p = some e → e.so.dst = some t → listed.getD p false = true → f t = e.val
  no:∀ t,(∀ p e,look2 Z p = some e → e.so.dst = some t → listed.getD p false = false) → f t = a0.get t
  mkd:∀ p e s o,look2 Z p = some e → e.so.dst = some s → e.ob = some o → listed.getD p false = true → σ (B + s) = o
  old:∀ n,(∀ p e s o,look2 Z p = some e → e.so.dst = some s → e.ob = some o → n = B + s → listed.getD p false = false) → σ n = σ0 n

section
variable {P:Program} {fr:Bool} {N B:Nat} {T0:List Nat} {C:List Nat} {S:KS → Prop} {σ σ0:Sto} {l0:Loc} {a0 aF:Fr} {act:Act} {u:World} {o:Oper} {e:Ent} {Q:Exit → Act → World → Prop} {ops:List Oper} {Z:List (Nat × Ent)} {listed:Array Bool} {f:Nat → AV}

theorem FS.objs (cx:Ctx P fr N B C σ0 l0 a0 ops Z aF) (h:FS B a0 σ0 Z listed f σ) (n:Nat):(σ n = σ0 n) ∨ (σ0 n = .dead ∧ n < B + 100000 ∧ (σ n).allN (inB B C) = true):=by
  by_cases hx:∃ p e s o,look2 Z p = some e ∧ e.so.dst = some s ∧ e.ob = some o ∧ n = B + s ∧ listed.getD p false = true
  · obtain ⟨p,e,s,o,h1,h2,h3,rfl,h5⟩:=hx
    rcases ent_val (cx.fa.loc p e h1) with ⟨s',o',g1,g2,g3,g4,g5⟩ | ⟨g1,_⟩
    · rw [h2] at g1;cases g1
      rw [h3] at g3;cases g3
      obtain ⟨oo,q1,_,q3⟩:=cx.zo p e h1
      have:=cx.dr.small p oo s q1 (q3.dst.trans h2)
      exact .inr ⟨cx.dead _ (cx.mem p e s h1 h2 g4),by omega,by rw [h.mkd p e s o h1 h2 h3 h5];exact g5⟩
    · rw [h3] at g1;cases g1
  · refine .inl (h.old n fun p e s o h1 h2 h3 h4=>?_)
    cases h5:listed.getD p false with
    | false=>rfl
    | true=>exact absurd ⟨p,e,s,o,h1,h2,h3,h4,h5⟩ hx

theorem FS.sub (cx:Ctx P fr N B C σ0 l0 a0 ops Z aF) (h:FS B a0 σ0 Z listed f σ) (n:Nat):σ0 n = σ n ∨ σ0 n = .dead:=(h.objs cx n).imp Eq.symm And.left

theorem FS.low (cx:Ctx P fr N B C σ0 l0 a0 ops Z aF) (h:FS B a0 σ0 Z listed f σ) (n:Nat):(σ n).allN (fun m=>decide (m < B + 100000)) = true ∧ (B + 100000 ≤ n → σ n = .dead):=by
  rcases h.objs cx n with e | ⟨e,hlt,hall⟩
  · rw [e];exact cx.cl n
  · exact ⟨AO.allN_mono (fun m hm=>by simp only [inB,Bool.and_eq_true] at hm;exact hm.2) hall,fun hn=>by omega⟩

theorem FS.nokill (cx:Ctx P fr N B C σ0 l0 a0 ops Z aF) (h:FS B a0 σ0 Z listed f σ) (n:Nat) (hn:C.contains n = true) (m:Nat):(σ m).kill n = σ m:=by
  refine AO.kill_below (q:=fun m=>!C.contains m) (by rw [hn];rfl) _ ?_
  rcases h.objs cx m with e | ⟨e,hlt,hall⟩
  · rw [e];exact cx.nc m
  · exact AO.allN_mono (fun m hm=>by simp only [inB,Bool.and_eq_true] at hm;exact hm.1) hall

theorem FS.agree (cx:Ctx P fr N B C σ0 l0 a0 ops Z aF) (h:FS B a0 σ0 Z listed f σ) (hsh:Shut .any ops.toArray listed) {i:Nat} (hi:ops[i]? = some o) (he:look2 Z i = some e) (htl:(isTail ops).getD i false = false) (hun:listed.getD i false = false) (hdeps:∀ e ∈ o.after,Region.binds .any e = true → listed.getD e.on false = true) {t:Nat} (ht:t ∈ readsOf ops o) :
    e.fr.get t = f t:=by
  by_cases hx:∃ p ep,look2 Z p = some ep ∧ ep.so.dst = some t
  · obtain ⟨p,ep,h1,h2⟩:=hx
    obtain ⟨op,q1,q2,q3⟩:=cx.zo p ep h1
    have hd:op.dst = some t:=q3.dst.trans h2
    have uniq:∀ p' ep',look2 Z p' = some ep' → ep'.so.dst = some t → p' = p:=fun p' ep' g1 g2=>by
      obtain ⟨op',r1,r2,r3⟩:=cx.zo p' ep' g1
      rcases Nat.decEq p' p with hne | he
      · exact absurd (r3.dst.trans g2) (cx.dr.once p p' op op' t q1 r1 hne hd)
      · exact he
    by_cases hpi:i = p
    · subst hpi
      rw [cx.fa.no i e t he (fun p' ep' g1 g2=>by rw [uniq p' ep' g1 g2];omega),h.no t fun p' ep' g1 g2=>by rw [uniq p' ep' g1 g2];exact hun]
    · rcases cx.dr.reads p i op o t q1 hi hpi hd htl ht with ⟨hlt,hA⟩ | ⟨hlt,hA⟩
      · have hl:=anc_listed hsh hA (fun o' ho'=>by rw [hi] at ho';cases ho';exact hdeps)
        rw [cx.fa.wr i e t p ep he h1 h2 hlt,h.wr p ep t h1 h2 hl]
      · have hl:listed.getD p false = false:=by
          cases hl:listed.getD p false with
          | false=>rfl
          | true =>
            have:=anc_listed hsh hA (fun o' ho'=>hsh p o' hl (by simpa using ho'))
            rw [this] at hun;cases hun
        rw [cx.fa.no i e t he (fun p' ep' g1 g2=>by rw [uniq p' ep' g1 g2];omega),h.no t fun p' ep' g1 g2=>by rw [uniq p' ep' g1 g2];exact hl]
  · rw [cx.fa.no i e t he (fun p' ep' g1 g2=>absurd ⟨p',ep',g1,g2⟩ hx),h.no t fun p' ep' g1 g2=>absurd ⟨p',ep',g1,g2⟩ hx]

theorem FS.fval (cx:Ctx P fr N B C σ0 l0 a0 ops Z aF) (h:FS B a0 σ0 Z listed f σ) (t:Nat):(f t).allN (inB B C) = true ∨ (f t = .lp (B + t) 0 ∧ t < 100000):=by
  by_cases hx:∃ p ep,look2 Z p = some ep ∧ ep.so.dst = some t ∧ listed.getD p false = true
  · obtain ⟨p,ep,h1,h2,h3⟩:=hx
    rw [h.wr p ep t h1 h2 h3]
    rcases ent_val (cx.fa.loc p ep h1) with ⟨s',o',g1,g2,g3,g4,g5⟩ | ⟨_,g2⟩
    · rw [h2] at g1;cases g1
      obtain ⟨oo,q1,_,q3⟩:=cx.zo p ep h1
      exact .inr ⟨g2,cx.dr.small p oo t q1 (q3.dst.trans h2)⟩
    · exact .inl g2
  · rw [h.no t fun p ep h1 h2=>by
      cases h3:listed.getD p false with
      | false=>rfl
      | true=>exact absurd ⟨p,ep,h1,h2,h3⟩ hx]
    exact .inl (cx.ab t)

theorem FS.next (cx:Ctx P fr N B C σ0 l0 a0 ops Z aF) (h:FS B a0 σ0 Z listed f σ) {i:Nat} (hi:ops[i]? = some o) (he:look2 Z i = some e) (hsz:listed.size = ops.length) :
    FS B a0 σ0 Z (listed.setIfInBounds i true) (fun t=>if e.so.dst = some t then e.val else f t) (made B e.so.dst e.ob σ):=by
  have hil:i < listed.size:=by rw [hsz];exact lt_of_get hi
  have get:∀ p,(listed.setIfInBounds i true).getD p false = if p = i then true else listed.getD p false:=fun p=>by
    by_cases hp:p = i
    · subst hp;simp [hil]
    · rw [if_neg hp,getD_set_ne false (Ne.symm hp)]
  obtain ⟨o',hi',_,hso⟩:=cx.zo i e he
  rw [hi] at hi';cases hi'
  have uniq:∀ t,e.so.dst = some t → ∀ p' ep',look2 Z p' = some ep' → ep'.so.dst = some t → p' = i:=fun t ht p' ep' g1 g2=>by
    obtain ⟨op',r1,r2,r3⟩:=cx.zo p' ep' g1
    rcases Nat.decEq p' i with hne | he
    · exact absurd (r3.dst.trans g2) (cx.dr.once i p' o op' t hi r1 hne (hso.dst.trans ht))
    · exact he
  have hmade:∀ n,made B e.so.dst e.ob σ n = match e.so.dst,e.ob with | some s,some o=>if n = B + s then o else σ n | _,_=>σ n:=fun n=>by
    unfold made;split<;>simp_all
  refine ⟨fun p ep t h1 h2 h3=>?_,fun t hno=>?_,fun p ep s ob h1 h2 h3 h4=>?_,fun n hno=>?_⟩
  · rw [get] at h3
    by_cases hp:p = i
    · subst hp
      rw [he] at h1;cases h1
      simp only [if_pos h2]
    · rw [if_neg hp] at h3
      rw [if_neg fun ht=>hp (uniq t ht p ep h1 h2)]
      exact h.wr p ep t h1 h2 h3
  · rw [if_neg fun ht=>by have:=hno i e he ht;rw [get,if_pos rfl] at this;cases this]
    refine h.no t fun p ep h1 h2=>?_
    have:=hno p ep h1 h2
    rw [get] at this
    split at this
    · cases this
    · exact this
  · rw [get] at h4
    by_cases hp:p = i
    · subst hp
      rw [he] at h1;cases h1
      rw [hmade,h2,h3];simp
    · rw [if_neg hp] at h4
      rw [hmade]
      split
      · rename_i s' o' hd' ho'
        rw [if_neg fun hn=>hp (uniq s (by rw [hd'];congr 1;omega) p ep h1 h2)]
        exact h.mkd p ep s ob h1 h2 h3 h4
      · exact h.mkd p ep s ob h1 h2 h3 h4
  · have hold:σ n = σ0 n:=h.old n fun p ep s o h1 h2 h3 h4=>by
      have:=hno p ep s o h1 h2 h3 h4
      rw [get] at this
      split at this
      · cases this
      · exact this
    rw [hmade]
    split
    · rename_i s' o' hd' ho'
      rw [if_neg fun hn=>by have:=hno i e s' o' he hd' ho' hn;rw [get,if_pos rfl] at this;cases this]
      exact hold
    · exact hold
end
end Go.Proofs.Ytikgiadbkjmabaa

/- Regions that draw their order (6): whatever order is picked. No program in sight. -/
namespace Go.Proofs.Ytikgiadbkjmabaa
open Go.RowKit
set_option linter.unusedSimpArgs false
set_option linter.unusedVariables false

theorem put_getD (act:Act) (d:Option Nat) (y:Value) (t:Nat) (hd:∀ t,d = some t → t < act.tmps.size):(act.put d y).tmps.getD t undef = if d = some t then y else act.tmps.getD t undef:=by
  cases d with
  | none=>simp [Act.put]
  | some s =>
    have hs:=hd s rfl
    simp only [Act.put,Array.getD_eq_getD_getElem?,Array.getElem?_setIfInBounds,Option.some.injEq]
    split
    · rename_i e;subst e;simp [hs]
    · rfl

structure LInv (ops:List Oper) (listed:Array Bool):Prop where
  shut:Shut .any ops.toArray listed
  size:listed.size = ops.length
  tl:∀ i,(isTail ops).getD i false = true → listed.getD i false = false

section
variable {P:Program} {fr:Bool} {N B:Nat} {T0:List Nat} {C:List Nat} {S0:KS → Prop} {σ σ0 r:Sto} {l l0:Loc} {a0 aF:Fr} {act:Act} {u w0:World} {o:Oper} {e:Ent} {Q:Exit → Act → World → Prop} {ops:List Oper} {Z:List (Nat × Ent)} {listed:Array Bool} {f:Nat → AV}

def PInv (N B:Nat) (T0:List Nat) (S0:KS → Prop) (l:Loc) (r:Sto) (w0:World) (a0:Fr) (σ0:Sto) (Z:List (Nat × Ent)) (listed:Array Bool) (act:Act) (u:World):Prop :=
  ∃ f σ,FS B a0 σ0 Z listed f σ ∧ ∀ K0,S0 K0 → ∃ K,Ext B T0 K0 (sto l r) w0 K σ u ∧ StD N K f σ act u

def FamD (N B:Nat) (T0:List Nat) (S0:KS → Prop) (l:Loc) (r:Sto) (w0:World) (f:Nat → AV) (σ:Sto) (act:Act) (u:World):KS → Prop:=fun K=>∃ K0,S0 K0 ∧ Ext B T0 K0 (sto l r) w0 K σ u ∧ StD N K f σ act u

theorem step_next (cx:Ctx P fr N B C σ0 l0 a0 ops Z aF) (hfs:FS B a0 σ0 Z listed f σ) (hall:∀ K0,S0 K0 → ∃ K,Ext B T0 K0 (sto l r) w0 K σ u ∧ StD N K f σ act u) {i:Nat} (hi:ops[i]? = some o) (he:look2 Z i = some e) (hsz:listed.size = ops.length)
    {act':Act} {u':World} (hout:StepOut P B T0 C (FamD N B T0 S0 l r w0 f σ act u) σ act u o e.so e.val e.ob act' u'):PInv N B T0 S0 l r w0 a0 σ0 Z (listed.setIfInBounds i true) act' u':=by
  obtain ⟨y,rfl,hK⟩:=hout
  obtain ⟨o',hi',_,hso⟩:=cx.zo i e he
  rw [hi] at hi';cases hi'
  refine ⟨_,_,hfs.next cx hi he hsz,fun K0 hK0=>?_⟩
  obtain ⟨K,e1,d⟩:=hall K0 hK0
  obtain ⟨K',e2,rs,rv,keep⟩:=hK K ⟨K0,hK0,e1,d⟩
  refine ⟨K',e1.trans e2,rs,fun t=>?_,by cases o.dst<;>simp [Act.put,d.sz],by cases o.dst<;>simp [Act.put,d.df]⟩
  rw [put_getD _ _ _ _ (fun t ht=>by rw [d.sz];exact hso.lt t ht),hso.dst]
  by_cases ht:e.so.dst = some t
  · rw [if_pos ht,if_pos ht];exact rv
  · rw [if_neg ht,if_neg ht]
    refine keep _ _ ?_ (d.rf t)
    rcases hfs.fval cx t with hv | ⟨hv,hlt⟩
    · refine AV.allN_mono (fun m hm=>?_) _ hv
      simp only [inB,Bool.and_eq_true,Bool.not_eq_true',decide_eq_true_eq] at hm
      simp only [Bool.and_eq_true,decide_eq_true_eq,Bool.not_eq_true',Bool.and_eq_false_iff,decide_eq_false_iff_not]
      refine ⟨hm.2,?_⟩
      rcases ent_val (cx.fa.loc i e he) with ⟨s',o',g1,g2,g3,g4,g5⟩ | ⟨g1,_⟩
      · refine .inr fun hn=>?_
        rw [g1] at hn
        simp only [Option.map_some,Option.some.injEq] at hn
        have:=cx.mem i e s' he g1 g4
        rw [hn,hm.1] at this;cases this
      · rw [g1];exact .inl rfl
    · rw [hv]
      simp only [AV.allN,Bool.and_eq_true,decide_eq_true_eq,Bool.not_eq_true',Bool.and_eq_false_iff,decide_eq_false_iff_not]
      refine ⟨by omega,.inr fun hn=>ht ?_⟩
      cases hd:e.so.dst with
      | none=>rw [hd] at hn;cases hn
      | some s=>rw [hd] at hn;simp at hn;rw [hn]

theorem opOk_slot {K:KS} {a:Fr} {x:Operand} (h:∀ t,x = .tmp t → Rep K u (a.get t) (act.tmps.getD t undef)):OpOk K u a act.eval x:=by
  cases x with
  | tmp t =>
    have hs:Std 0 (fun _=>.dead) K [] [] ⟨#[],[]⟩ u → True:=fun _=>trivial
    have:=h t rfl
    intro hp
    simp only [opd] at hp ⊢
    cases hv:a.get t<;>simp only [hv] at this hp ⊢<;>try exact this
    rename_i p v
    cases this with
    | gd h1 h2=>exact h1 hp
  | const v=>exact fun _=>AV.lit_ok v
  | global g=>exact fun _=>.d (.v rfl)
  | func f=>exact fun _=>.clo (fs:=[]) (cs:=[]) rfl rfl (by simp) (by simp)

theorem at_head (cx:Ctx P fr N B C σ0 l0 a0 ops Z aF) (hL:LInv ops listed) (hS0:∃ K,S0 K) (hP:PInv N B T0 S0 l r w0 a0 σ0 Z listed act u) {i:Nat} (hi:ops[i]? = some o) (he:look2 Z i = some e) (hun:listed.getD i false = false) (hdeps:∀ e ∈ o.after,Region.binds .any e = true → listed.getD e.on false = true) :
    (Region.wanted o (yielded ops.toArray act.tmps) = true → o.wp P act u (PInv N B T0 S0 l r w0 a0 σ0 Z (listed.setIfInBounds i true)) Q ∧ (plainK o = true → ∃ y,∀ w,(execOp act.eval o).run P w = .ok (.value y) w)) ∧
    (Region.wanted o (yielded ops.toArray act.tmps) = false → PInv N B T0 S0 l r w0 a0 σ0 Z (listed.setIfInBounds i true) (act.put o.dst undef) u):=by
  obtain ⟨f,σ,hfs,hall⟩:=hP
  obtain ⟨o',hi',htl,hso⟩:=cx.zo i e he
  rw [hi] at hi';cases hi'
  have hag:∀ t,t ∈ readsOf ops o → e.fr.get t = f t:=fun t ht=>hfs.agree cx hL.shut hi he htl hun hdeps ht
  have hrd:∀ x ∈ e.so.op.opnds,∀ t,x = .tmp t → t ∈ readsOf ops o:=fun x hx t ht=>by
    subst ht
    have:=opnds_sub hso.op _ hx
    simp only [readsOf,Oper.looksAt,List.mem_append,List.mem_filterMap]
    exact .inl ⟨.tmp t,this,rfl⟩
  obtain ⟨Ks,hKs⟩:=hS0
  obtain ⟨K1,f1,d1⟩:=hall Ks hKs
  have hop:∀ K,FamD N B T0 S0 l r w0 f σ act u K → ∀ x ∈ e.so.op.opnds,OpOk K u e.fr act.eval x:=fun K ⟨_,_,_,d⟩ x hx=>opOk_slot fun t ht=>by
    rw [hag t (hrd x hx t ht)];exact d.rf t
  have hgd:∀ t b,e.so.guard = some (t,b) → ∀ K,FamD N B T0 S0 l r w0 f σ act u K → Rep K u (e.fr.get t) (act.tmps.getD t undef):=fun t b hg K ⟨_,_,_,d⟩=>by
    have:t ∈ readsOf ops o:=by
      rcases hso.gd with ⟨_,h2⟩ | ⟨j,b',t',h1,h2,h3,h4⟩
      · rw [hg] at h2;cases h2
      · rw [hg] at h2;cases h2
        simp only [readsOf,Oper.looksAt,List.mem_append,h1]
        refine .inr ?_
        have h3':(ops.toArray[j]?).bind (·.dst) = some t:=by simpa using h3
        rw [h3'];simp
    rw [hag t this];exact d.rf t
  have hfam:∃ K,FamD N B T0 S0 l r w0 f σ act u K:=⟨K1,Ks,hKs,f1,d1⟩
  have hloc:=cx.fa.loc i e he
  obtain ⟨g1,g2⟩:=ent_step (T0:=T0) (Q:=Q) hso hfam (fun K ⟨_,_,_,d⟩=>d.rs) hop (hfs.sub cx) cx.cl (hfs.low cx) (hfs.nokill cx) (fun d h1 h2=>cx.mem i e d he h1 h2) d1.sz d1.df hgd hloc
  have hSD:Region.wanted o (yielded ops.toArray act.tmps) = true → ∃ v ob,SDv P B C σ0 l0 e.fr e.so (fun v' ob'=>v' = v ∧ ob' = ob):=by
    have hloc':=hloc
    unfold LocOk at hloc'
    split at hloc'
    · exact fun _=>⟨_,_,hloc'⟩
    · rename_i t b hg
      obtain ⟨p,c,v,h1,h2,h3,h4,h5⟩:=hloc'
      have hstd:Std N σ K1 [(t,e.fr.get t)] [] act u:=⟨d1.rs,fun m=>by
        simp only [Fr.get]
        split
        · rename_i hm;subst hm;exact hgd _ _ hg K1 ⟨Ks,hKs,f1,d1⟩
        · exact .any,d1.sz,d1.df⟩
      have hw:=wanted_guard (p:=p) (c:=c) hso hstd hg (by
        have e1:Fr.get [(t,e.fr.get t)] t = e.fr.get t:=by simp [Fr.get]
        simp only [opd,e1] at h1 ⊢
        exact h1)
      exact fun hwt=>⟨v,none,h5 (hw.1 hwt)⟩
  refine ⟨fun hw=>⟨Oper.wp_mono (fun act' u' hout=>step_next cx hfs hall hi he hL.size hout) (g1 hw),fun hpl=>?_⟩,fun hw=>step_next cx hfs hall hi he hL.size (g2 hw)⟩
  obtain ⟨v0,ob0,hsd⟩:=hSD hw
  have hav:∃ q v,aev P σ0 e.fr e.so.op = some (q,v) ∧ q:=by
    unfold SDv at hsd
    split at hsd
    · rename_i q v hv;exact ⟨q,v,hv,hsd.1⟩
    · have hc:=hso.op
      exfalso
      split at hsd<;>(try exact hsd)<;>(rename_i hsop;rw [hsop] at hc;cases ho:o.op<;>simp only [plainK,plainOp,ho] at hpl<;>rw [ho] at hc<;>simp only [comp,Option.some.injEq] at hc<;>(try cases hc)<;>(try cases hpl))
  obtain ⟨q,v,hv,hq⟩:=hav
  obtain ⟨y,hy,_⟩:=plain_any_world hpl hso.op (hop K1 ⟨Ks,hKs,f1,d1⟩) (d1.rs.sub (hfs.sub cx)) hv hq
  exact ⟨y,hy⟩

theorem at_val (cx:Ctx P fr N B C σ0 l0 a0 ops Z aF) (hL:LInv ops listed) (hfs:FS B a0 σ0 Z listed f σ) {K:KS} (d:StD N K f σ act u) {i:Nat} (hi:ops[i]? = some o) (he:look2 Z i = some e) (hun:listed.getD i false = false) (hdeps:∀ e ∈ o.after,Region.binds .any e = true → listed.getD e.on false = true) (hf:freeK true o = true) :
    (Region.wanted o (yielded ops.toArray act.tmps) = true → ∃ y,Rep K u e.val y ∧ ((∀ w,(execOp act.eval o).run P w = .ok (.value y) w) ∨ ∃ t x b,o.op = .load t x ∧ (atBlk K (opd e.fr x).2 b ∧ ∀ n,avName (opd e.fr x).2 = some n → (σ0 n).live K n) ∧ ∀ w':World,w'.heap[b]? = u.heap[b]? → (execOp act.eval o).run P w' = .ok (.value y) w')) ∧
    (Region.wanted o (yielded ops.toArray act.tmps) = false → Rep K u e.val undef) ∧ e.ob = none:=by
  obtain ⟨o',hi',htl,hso⟩:=cx.zo i e he
  rw [hi] at hi';cases hi'
  have hag:∀ t,t ∈ readsOf ops o → e.fr.get t = f t:=fun t ht=>hfs.agree cx hL.shut hi he htl hun hdeps ht
  have hop:∀ x ∈ e.so.op.opnds,OpOk K u e.fr act.eval x:=fun x hx=>opOk_slot fun t ht=>by
    subst ht
    have:=opnds_sub hso.op _ hx
    rw [hag t (by simp only [readsOf,Oper.looksAt,List.mem_append,List.mem_filterMap];exact .inl ⟨.tmp t,this,rfl⟩)];exact d.rf t
  have hav:∀ {v ob},SDv P B C σ0 l0 e.fr e.so (fun v' ob'=>v' = v ∧ ob' = ob) → ob = none ∧ ∃ q,aev P σ0 e.fr e.so.op = some (q,v) ∧ q:=fun {v ob} hsd=>by
    unfold SDv at hsd
    split at hsd
    · rename_i q v' hv
      obtain ⟨h1,_,h3,h4⟩:=hsd
      subst h3
      exact ⟨h4.symm,q,hv,h1⟩
    · have hc:=hso.op
      exfalso
      split at hsd<;>(try exact hsd)<;>(rename_i hsop;rw [hsop] at hc;cases ho:o.op<;>simp only [freeK,plainOp,loadOp,ho] at hf<;>rw [ho] at hc<;>simp only [comp,Option.some.injEq] at hc<;>(try cases hc)<;>(try cases hf))
  have val:∀ {q v},aev P σ0 e.fr e.so.op = some (q,v) → q → ∃ y,Rep K u v y ∧ ((∀ w,(execOp act.eval o).run P w = .ok (.value y) w) ∨ ∃ t x b,o.op = .load t x ∧ (atBlk K (opd e.fr x).2 b ∧ ∀ n,avName (opd e.fr x).2 = some n → (σ0 n).live K n) ∧ ∀ w':World,w'.heap[b]? = u.heap[b]? → (execOp act.eval o).run P w' = .ok (.value y) w'):=fun {q v} hv hq=>by
    cases hpl:plainOp o.op with
    | true =>
      obtain ⟨y,hy,hr⟩:=plain_any_world hpl hso.op hop (d.rs.sub (hfs.sub cx)) hv hq
      exact ⟨y,hr,.inl hy⟩
    | false =>
      have hld:loadOp o.op = true:=by simpa [freeK,hpl] using hf
      cases ho:o.op<;>simp only [loadOp,ho,Bool.false_eq_true] at hld
      rename_i t x
      have hc:=hso.op
      rw [ho] at hc
      simp only [comp,Option.some.injEq] at hc
      rw [← hc] at hv hop
      obtain ⟨b,y,hb,h2,h3⟩:=load_any_world ho (hop x (by simp [SOp.opnds])) (d.rs.sub (hfs.sub cx)) hv hq
      exact ⟨y,h3,.inr ⟨t,x,b,rfl,hb,h2⟩⟩
  have hloc:=cx.fa.loc i e he
  unfold LocOk at hloc
  split at hloc
  · rename_i hg
    have hwt:Region.wanted o (yielded ops.toArray act.tmps) = true:=by
      rcases hso.gd with ⟨h1,_⟩ | ⟨j,b,t,_,h2,_⟩
      · simp [Region.wanted,h1]
      · rw [hg] at h2;cases h2
    obtain ⟨h1,q,h2,h3⟩:=hav hloc
    exact ⟨fun _=>val h2 h3,fun hn=>(by rw [hwt] at hn;cases hn),h1⟩
  · rename_i t b hg
    obtain ⟨p,c,v,h1,h2,h3,h4,h5⟩:=hloc
    have hmem:t ∈ readsOf ops o:=by
      rcases hso.gd with ⟨_,h2⟩ | ⟨j,b',t',h1,h2,h3,h4⟩
      · rw [hg] at h2;cases h2
      · rw [hg] at h2;cases h2
        simp only [readsOf,Oper.looksAt,List.mem_append,h1]
        refine .inr ?_
        have h3':(ops.toArray[j]?).bind (·.dst) = some t:=by simpa using h3
        rw [h3'];simp
    have hstd:Std N σ K [(t,e.fr.get t)] [] act u:=⟨d.rs,fun m=>by
      simp only [Fr.get]
      split
      · rename_i hm;subst hm;rw [hag _ hmem];exact d.rf _
      · exact .any,d.sz,d.df⟩
    have hw:=wanted_guard (p:=p) (c:=c) hso hstd hg (by
      have e1:Fr.get [(t,e.fr.get t)] t = e.fr.get t:=by simp [Fr.get]
      simp only [opd,e1] at h1 ⊢
      exact h1)
    rw [h2]
    refine ⟨fun hwt=>?_,fun hwt=>?_,h3⟩
    · have hG:=hw.1 hwt
      obtain ⟨_,q,g2,g3⟩:=hav (h5 hG)
      obtain ⟨y,r1,r2⟩:=val g2 g3
      exact ⟨y,.gd (fun _=>r1) (fun hn=>absurd hG hn),r2⟩
    · have hG:¬ (p ∧ c = b):=fun hG=>by rw [hw.2 hG] at hwt;cases hwt
      exact .gd (fun hn=>absurd hn hG) (fun _=>rfl)
end
end Go.Proofs.Ytikgiadbkjmabaa

/- Regions that draw their order (7): what is reckoned in the order of the text holds in every order. No program in sight. -/
namespace Go.Proofs.Ytikgiadbkjmabaa
open Go.RowKit
set_option linter.unusedSimpArgs false
set_option linter.unusedVariables false

def left (n:Nat) (listed:Array Bool):Nat:=((List.range n).filter fun i=>!listed.getD i false).length

theorem filter_less {p q:Nat → Bool} {i:Nat} (hpi:p i = true) (hqi:q i = false) (h:∀ j,j ≠ i → q j = p j):∀ {L:List Nat},L.Nodup → i ∈ L → (L.filter q).length + 1 = (L.filter p).length
  | [],_,hm=>by cases hm
  | x :: L,hn,hm=>by
    obtain ⟨h1,h2⟩:=List.nodup_cons.1 hn
    by_cases hx:x = i
    · subst hx
      have e:L.filter q = L.filter p:=List.filter_congr fun j hj=>h j (fun e=>h1 (e ▸ hj))
      simp [List.filter_cons,hpi,hqi,e]
    · have:=filter_less hpi hqi h h2 ((List.mem_cons.1 hm).resolve_left (Ne.symm hx))
      simp only [List.filter_cons,h x hx]
      split<;>(try simp only [List.length_cons])<;>omega

theorem left_set {n:Nat} {listed:Array Bool} {i:Nat} (hi:i < n) (hs:listed.size = n) (hun:listed.getD i false = false):left n (listed.setIfInBounds i true) + 1 = left n listed :=
  filter_less (i:=i) (by simp [hun]) (by simp [hs,hi]) (fun j hj=>by rw [getD_set_ne false (Ne.symm hj)]) List.nodup_range (List.mem_range.2 hi)

theorem getD_tf {listed:Array Bool} {i:Nat} (hi:i < listed.size):listed.getD i true = listed.getD i false:=by simp [hi]

def soList (N:Nat) (ops:List Oper):List Oper → Option (List SO)
  | []=>some []
  | o :: os=>match soOf N ops o,soList N ops os with
    | some s,some ss=>some (s :: ss)
    | _,_=>none

theorem soList_ok {N:Nat} {ops:List Oper}:∀ {os:List Oper} {ss:List SO},soList N ops os = some ss → All2 (SoOk N ops) os ss
  | [],ss,h=>by cases h;exact .nil
  | o :: os,ss,h=>by
    simp only [soList] at h
    split at h
    · rename_i h1 h2;cases h;exact .cons (soOf_ok h1) (soList_ok h2)
    · cases h

def opsAt (ops:List Oper) (is:List Nat):List Oper:=is.filterMap fun i=>ops[i]?

def drComp1 (fr:Bool) (N:Nat) (ops:List Oper):Option (Bool × List SO × List SO):=bif drOk fr ops then
    match soList N ops (opsAt ops (hdIx ops)),soList N ops (opsAt ops (tlUse fr ops)) with
    | some a,some b=>some (fr,a,b)
    | _,_=>none
  else none
def drComp (N:Nat) (ops:List Oper):Option (Bool × List SO × List SO):=match drComp1 false N ops with
  | some x=>some x
  | none=>drComp1 true N ops

section
variable {P:Program} {fr:Bool} {N B:Nat} {T0:List Nat} {C:List Nat} {S0:KS → Prop} {σ σ0 r:Sto} {l l0:Loc} {a0 aF:Fr} {act:Act} {u w0:World} {o:Oper} {e:Ent} {Q:Exit → Act → World → Prop} {ops:List Oper} {Z:List (Nat × Ent)} {listed:Array Bool} {f:Nat → AV}

theorem at_ops:∀ {is:List Nat},(∀ i ∈ is,i < ops.length) → At ops.toArray is (opsAt ops is)
  | [],_=>.nil
  | i :: is,h=>by
    have hi:=h i (by simp)
    have e:ops[i]? = some ops[i]:=List.getElem?_eq_getElem hi
    simp only [opsAt,List.filterMap_cons,e]
    exact .cons (by simp) (at_ops fun j hj=>h j (List.mem_cons_of_mem _ hj))

theorem zip_zo:∀ {is:List Nat} {es:List Ent},(∀ i ∈ is,i < ops.length) → All2 (SoOk N ops) (opsAt ops is) (es.map (·.so)) →
    is.length = es.length ∧ ∀ x ∈ is.zip es,∃ o,ops[x.1]? = some o ∧ x.1 ∈ is ∧ SoOk N ops o x.2.so
  | [],es,_,h=>by
    cases es with
    | nil=>exact ⟨rfl,fun x hx=>by simp at hx⟩
    | cons e es=>simp only [opsAt,List.filterMap_nil,List.map_cons] at h;cases h
  | i :: is,es,hlt,h=>by
    have hi:=hlt i (by simp)
    have eo:ops[i]? = some ops[i]:=List.getElem?_eq_getElem hi
    simp only [opsAt,List.filterMap_cons,eo] at h
    cases es with
    | nil=>simp only [List.map_nil] at h;cases h
    | cons e es =>
      simp only [List.map_cons] at h
      cases h with
      | cons h1 h2 =>
        obtain ⟨g1,g2⟩:=zip_zo (fun j hj=>hlt j (List.mem_cons_of_mem _ hj)) h2
        refine ⟨by simp [g1],fun x hx=>?_⟩
        rcases List.mem_cons.1 hx with rfl | hx
        · exact ⟨_,eo,by simp,h1⟩
        · obtain ⟨o,k1,k2,k3⟩:=g2 x hx
          exact ⟨o,k1,List.mem_cons_of_mem _ k2,k3⟩

theorem zip_so:∀ {is:List Nat} {es:List Ent},is.length = es.length → ∀ i ∈ is,∃ e,look2 (is.zip es) i = some e
  | [],_,_,i,hi=>by cases hi
  | j :: is,[],h,_,_=>by simp at h
  | j :: is,e :: es,h,i,hi=>by
    simp only [List.zip_cons_cons,look2]
    split
    · exact ⟨_,rfl⟩
    · rename_i hne
      exact zip_so (by simpa using h) i ((List.mem_cons.1 hi).resolve_left hne)

theorem zip_good (hd:DrOk fr ops):∀ {is:List Nat} {es:List Ent},is.Pairwise (· < ·) → is.length = es.length → (∀ x ∈ is.zip es,∃ o,ops[x.1]? = some o ∧ x.1 ∈ is ∧ SoOk N ops o x.2.so) → Good (is.zip es)
  | [],_,_,_,_=>by simp [Good]
  | j :: is,[],_,h,_=>by simp at h
  | j :: is,e :: es,hp,hl,hz=>by
    obtain ⟨p1,p2⟩:=List.pairwise_cons.1 hp
    have hz':∀ x ∈ is.zip es,∃ o,ops[x.1]? = some o ∧ x.1 ∈ is ∧ SoOk N ops o x.2.so:=fun x hx=>by
      obtain ⟨o,h1,h2,h3⟩:=hz x (List.mem_cons_of_mem _ hx)
      exact ⟨o,h1,(List.of_mem_zip (a:=x.1) (b:=x.2) hx).1,h3⟩
    refine List.pairwise_cons.2 ⟨fun y hy=>?_,zip_good hd p2 (by simpa using hl) hz'⟩
    obtain ⟨oy,y1,y2,y3⟩:=hz' y hy
    obtain ⟨oe,e1,e2,e3⟩:=hz (j,e) (by simp)
    have hlt:=p1 _ y2
    refine ⟨hlt,fun t ht hty=>?_⟩
    exact hd.once j y.1 oe oy t e1 y1 (by omega) (e3.dst.trans ht) (y3.dst.trans hty)

theorem range_filter_pairwise (n:Nat) (p:Nat → Bool):((List.range n).filter p).Pairwise (· < ·):=List.Pairwise.filter _ List.pairwise_lt_range

theorem LInv.next (hL:LInv ops listed) {i:Nat} (hr:i ∈ Region.ready .any ops.toArray listed) (ht:(isTail ops).getD i false = false):LInv ops (listed.setIfInBounds i true) :=
  ⟨Shut_set hL.shut hr,by simp [hL.size],fun j hj=>by
    rw [getD_set_ne false (by rintro rfl;rw [ht] at hj;cases hj)];exact hL.tl j hj⟩

theorem ready_get (hL:LInv ops listed) {i:Nat} (hr:i ∈ Region.ready .any ops.toArray listed):∃ o,ops[i]? = some o ∧ listed.getD i false = false ∧ ∀ e ∈ o.after,Region.binds .any e = true → listed.getD e.on false = true:=by
  obtain ⟨_,o,ho,hall⟩:=mem_ready.1 hr
  exact ⟨o,by simpa using ho,unlisted hr,hall⟩

theorem least_ready (hd:DrOk fr ops) (hL:LInv ops listed) (p:Nat → Bool) (hback:∀ (i:Nat) (o:Oper) (d:Nat),ops[i]? = some o → d ∈ depsOf o → p i = true → p d = true ∨ listed.getD d false = true) :
    ∀ i,i < ops.length → p i = true → listed.getD i false = false → ∃ j,j ∈ Region.ready .any ops.toArray listed ∧ p j = true:=by
  intro i
  induction i using Nat.strongRecOn with
  | _ i ih =>
    intro hi hp hun
    by_cases hall:∀ d ∈ depsOf ops[i],listed.getD d false = true
    · refine ⟨i,mem_ready.2 ⟨by rw [getD_tf (by rw [hL.size];exact hi)];exact hun,ops[i],by simp [hi],fun e he hb=>?_⟩,hp⟩
      refine hall e.on ?_
      simp only [depsOf,List.mem_filterMap]
      exact ⟨e,by simpa using he,by rw [hb];rfl⟩
    · simp only [Classical.not_forall] at hall
      obtain ⟨d,hdm,hdl⟩:=hall
      have ho:ops[i]? = some ops[i]:=List.getElem?_eq_getElem hi
      have hlt:=(hd.back i ops[i] d ho hdm).1
      have hun':listed.getD d false = false:=by simpa using hdl
      exact ih d hlt (by omega) ((hback i ops[i] d ho hdm hp).resolve_right hdl) hun'

theorem at_end (cx:Ctx P fr N B C σ0 l0 a0 ops Z aF) {nwF l1:Loc} (hob:(∀ p ep s o,look2 Z p = some ep → ep.so.dst = some s → ep.ob = some o → sto (nwF ++ l1) r (B + s) = o) ∧ (∀ n,(∀ p ep s o,look2 Z p = some ep → ep.so.dst = some s → ep.ob = some o → n ≠ B + s) → sto (nwF ++ l1) r n = σ0 n))
    (hfull:∀ p e,look2 Z p = some e → listed.getD p false = true) (hP:PInv N B T0 S0 l r w0 a0 σ0 Z listed act u) :
    ∀ K0,S0 K0 → ∃ K,Ext B T0 K0 (sto l r) w0 K (sto (nwF ++ l1) r) u ∧ Std N r K aF (nwF ++ l1) act u:=by
  obtain ⟨f,σ,hfs,hall⟩:=hP
  have hσ:σ = sto (nwF ++ l1) r:=by
    funext n
    by_cases hx:∃ p e s o,look2 Z p = some e ∧ e.so.dst = some s ∧ e.ob = some o ∧ n = B + s
    · obtain ⟨p,e,s,o,h1,h2,h3,rfl⟩:=hx
      rw [hfs.mkd p e s o h1 h2 h3 (hfull p e h1),hob.1 p e s o h1 h2 h3]
    · have hne:∀ p ep s o,look2 Z p = some ep → ep.so.dst = some s → ep.ob = some o → n ≠ B + s:=fun p e s o h1 h2 h3 h4=>hx ⟨p,e,s,o,h1,h2,h3,h4⟩
      rw [hfs.old n fun p e s o h1 h2 h3 h4=>absurd h4 (hne p e s o h1 h2 h3),hob.2 n hne]
  have hf:∀ t,f t = aF.get t:=fun t=>by
    by_cases hx:∃ p e,look2 Z p = some e ∧ e.so.dst = some t
    · obtain ⟨p,e,h1,h2⟩:=hx
      rw [hfs.wr p e t h1 h2 (hfull p e h1),cx.fa.fw t p e h1 h2]
    · rw [hfs.no t fun p e h1 h2=>absurd ⟨p,e,h1,h2⟩ hx,cx.fa.fn t fun p e h1 h2=>hx ⟨p,e,h1,h2⟩]
  intro K0 hK0
  obtain ⟨K,e1,d⟩:=hall K0 hK0
  subst hσ
  exact ⟨K,e1,d.rs,fun t=>by rw [← hf];exact d.rf t,d.sz,d.df⟩

theorem listed_full (hL:LInv ops listed) (hfull:∀ i,i < ops.length → (isTail ops).getD i false = false → listed.getD i false = true):listed = lst ops.length (hdIx ops):=by
  have hsz:(lst ops.length (hdIx ops)).size = ops.length:=by
    have:∀ (d:List Nat) (a:Array Bool),(d.foldl (fun l i=>l.setIfInBounds i true) a).size = a.size:=fun d=>by
      induction d with
      | nil=>intro a;rfl
      | cons x d ih=>intro a;simp [ih]
    unfold lst;rw [this];simp
  have hget:∀ (d:List Nat) (a:Array Bool) (j:Nat),j < a.size → (d.foldl (fun l i=>l.setIfInBounds i true) a).getD j false = (d.contains j || a.getD j false):=fun d=>by
    induction d with
    | nil=>intro a j hj;simp
    | cons x d ih =>
      intro a j hj
      rw [List.foldl_cons,ih _ _ (by simpa using hj)]
      by_cases hx:x = j
      · subst hx;simp [hj]
      · rw [getD_set_ne false hx];simp [List.contains_cons,Ne.symm hx]
  refine Array.ext (by rw [hL.size,hsz]) fun j h1 h2=>?_
  have hj:j < ops.length:=by rw [← hL.size];exact h1
  have a1:listed[j] = listed.getD j false:=by simp [h1]
  have a2:(lst ops.length (hdIx ops))[j] = (lst ops.length (hdIx ops)).getD j false:=by simp [h2]
  rw [a1,a2]
  unfold lst
  rw [hget _ _ _ (by simpa using hj)]
  have hc:(hdIx ops).contains j = !(isTail ops).getD j false:=by
    cases htj:(isTail ops).getD j false
    · simp only [List.contains_eq_mem,hdIx,List.mem_filter,List.mem_range,htj,Bool.not_false,and_true,hj,decide_true]
    · simp only [List.contains_eq_mem,hdIx,List.mem_filter,List.mem_range,htj,Bool.not_true,Bool.false_eq_true,and_false,decide_false]
  rw [hc]
  have hrep:(Array.replicate ops.length false).getD j false = false:=by
    simp only [Array.getD_eq_getD_getElem?,Array.getElem?_replicate];split<;>rfl
  rw [hrep,Bool.or_false]
  cases htj:(isTail ops).getD j false
  · rw [hfull j hj htj];rfl
  · rw [hL.tl j htj];rfl

theorem LetsOut.up {Q Q':Exit → Act → World → Prop} (hq:∀ e a w,Q e a w → Q' e a w) (h:LetsOut Q):LetsOut Q':=by
  obtain ⟨a,w,h⟩:=h;exact ⟨a,w,hq _ _ _ h⟩
theorem Oper.wp_monoQ {P:Program} {o:Oper} {a:Act} {w:World} {K K':Act → World → Prop} {Q Q':Exit → Act → World → Prop} (hk:∀ a w,K a w → K' a w) (hq:∀ e a w,Q e a w → Q' e a w) (h:o.wp P a w K Q):o.wp P a w K' Q':=by
  unfold Oper.wp at *
  generalize (execOp a.eval o).run P w = r at *
  cases r with
  | ok n w' =>
    cases n<;>simp only [Oper.upon] at h ⊢
    case value u=>exact hk _ _ h
    case skip=>exact hk _ _ h
    case defer d=>exact hk _ _ h
    case enter f args =>
      refine Calls.mono h fun e w'' he=>?_
      cases e with
      | returned u=>exact hk _ _ he
      | panicked c=>exact hq _ _ _ he
      | outgrown=>exact LetsOut.up hq he
    case row row args=>exact Rows.mono h fun u w'' he=>hk _ _ he
  | halt x w' =>
    cases x<;>simp only [Oper.upon] at h ⊢
    case panic u=>exact hq _ _ _ h
theorem wpOp_monoQ {P:Program} {ops:Array Oper} {i:Nat} {K K':Act → World → Prop} {Q Q':Exit → Act → World → Prop} {a:Act} {w:World} (hk:∀ a w,K a w → K' a w) (hq:∀ e a w,Q e a w → Q' e a w) (h:wpOp P ops Q i K a w):wpOp P ops Q' i K' a w:=by
  unfold wpOp at *
  split at h
  · exact hk _ _ h
  · split at h
    · rename_i hw
      rw [if_pos hw]
      exact h.imp (Oper.wp_monoQ hk hq) fun h=>⟨h.1,LetsOut.up hq h.2⟩
    · rename_i hw
      rw [if_neg hw];exact hk _ _ h
theorem wpAny_monoQ {P:Program} {ops:Array Oper} {md:Region.Mode} {Q Q':Exit → Act → World → Prop} (hq:∀ e a w,Q e a w → Q' e a w):∀ (fuel:Nat) (listed:Array Bool) (a:Act) (w:World),wpAny P md ops Q fuel listed a w → wpAny P md ops Q' fuel listed a w
  | 0,_,_,_,h=>⟨h.1,hq _ _ _ h.2⟩
  | fuel + 1,_,_,_,h=>⟨fun h0=>hq _ _ _ (h.1 h0),fun i hi=>wpOp_monoQ (fun a' w' h'=>wpAny_monoQ hq fuel _ a' w' h') hq (h.2 i hi)⟩
theorem wpAnyH_monoQ {P:Program} {ops:Array Oper} {md:Region.Mode} {S:World → Prop} {Q Q':Exit → Act → World → Prop} (hq:∀ e a w,Q e a w → Q' e a w):∀ (fuel:Nat) (listed:Array Bool) (a:Act) (w:World),wpAnyH P md ops Q S fuel listed a w → wpAnyH P md ops Q' S fuel listed a w
  | 0,_,_,_,h=>⟨h.1,hq _ _ _ h.2⟩
  | fuel + 1,_,_,_,h=>⟨fun h0=>hq _ _ _ (h.1 h0),fun i hi=>wpOp_monoQ (fun a' w' h'=>⟨h'.1,wpAnyH_monoQ hq fuel _ a' w' h'.2⟩) hq (h.2 i hi)⟩
theorem quiet_SE {P:Program} {B:Nat} {T0:List Nat} {r:Sto} {d:Option Nat} {k:Fr → Loc → Prop} {a:Fr} {l:Loc} {o:Oper} {s:SOp} (hq:quietK o = true) (hc:comp o.op = some s) (h:SE P B T0 r d k a l s):False:=by
  unfold quietK at hq
  rw [hc] at hq
  cases s with
  | bin op t x y=>cases op<;>first | exact absurd hq Bool.false_ne_true | exact h
  | _=>first | exact absurd hq Bool.false_ne_true | exact h
theorem quiet_step {P:Program} {N B:Nat} {T0:List Nat} {r:Sto} {S:KS → Prop} {a:Fr} {l:Loc} {act:Act} {w:World} {k:Fr → Loc → Prop} {o:Oper} {s:SO} {ss:List SO} {ops:List Oper} (hs:SoOk N ops o s) (hq:quietK o = true) (hS:∃ K,S K) (h:∀ K,S K → Std N r K a l act w) (hk:SWL P B T0 r (s :: ss) k a l) :
    ∃ y,((Region.wanted o (yielded ops.toArray act.tmps) = true ∧ (execOp act.eval o).run P w = .ok (.value y) w) ∨ (Region.wanted o (yielded ops.toArray act.tmps) = false ∧ y = undef)) ∧ PostF N B T0 r S l w (SWL P B T0 r ss k) (act.put o.dst y) w:=by
  unfold SWL at hk
  split at hk
  · rename_i hg
    have hwt:Region.wanted o (yielded ops.toArray act.tmps) = true:=by
      rcases hs.gd with ⟨h1,_⟩ | ⟨j,b,t,_,h2,_⟩
      · simp [Region.wanted,h1]
      · rw [hg] at h2;cases h2
    unfold SO1 at hk
    split at hk
    · rename_i q v he
      obtain ⟨hq1,hK⟩:=hk
      obtain ⟨y,h1,h2⟩:=aev_okF hS h hs.op he hq1
      exact ⟨y,.inl ⟨hwt,h1⟩,PostF.here (a:=putO o.dst v a) (fun K hKS=>(h K hKS).put hs.lt (h2 K hKS)) (by rw [hs.dst];exact hK)⟩
    · exact (quiet_SE hq hs.op hk).elim
  · rename_i t b hg
    unfold SOg at hk
    split at hk
    · rename_i p c hv
      obtain ⟨K0,hK0⟩:=hS
      have hw:=wanted_guard hs (h K0 hK0) hg hv
      have skip:∀ v,¬ (p ∧ c = b) → SWL P B T0 r ss k (putO s.dst (.gd (p ∧ c = b) v) a) l → PostF N B T0 r S l w (SWL P B T0 r ss k) (act.put o.dst undef) w:=fun v hG hK =>
        PostF.here (a:=putO o.dst (.gd (p ∧ c = b) v) a) (fun K hKS=>(h K hKS).put hs.lt (.gd (fun hn=>absurd hn hG) (fun _=>rfl))) (by rw [hs.dst];exact hK)
      have nw:¬ (p ∧ c = b) → Region.wanted o (yielded ops.toArray act.tmps) = false:=fun hG=>by
        cases hwt:Region.wanted o (yielded ops.toArray act.tmps) with
        | false=>rfl
        | true=>exact absurd (hw.1 hwt) hG
      by_cases hcb:c = b
      case neg =>
        rw [if_neg hcb] at hk
        have hG:¬ (p ∧ c = b):=fun h=>hcb h.2
        exact ⟨undef,.inr ⟨nw hG,rfl⟩,skip _ hG hk⟩
      rw [if_pos hcb] at hk
      by_cases hG:p ∧ c = b
      · split at hk
        · rename_i q v he
          obtain ⟨hq1,hK⟩:=hk
          obtain ⟨y,h1,h2⟩:=aev_okF ⟨K0,hK0⟩ h hs.op he (hq1 hG)
          exact ⟨y,.inl ⟨hw.2 hG,h1⟩,PostF.here (a:=putO o.dst (.gd (p ∧ c = b) v) a) (fun K hKS=>(h K hKS).put hs.lt (.gd (fun _=>h2 K hKS) (fun hn=>absurd hG hn))) (by rw [hs.dst];exact hK)⟩
        · rcases hk with ⟨v,h1,_⟩ | ⟨_,h1⟩
          · exact (quiet_SE hq hs.op (h1 hG)).elim
          · exact (quiet_SE hq hs.op h1).elim
      · split at hk
        · rename_i q v he
          exact ⟨undef,.inr ⟨nw hG,rfl⟩,skip v hG hk.2⟩
        · rcases hk with ⟨v,_,hK⟩ | ⟨h1,_⟩
          · exact ⟨undef,.inr ⟨nw hG,rfl⟩,skip v hG hK⟩
          · exact absurd h1 hG
    · exact hk.elim
theorem move_any {P:Program} {o:Oper} {ρ:Operand → Value} {y:Value} {w:World} (hm:moveK o = true) (h:(execOp ρ o).run P w = .ok (.value y) w) (w':World):(execOp ρ o).run P w' = .ok (.value y) w':=by
  unfold moveK at hm
  split at hm
  · rename_i x ho
    simp only [execOp,ho,Sem.run_pure,Result.ok.injEq,Next.value.injEq,and_true] at h ⊢
    exact h
  · rename_i x ho
    simp only [execOp,ho,Sem.run_pure,Result.ok.injEq,Next.value.injEq,and_true] at h ⊢
    exact h
  · cases hm
section
variable {P:Program} {N B:Nat} {T0:List Nat} {r:Sto} {ops:List Oper}
theorem SWL_quiet (hB:ClosedS B r) (hsel:Region.noSelect ops.toArray = true) {is:List Nat} {os:List Oper} (hat:At ops.toArray is os):∀ {ss:List SO},All2 (SoOk N ops) os ss → ∀ {S:KS → Prop} {a:Fr} {l:Loc} {act:Act} {w:World} {k:Fr → Loc → Prop} {listed:Array Bool},(∃ K,S K) → (∀ K,S K → Std N r K a l act w) → quietT ops.toArray listed is = true → SWL P B T0 r ss k a l → wpAnyH P .any ops.toArray (NPost N B T0 r S l w k) (fun u=>u = w) is.length listed act w:=by
  induction hat with
  | nil =>
    intro ss h2 S a l act w k listed hS h hc hk
    cases h2
    exact wpAnyH_done (by simpa [quietT] using hc) ⟨rfl,PostF.here h hk⟩ _
  | @cons i o is os hi hat ih =>
    intro ss h2 S a l act w k listed hS h hc hk
    cases h2 with
    | cons hs h2 =>
    simp only [quietT,Bool.and_eq_true] at hc
    obtain ⟨c1,c2,c3,c4⟩:=hc
    have hq:quietK o = true:=by unfold atK at c1;rw [hi] at c1;exact c1
    obtain ⟨y,hy,hP⟩:=quiet_step hs hq hS h hk
    obtain ⟨a1,l1,hk1,hS1,h1,hgo⟩:=hP.go hS
    refine wpAnyH_first (v:=y) hi (Region.noSelect_spec hsel) (fun c a w hq=>by cases hq.1) _ listed act w (Region.free_spec hi c3) (by simpa using c2) ?_ rfl ?_
    · rcases hy with ⟨h1,h2⟩ | h1
      · exact .inl ⟨h1,fun w' e=>by subst e;exact h2⟩
      · exact .inr h1
    · exact wpAnyH_monoQ (fun e a w ⟨g1,g2⟩=>⟨g1,hgo g2⟩) _ _ _ _ (ih h2 hS1 h1 c4 hk1)
theorem SWL_any (hB:ClosedS B r) (hsel:Region.noSelect ops.toArray = true) {is:List Nat} {os:List Oper} (hat:At ops.toArray is os):∀ {ss:List SO},All2 (SoOk N ops) os ss → ∀ {S:KS → Prop} {a:Fr} {l:Loc} {act:Act} {w:World} {k:Fr → Loc → Prop} {listed:Array Bool},(∃ K,S K) → (∀ K,S K → Std N r K a l act w) → chainT ops.toArray listed is = true → SWL P B T0 r ss k a l → wpAny P .any ops.toArray (NPost N B T0 r S l w k) is.length listed act w:=by
  induction hat with
  | nil =>
    intro ss h2 S a l act w k listed hS h hc hk
    cases h2
    exact wpAny_done (by simpa [chainT] using hc) ⟨rfl,PostF.here h hk⟩ _
  | @cons i o is os hi hat ih =>
    intro ss h2 S a l act w k listed hS h hc hk
    have h2':=h2
    cases h2 with
    | @cons _ s _ ss hs h2 =>
    simp only [chainT,Bool.or_eq_true] at hc
    rcases hc with hc | hc | hc
    · simp only [Bool.and_eq_true,beq_iff_eq] at hc
      have next:∀ act' w',PostF N B T0 r S l w (SWL P B T0 r ss k) act' w' → wpAny P .any ops.toArray (NPost N B T0 r S l w k) is.length (listed.setIfInBounds i true) act' w':=fun act' w' hP=>by
        obtain ⟨a1,l1,hk1,hS1,h1,hgo⟩:=hP.go hS
        exact wpAny_monoQ (fun e a w ⟨g1,g2⟩=>⟨g1,hgo g2⟩) _ _ _ _ (ih h2 hS1 h1 hc.2 hk1)
      refine wpAny_all hc.1 (by simp) fun j hj=>?_
      have hj:j = i:=by simpa using hj
      subst hj
      unfold wpOp
      simp only [hi]
      unfold SWL at hk
      split at hk
      · rename_i hg
        have hwt:Region.wanted o (yielded ops.toArray act.tmps) = true:=by
          rcases hs.gd with ⟨h1,_⟩ | ⟨j,b,t,_,h2,_⟩
          · simp [Region.wanted,h1]
          · rw [hg] at h2;cases h2
        rw [if_pos hwt]
        exact .inl (wp_next (SO1_ok hB hs hS h hk) next)
      · rename_i t b hg
        have:=SOg_ok (Q:=NPost N B T0 r S l w k) hB hs hS h hg hk
        split
        · rename_i hwt
          rw [if_pos hwt] at this
          exact .inl (wp_next this next)
        · rename_i hwt
          rw [if_neg hwt] at this
          exact next _ _ this
    · simp only [Bool.and_eq_true] at hc
      obtain ⟨c1,c5,c2,c3,c4⟩:=hc
      have hq:quietK o = true:=by unfold atK at c1;rw [hi] at c1;exact c1
      have hm:moveK o = true:=by unfold atK at c5;rw [hi] at c5;exact c5
      obtain ⟨y,hy,hP⟩:=quiet_step hs hq hS h hk
      obtain ⟨a1,l1,hk1,hS1,h1,hgo⟩:=hP.go hS
      refine wpAny_first (v:=y) hi (Region.noSelect_spec hsel) (fun c a w hq=>by cases hq.1) _ listed act w (Region.free_spec hi c3) (by simpa using c2) ?_ ?_
      · rcases hy with ⟨h1,h2⟩ | h1
        · exact .inl ⟨h1,move_any hm h2⟩
        · exact .inr h1
      · exact wpAny_monoQ (fun e a w ⟨g1,g2⟩=>⟨g1,hgo g2⟩) _ _ _ _ (ih h2 hS1 h1 c4 hk1)
    · exact wpAny_of_held _ _ _ _ (SWL_quiet hB hsel (.cons hi hat) h2' hS h hc hk)
end
theorem plain_any (hfr:fr = false) (cx:Ctx P fr N B C σ0 l0 a0 ops Z aF) (hS0:∃ K,S0 K) (hQp:∀ c a w,¬ Q (.panic c) a w) (hQe:∀ act u,PInv N B T0 S0 l r w0 a0 σ0 Z (lst ops.length (hdIx ops)) act u → wpAny P .any ops.toArray Q (tlIx ops).length (lst ops.length (hdIx ops)) act u) :
    ∀ (k:Nat) (listed:Array Bool) (act:Act) (u:World),LInv ops listed → PInv N B T0 S0 l r w0 a0 σ0 Z listed act u → (∀ i o,ops[i]? = some o → (isTail ops).getD i false = false → plainK o = false → listed.getD i false = true) →
      left ops.length listed = k + (tlIx ops).length → wpAny P .any ops.toArray Q (k + (tlIx ops).length) listed act u:=by
  intro k
  induction k with
  | zero =>
    intro listed act u hL hP hpl hk
    have hfull:∀ i,i < ops.length → (isTail ops).getD i false = false → listed.getD i false = true:=fun i hi ht=>by
      cases hun:listed.getD i false with
      | true=>rfl
      | false =>
        exfalso
        have h1:left ops.length (listed.setIfInBounds i true) + 1 = left ops.length listed:=left_set hi hL.size hun
        have h2:(tlIx ops).length ≤ left ops.length (listed.setIfInBounds i true):=by
          unfold tlIx left
          rw [← List.countP_eq_length_filter,← List.countP_eq_length_filter]
          refine List.countP_mono_left fun j hj htj=>?_
          have hne:i ≠ j:=by rintro rfl;rw [ht] at htj;cases htj
          rw [getD_set_ne false hne,hL.tl j htj];rfl
        omega
    have e:=listed_full hL hfull
    rw [Nat.zero_add]
    subst e
    exact hQe act u hP
  | succ k ih =>
    intro listed act u hL hP hpl hk
    -- one of the head is left
    have hex:∃ i,i < ops.length ∧ (isTail ops).getD i false = false ∧ listed.getD i false = false:=by
      refine Classical.byContradiction fun hn=>?_
      have:left ops.length listed ≤ (tlIx ops).length:=by
        unfold tlIx left
        rw [← List.countP_eq_length_filter,← List.countP_eq_length_filter]
        refine List.countP_mono_left fun j hj hjl=>?_
        cases htj:(isTail ops).getD j false with
        | true=>rfl
        | false=>exact absurd ⟨j,List.mem_range.1 hj,htj,by simpa using hjl⟩ hn
      omega
    obtain ⟨i0,hi0,ht0,hu0⟩:=hex
    obtain ⟨i,hr,hti⟩:=least_ready cx.dr hL (fun i=>!(isTail ops).getD i false) (fun i o d ho hdm hp=>by
      simp only [Bool.not_eq_true'] at hp ⊢
      exact .inl ((cx.dr.back i o d ho hdm).2 hp)) i0 hi0 (by simp only [ht0,Bool.not_false]) hu0
    simp only [Bool.not_eq_true'] at hti
    obtain ⟨o,hi,hun,hdeps⟩:=ready_get hL hr
    obtain ⟨e,he⟩:=cx.so i o hi hti
    obtain ⟨a1,a2⟩:=at_head (Q:=Q) cx hL hS0 hP hi he hun hdeps
    have hplain:plainK o = true:=by
      cases hp:plainK o with
      | true=>rfl
      | false=>rw [hpl i o hi hti hp] at hun;cases hun
    have hfree:∀ j oj,ops.toArray[j]? = some oj → j ≠ i → listed.getD j true = false → (∀ e ∈ oj.after,Region.binds .any e = true → e.on ≠ i) → o.apart ops.toArray oj = true:=fun j oj hj hne hjl hno=>by
      have hj':ops[j]? = some oj:=by simpa using hj
      rcases cx.dr.plain i j o oj hi hj' hti (by simp only [freeK];rw [show plainOp o.op = true from hplain];rfl) hne with h1 | ⟨e,h1,h2,h3⟩ | h1
      · have:=anc_listed hL.shut h1 (fun o' ho' e he hb=>by rw [hi] at ho';cases ho';exact hdeps e he hb)
        rw [getD_tf (by rw [hL.size];exact lt_of_get hj'),this] at hjl;cases hjl
      · exact absurd h3 (hno e h1 h2)
      · exact h1
    have hcount:=left_set (lt_of_get hi) hL.size hun
    have hpl':∀ j oj,ops[j]? = some oj → (isTail ops).getD j false = false → plainK oj = false → (listed.setIfInBounds i true).getD j false = true:=fun j oj h1 h2 h3=>getD_set_true (hpl j oj h1 h2 h3)
    have fin:∀ y,PInv N B T0 S0 l r w0 a0 σ0 Z (listed.setIfInBounds i true) (act.put o.dst y) u → wpAny P .any ops.toArray Q (k + (tlIx ops).length) (listed.setIfInBounds i true) (act.put o.dst y) u:=fun y hP' =>
      ih _ _ _ (hL.next hr hti) hP' hpl' (by omega)
    have e:k + 1 + (tlIx ops).length = (k + (tlIx ops).length) + 1:=by omega
    rw [e]
    have hi2:ops.toArray[i]? = some o:=by simpa using hi
    cases hw:Region.wanted o (yielded ops.toArray act.tmps) with
    | true =>
      obtain ⟨b1,b2⟩:=a1 hw
      obtain ⟨y,hy⟩:=b2 hplain
      refine wpAny_first (v:=y) hi2 (Region.noSelect_spec cx.dr.nosel) (fun c a w h=>absurd h (hQp c _ w)) _ _ _ _ hfree hr (.inl ⟨hw,hy⟩) (fin y ?_)
      unfold Oper.wp at b1
      rw [hy u] at b1
      exact b1
    | false=>exact wpAny_first (v:=undef) hi2 (Region.noSelect_spec cx.dr.nosel) (fun c a w h=>absurd h (hQp c _ w)) _ _ _ _ hfree hr (.inr ⟨hw,rfl⟩) (fin undef (a2 hw))


def wpListS (P:Program) (ops:Array Oper) (Q:Exit → Act → World → Prop) (Sw:World → Prop):List Oper → Act → World → Prop
  | [],a,w=>Q .normal a w
  | o :: rest,a,w=>o.wp P a w (fun a' w'=>Sw w' ∧ wpListS P ops Q Sw rest a' w') Q

theorem wpListS_mono {ops':Array Oper} {Sw:World → Prop} {Q':Exit → Act → World → Prop} (hq:∀ e a w,Q e a w → Q' e a w):∀ (rest:List Oper) (act:Act) (w:World),wpListS P ops' Q Sw rest act w → wpListS P ops' Q' Sw rest act w
  | [],act,w,h=>hq _ _ _ h
  | o :: rest,act,w,h=>by
    unfold wpListS at *
    unfold Oper.wp Oper.upon at *
    split at h<;>simp_all
    · exact wpListS_mono hq rest _ _ h.2
    · exact wpListS_mono hq rest _ _ h.2
    · exact wpListS_mono hq rest _ _ h.2
    · refine h.mono fun e w' he=>?_
      cases e
      · exact ⟨he.1,wpListS_mono hq rest _ _ he.2⟩
      · exact hq _ _ _ he
      · obtain ⟨a,w,h2⟩:=he;exact ⟨a,w,hq _ _ _ h2⟩
    · exact h.mono fun v w' he=>⟨he.1,wpListS_mono hq rest _ _ he.2⟩

theorem chain_anyH {ops':Array Oper} {Sw:World → Prop} {is:List Nat} {os:List Oper} (hat:At ops' is os):(∀ o ∈ os,o.guard = none) → ∀ {listed:Array Bool} {a:Act} {w:World},chainB ops' listed is = true → wpListS P ops' Q Sw os a w → wpAnyH P .any ops' Q Sw is.length listed a w:=by
  induction hat with
  | nil =>
    intro _ listed a w hc h
    exact wpAnyH_done (by simpa [chainB] using hc) h _
  | @cons i o is os hi hat ih =>
    intro hgd listed a w hc h
    simp only [chainB,Bool.and_eq_true,beq_iff_eq] at hc
    refine wpAnyH_all hc.1 (by simp) fun j hj=>?_
    have hj:j = i:=by simpa using hj
    subst hj
    unfold wpOp
    simp only [hi]
    have hw:Region.wanted o (yielded ops' a.tmps) = true:=by simp [Region.wanted,hgd o (by simp)]
    rw [if_pos hw]
    unfold wpListS at h
    exact .inl (Oper.wp_mono (fun a w hk=>⟨hk.1,ih (fun o ho=>hgd o (List.mem_cons_of_mem _ ho)) hc.2 hk.2⟩) h)

def Held (NR:List Nat) (K1:KS) (u0:World) (Lv:Nat → Prop) (w:World):Prop:=(∀ n ∈ NR,Lv n → w.heap[K1.blk n]? = u0.heap[K1.blk n]?) ∧ ∀ b,K1.I b → w.heap[b]? = u0.heap[b]?

theorem SWLn_ok {NR:List Nat} {K1:KS} {u0:World} {Lv:Nat → Prop} {k:Fr → Loc → Prop}:∀ {rest:List Oper} {ss:List SO},All2 (SoOk N ops) rest ss → ∀ {S:KS → Prop} {a:Fr} {l:Loc} {act:Act} {w:World},S K1 → (∀ K,S K → Std N r K a l act w) → (∀ n ∈ NR,Lv n → (sto l r n).live K1 n) → Held NR K1 u0 Lv w →
    SWLn P r NR ss k a l → wpListS P ops.toArray (NPost N B T0 r S l w k) (Held NR K1 u0 Lv) rest act w
  | [],_,h2,S,a,l,act,w,hK1,h,hlv,hh,hk=>by
    cases h2
    exact ⟨rfl,PostF.here h hk⟩
  | o :: rest,_,h2,S,a,l,act,w,hK1,h,hlv,hh,hk=>by
    cases h2 with
    | cons hs h2 =>
    rename_i s ss
    unfold SWLn at hk
    unfold wpListS
    split at hk
    · rename_i hg
      split at hk
      · rename_i q v he
        obtain ⟨y,h1,h3⟩:=aev_okF ⟨K1,hK1⟩ h hs.op he hk.1
        refine wp_of_value h1 ⟨hh,SWLn_ok h2 hK1 (fun K hK=>(h K hK).put hs.lt (h3 K hK)) hlv hh ?_⟩
        rw [hs.dst];exact hk.2
      · split at hk
        · rename_i t p x hsop
          obtain ⟨hn,hst⟩:=hk
          have hsE:SE P B T0 r o.dst (SWLn P r NR ss k) a l (.store t p x):=by simp only [SE];rw [hs.dst];exact hst
          obtain ⟨A,L,hkA,hsA⟩:=SE_split rfl hsE
          simp only [SE] at hsA
          have ho:o.op = .store t p x:=by
            have:=hs.op
            rw [hsop] at this
            cases ho:o.op<;>rw [ho] at this<;>simp only [comp,Option.some.injEq] at this<;>(try (cases this;try rfl))
            all_goals (split at this<;>cases this)
          have each:∀ K,S K → ∃ n,avName (opd a p).2 = some n ∧ o.wp P act w (PostW N B T0 r K l w n (fun a' l'=>a' = A ∧ l' = L)) (fun _ _ _=>False):=fun K hK=>store_okW (h K hK) ho (hs.st t p x ho) hsA
          obtain ⟨n,hname,hw1⟩:=each K1 hK1
          rw [hname] at hn
          have conv:∀ act' w',(∀ K,S K → PostW N B T0 r K l w n (fun a' l'=>a' = A ∧ l' = L) act' w') → Held NR K1 u0 Lv w' ∧ wpListS P ops.toArray (NPost N B T0 r S l w k) (Held NR K1 u0 Lv) rest act' w':=fun act' w' hall=>by
            have hK:∀ K,S K → Ext B T0 K (sto l r) w K (sto L r) w' ∧ Std N r K A L act' w':=fun K hKS=>by
              obtain ⟨a',l',e1,e2,⟨rfl,rfl⟩,_⟩:=hall K hKS
              exact ⟨e1,e2⟩
            obtain ⟨a',l',e1,e2,⟨rfl,rfl⟩,e3,e4,e5⟩:=hall K1 hK1
            have hh':Held NR K1 u0 Lv w':=⟨fun m hm hL=>by
              rw [e4 _ fun e=>?_]
              · exact hh.1 m hm hL
              · have:=(h K1 hK1).rs.inj m n (hlv m hm hL) e3 e
                subst this
                have:NR.contains m = true:=by simpa using hm
                exact Bool.noConfusion (hn.symm.trans this),fun b hb=>by
              rw [e4 b fun e=>((h K1 hK1).rs.obj n |>.lt e3).2 (e ▸ hb)]
              exact hh.2 b hb⟩
            refine ⟨hh',?_⟩
            have:=SWLn_ok h2 hK1 (fun K hKS=>(hK K hKS).2) (fun m hm hL=>e5 m (hlv m hm hL)) hh' hkA
            refine wpListS_mono (fun e a w ⟨g1,g2⟩=>⟨g1,?_⟩) _ _ _ this
            obtain ⟨a2,l2,q1,q2⟩:=g2
            refine ⟨a2,l2,q1,fun K hKS=>?_⟩
            obtain ⟨K',f1,f2⟩:=q2 K hKS
            exact ⟨K',(hK K hKS).1.trans f1,f2⟩
          have each':∀ K,S K → o.wp P act w (PostW N B T0 r K l w n (fun a' l'=>a' = A ∧ l' = L)) (fun _ _ _=>False):=fun K hK=>by
            obtain ⟨m,hm,hw⟩:=each K hK
            rw [hname] at hm;cases hm;exact hw
          unfold Oper.wp at each' ⊢
          cases hr:(execOp act.eval o).run P w with
          | ok nx w' =>
            rw [hr] at each'
            rcases noenter hs.op (by rw [hsop];rfl) hr with ⟨v,rfl⟩ | rfl
            · exact conv _ _ each'
            · exact conv _ _ each'
          | halt x w' =>
            rw [hr] at each'
            have:=each' K1 hK1
            cases x<;>exact this.elim
        · exact hk.elim
    · exact hk.elim

theorem free_any (hfr:fr = true) (cx:Ctx P fr N B C σ0 l0 a0 ops Z aF) {F:KS → Prop} {K1:KS} {NR:List Nat} {Lv:Nat → Prop} (hK1:F K1) (hsame:∀ n,σ0 n = σ n ∨ σ0 n = .dead) (hNR:∀ i e t x n,look2 Z i = some e → e.so.op = .load t x → avName (opd e.fr x).2 = some n → n ∈ NR) (hLv:∀ n,(σ0 n).live K1 n → Lv n)
    (hQp:∀ c a w,¬ Q (.panic c) a w) (hQe:∀ act f,FS B a0 σ0 Z (lst ops.length (hdIx ops)) f σ → (∀ K,F K → StD N K f σ act u) → wpListS P ops.toArray Q (Held NR K1 u Lv) (opsAt ops (tlIx ops)) act u) :
    ∀ (k:Nat) (listed:Array Bool) (act:Act) (f:Nat → AV),LInv ops listed → FS B a0 σ0 Z listed f σ → (∀ K,F K → StD N K f σ act u) → (∀ i o,ops[i]? = some o → (isTail ops).getD i false = false → freeK true o = false → listed.getD i false = true) →
      left ops.length listed = k + (tlIx ops).length → wpAnyH P .any ops.toArray Q (Held NR K1 u Lv) (k + (tlIx ops).length) listed act u:=by
  intro k
  induction k with
  | zero =>
    intro listed act f hL hfs hstd hpl hk
    have hfull:∀ i,i < ops.length → (isTail ops).getD i false = false → listed.getD i false = true:=fun i hi ht=>by
      cases hun:listed.getD i false with
      | true=>rfl
      | false =>
        exfalso
        have h1:left ops.length (listed.setIfInBounds i true) + 1 = left ops.length listed:=left_set hi hL.size hun
        have h2:(tlIx ops).length ≤ left ops.length (listed.setIfInBounds i true):=by
          unfold tlIx left
          rw [← List.countP_eq_length_filter,← List.countP_eq_length_filter]
          refine List.countP_mono_left fun j hj htj=>?_
          have hne:i ≠ j:=by rintro rfl;rw [ht] at htj;cases htj
          rw [getD_set_ne false hne,hL.tl j htj];rfl
        omega
    have e:=listed_full hL hfull
    rw [Nat.zero_add]
    subst e
    refine chain_anyH (at_ops (fun i hi=>List.mem_range.1 (List.mem_filter.1 hi).1)) (fun o ho=>?_) ?_ (hQe act f hfs hstd)
    · simp only [opsAt,List.mem_filterMap] at ho
      obtain ⟨e,he,hoe⟩:=ho
      exact cx.dr.bare e o hfr hoe (List.mem_filter.1 he).2
    · exact cx.dr.chain hfr
  | succ k ih =>
    intro listed act f hL hfs hstd hpl hk
    have hex:∃ i,i < ops.length ∧ (isTail ops).getD i false = false ∧ listed.getD i false = false:=by
      refine Classical.byContradiction fun hn=>?_
      have:left ops.length listed ≤ (tlIx ops).length:=by
        unfold tlIx left
        rw [← List.countP_eq_length_filter,← List.countP_eq_length_filter]
        refine List.countP_mono_left fun j hj hjl=>?_
        cases htj:(isTail ops).getD j false with
        | true=>rfl
        | false=>exact absurd ⟨j,List.mem_range.1 hj,htj,by simpa using hjl⟩ hn
      omega
    obtain ⟨i0,hi0,ht0,hu0⟩:=hex
    obtain ⟨i,hr,hti⟩:=least_ready cx.dr hL (fun i=>!(isTail ops).getD i false) (fun i o d ho hdm hp=>by
      simp only [Bool.not_eq_true'] at hp ⊢
      exact .inl ((cx.dr.back i o d ho hdm).2 hp)) i0 hi0 (by simp only [ht0,Bool.not_false]) hu0
    simp only [Bool.not_eq_true'] at hti
    obtain ⟨o,hi,hun,hdeps⟩:=ready_get hL hr
    obtain ⟨e,he⟩:=cx.so i o hi hti
    have hfree1:freeK true o = true:=by
      cases hp:freeK true o with
      | true=>rfl
      | false=>rw [hpl i o hi hti hp] at hun;cases hun
    have hfree:∀ j oj,ops.toArray[j]? = some oj → j ≠ i → listed.getD j true = false → (∀ e ∈ oj.after,Region.binds .any e = true → e.on ≠ i) → o.apart ops.toArray oj = true:=fun j oj hj hne hjl hno=>by
      have hj':ops[j]? = some oj:=by simpa using hj
      rcases cx.dr.plain i j o oj hi hj' hti (by rw [hfr];exact hfree1) hne with h1 | ⟨e,h1,h2,h3⟩ | h1
      · have:=anc_listed hL.shut h1 (fun o' ho' e he hb=>by rw [hi] at ho';cases ho';exact hdeps e he hb)
        rw [getD_tf (by rw [hL.size];exact lt_of_get hj'),this] at hjl;cases hjl
      · exact absurd h3 (hno e h1 h2)
      · exact h1
    have hcount:=left_set (lt_of_get hi) hL.size hun
    have hpl':∀ j oj,ops[j]? = some oj → (isTail ops).getD j false = false → freeK true oj = false → (listed.setIfInBounds i true).getD j false = true:=fun j oj h1 h2 h3=>getD_set_true (hpl j oj h1 h2 h3)
    have hso:SoOk N ops o e.so:=by
      obtain ⟨o',g1,_,g3⟩:=cx.zo i e he
      rw [hi] at g1;cases g1;exact g3
    obtain ⟨_,_,hob⟩:=at_val cx hL hfs (hstd K1 hK1) hi he hun hdeps hfree1
    have fin:∀ y,(∀ K,F K → Rep K u e.val y) → wpAnyH P .any ops.toArray Q (Held NR K1 u Lv) (k + (tlIx ops).length) (listed.setIfInBounds i true) (act.put o.dst y) u:=fun y hy=>by
      have hfs':=hfs.next cx hi he hL.size
      rw [hob] at hfs'
      have hmade:made B e.so.dst none σ = σ:=by unfold made;split<;>simp_all
      rw [hmade] at hfs'
      refine ih _ _ _ (hL.next hr hti) hfs' (fun K hK=>?_) hpl' (by omega)
      have d:=hstd K hK
      refine ⟨d.rs,fun t=>?_,by cases o.dst<;>simp [Act.put,d.sz],by cases o.dst<;>simp [Act.put,d.df]⟩
      rw [put_getD _ _ _ _ (fun t ht=>by rw [d.sz];exact hso.lt t ht),hso.dst]
      by_cases ht:e.so.dst = some t
      · rw [if_pos ht,if_pos ht];exact hy K hK
      · rw [if_neg ht,if_neg ht];exact d.rf t
    have hheld:Held NR K1 u Lv u:=⟨fun _ _ _=>rfl,fun _ _=>rfl⟩
    have e1:k + 1 + (tlIx ops).length = (k + (tlIx ops).length) + 1:=by omega
    rw [e1]
    have hi2:ops.toArray[i]? = some o:=by simpa using hi
    cases hw:Region.wanted o (yielded ops.toArray act.tmps) with
    | true =>
      obtain ⟨y,hy1,hy2⟩:=(at_val cx hL hfs (hstd K1 hK1) hi he hun hdeps hfree1).1 hw
      have hall:∀ w',Held NR K1 u Lv w' → (execOp act.eval o).run P w' = .ok (.value y) w':=fun w' hw'=>by
        rcases hy2 with h1 | ⟨t,x,b,ho,⟨hb,hlb⟩,h1⟩
        · exact h1 w'
        · refine h1 w' ?_
          have hopE:e.so.op = .load t x:=by
            have:=hso.op
            rw [ho] at this
            simp only [comp,Option.some.injEq] at this
            exact this.symm
          cases hav:(opd e.fr x).2<;>rw [hav] at hb<;>simp only [atBlk] at hb
          case lp n off=>subst hb;exact hw'.1 n (hNR i e t x n he hopE (by rw [hav];rfl)) (hLv n (hlb n (by rw [hav];rfl)))
          case ap n _ _ _=>subst hb;exact hw'.1 n (hNR i e t x n he hopE (by rw [hav];rfl)) (hLv n (hlb n (by rw [hav];rfl)))
          all_goals exact hw'.2 b hb
      refine wpAnyH_first (v:=y) hi2 (Region.noSelect_spec cx.dr.nosel) (fun c a w h=>absurd h (hQp c _ w)) _ _ _ _ hfree hr (.inl ⟨hw,hall⟩) hheld (fin y fun K hK=>?_)
      obtain ⟨y',g1,g2⟩:=(at_val cx hL hfs (hstd K hK) hi he hun hdeps hfree1).1 hw
      have r1:=hall u hheld
      have r2:(execOp act.eval o).run P u = .ok (.value y') u:=by
        rcases g2 with h1 | ⟨t,x,b,ho,hb,h1⟩
        · exact h1 u
        · exact h1 u rfl
      rw [r1] at r2
      cases r2
      exact g1
    | false=>exact wpAnyH_first (v:=undef) hi2 (Region.noSelect_spec cx.dr.nosel) (fun c a w h=>absurd h (hQp c _ w)) _ _ _ _ hfree hr (.inr ⟨hw,rfl⟩) hheld (fin undef fun K hK=>(at_val cx hL hfs (hstd K hK) hi he hun hdeps hfree1).2.1 hw)

theorem head_any (cx:Ctx P fr N B C σ0 l0 a0 ops Z aF) (hS0:∃ K,S0 K)
    (hFin:∀ (n:Nat) (listed:Array Bool) (act:Act) (u:World),LInv ops listed → PInv N B T0 S0 l r w0 a0 σ0 Z listed act u → (∀ i o,ops[i]? = some o → (isTail ops).getD i false = false → freeK fr o = false → listed.getD i false = true) → left ops.length listed = n → wpAny P .any ops.toArray Q n listed act u) :
    ∀ (n:Nat) (listed:Array Bool) (act:Act) (u:World),LInv ops listed → PInv N B T0 S0 l r w0 a0 σ0 Z listed act u → left ops.length listed = n → wpAny P .any ops.toArray Q n listed act u:=by
  intro n
  induction n with
  | zero =>
    intro listed act u hL hP hn
    refine hFin 0 listed act u hL hP (fun i o hi ht hp=>?_) hn
    cases hun:listed.getD i false with
    | true=>rfl
    | false=>have:=left_set (lt_of_get hi) hL.size hun;omega
  | succ n ih =>
    intro listed act u hL hP hn
    by_cases hpl:∀ i o,ops[i]? = some o → (isTail ops).getD i false = false → freeK fr o = false → listed.getD i false = true
    · exact hFin _ listed act u hL hP hpl hn
    · simp only [Classical.not_forall] at hpl
      obtain ⟨i0,o0,hi0,ht0,hp0,hl0⟩:=hpl
      have hl0':listed.getD i0 false = false:=by simpa using hl0
      refine ⟨fun h0=>?_,fun j hr=>?_⟩
      · obtain ⟨j,hj,_⟩:=least_ready cx.dr hL (fun _=>true) (fun _ _ _ _ _ _=>.inl rfl) i0 (lt_of_get hi0) rfl hl0'
        rw [h0] at hj;cases hj
      · obtain ⟨o,hi,hun,hdeps⟩:=ready_get hL hr
        have htj:(isTail ops).getD j false = false:=by
          cases htj:(isTail ops).getD j false with
          | false=>rfl
          | true =>
            have hA:=cx.dr.waits j i0 o0 (lt_of_get hi) hi0 htj ht0 hp0
            have:=anc_listed hL.shut hA (fun o' ho' e he hb=>by rw [hi] at ho';cases ho';exact hdeps e he hb)
            rw [hl0'] at this;cases this
        obtain ⟨e,he⟩:=cx.so j o hi htj
        obtain ⟨a1,a2⟩:=at_head (Q:=Q) cx hL hS0 hP hi he hun hdeps
        have hcount:=left_set (lt_of_get hi) hL.size hun
        have go:∀ act' u',PInv N B T0 S0 l r w0 a0 σ0 Z (listed.setIfInBounds j true) act' u' → wpAny P .any ops.toArray Q n (listed.setIfInBounds j true) act' u':=fun act' u' hP'=>ih _ _ _ (hL.next hr htj) hP' (by omega)
        unfold wpOp
        have hi2:ops.toArray[j]? = some o:=by simpa using hi
        simp only [hi2]
        split
        · rename_i hw
          exact .inl (Oper.wp_mono go (a1 hw).1)
        · rename_i hw
          exact go _ _ (a2 (by simpa using hw))

theorem tl_le (hL:LInv ops listed):(tlIx ops).length ≤ left ops.length listed:=by
  unfold tlIx left
  rw [← List.countP_eq_length_filter,← List.countP_eq_length_filter]
  exact List.countP_mono_left fun j hj htj=>by rw [hL.tl j htj];rfl
end

/-! ### the region -/

theorem mkNames_mem {B:Nat}:∀ {ss:List SO} {s:SO} {d:Nat},s ∈ ss → s.dst = some d → isMk s.op = true → (B + d) ∈ mkNames B ss
  | [],s,d,h,_,_=>by cases h
  | x :: ss,s,d,h,hd,hk=>by
    simp only [mkNames]
    rcases List.mem_cons.1 h with rfl | h
    · rw [hd]
      cases hop:s.op<;>rw [hop] at hk<;>simp [isMk] at hk<;>simp
    · have:=mkNames_mem (B:=B) h hd hk
      split<;>simp [this]

theorem mkNames_ge {B:Nat}:∀ {ss:List SO} {n:Nat},n ∈ mkNames B ss → B ≤ n
  | [],n,h=>by cases h
  | x :: ss,n,h=>by
    simp only [mkNames] at h
    split at h<;>(try (rcases List.mem_cons.1 h with rfl | h;· omega))<;>exact mkNames_ge h

theorem killO_no {B:Nat} {r:Sto} (hr:ClosedS B r):∀ (T:List Nat) (S:List Nat) (l:Loc),(∀ n ∈ T,B ≤ n) → (∀ m,(sto l r m).allN (fun x=>!S.contains x) = true) → ∀ m,(sto (killO T l) r m).allN (fun x=>!S.contains x && !T.contains x) = true
  | [],S,l,_,h,m=>by simpa [killO] using h m
  | n :: T,S,l,hT,h,m=>by
    have hn:=hT n (by simp)
    have h1:∀ m,(sto (l.map fun p=>(p.1,p.2.kill n)) r m).allN (fun x=>!(n :: S).contains x) = true:=fun m=>by
      have e:sto (l.map fun p=>(p.1,p.2.kill n)) r m = (sto l r m).kill n:=by
        clear h
        induction l with
        | nil=>exact (closed_kill hr hn m).symm
        | cons p l ih =>
          obtain ⟨p1,p2⟩:=p
          simp only [List.map_cons,sto_cons]
          by_cases hm:m = p1
          · rw [if_pos hm,if_pos hm]
          · rw [if_neg hm,if_neg hm];exact ih
      rw [e]
      have:=h m
      cases ho:sto l r m with
      | dead=>rfl
      | arr=>rfl
      | mp=>rfl
      | box cs =>
        rw [ho] at this
        simp only [AO.kill,AO.allN] at this ⊢
        refine AV.allNL_iff.2 fun c hc=>?_
        obtain ⟨c',hc',rfl⟩:=List.mem_map.1 hc
        exact AV.kill_allN (p:=fun x=>!S.contains x) (fun x hx hne=>by simp at hx ⊢;exact ⟨hne,hx⟩) c' (AV.allNL_iff.1 this c' hc')
      | arh _ _ _ cs _ =>
        rw [ho] at this
        simp only [AO.kill,AO.allN] at this ⊢
        refine AV.allNL_iff.2 fun c hc=>?_
        obtain ⟨c',hc',rfl⟩:=List.mem_map.1 hc
        exact AV.kill_allN (p:=fun x=>!S.contains x) (fun x hx hne=>by simp at hx ⊢;exact ⟨hne,hx⟩) c' (AV.allNL_iff.1 this c' hc')
    have:=killO_no hr T (n :: S) _ (fun x hx=>hT x (List.mem_cons_of_mem _ hx)) h1 m
    simp only [killO,List.foldl_cons] at this ⊢
    refine AO.allN_mono (fun x hx=>?_) this
    simp only [List.contains_cons,Bool.and_eq_true,Bool.not_eq_true',Bool.or_eq_false_iff] at hx ⊢
    exact ⟨hx.1.2,hx.1.1,hx.2⟩

theorem sto_pre (C:List Nat) (l:Loc) (r:Sto) (n:Nat):sto (C.map (fun n=>(n,AO.dead)) ++ l.filter fun p=>!C.contains p.1) r n = if C.contains n = true then .dead else sto l r n:=by
  have h1:∀ (D:List Nat) (l':Loc),sto (D.map (fun n=>(n,AO.dead)) ++ l') r n = if D.contains n = true then .dead else sto l' r n:=fun D l'=>by
    induction D with
    | nil=>simp
    | cons x D ih =>
      simp only [List.map_cons,List.cons_append,sto_cons,List.contains_cons,Bool.or_eq_true,beq_iff_eq]
      by_cases hx:n = x
      · simp [hx]
      · simp only [hx,if_false,false_or];exact ih
  rw [h1]
  split
  · rfl
  · rename_i hC
    clear h1
    induction l with
    | nil=>rfl
    | cons p l ih =>
      obtain ⟨p1,p2⟩:=p
      rw [List.filter_cons]
      split
      · simp only [sto_cons,ih]
      · rename_i hp
        rw [sto_cons,if_neg (fun e=>hC (by rw [e];simpa using hp)),ih]

theorem killD_dead (C:List Nat) (l:Loc) (r:Sto) {n:Nat} (h:C.contains n = true):sto (killD C l) r n = .dead:=by
  have:∀ (T:List Nat) (l:Loc),sto l r n = .dead → sto (killO T l) r n = .dead:=fun T=>by
    induction T with
    | nil=>exact fun l h=>h
    | cons x T ih =>
      intro l h
      simp only [killO,List.foldl_cons]
      refine ih _ ?_
      rcases sto_map (AO.kill x) r l n with e | e<;>rw [e,h]
      rfl
  refine this _ _ ?_
  rw [sto_pre,if_pos h]

theorem lst_get {ops:List Oper} {p:Nat} (hp:p < ops.length) (h:(isTail ops).getD p false = false):(lst ops.length (hdIx ops)).getD p false = true:=by
  have hget:∀ (d:List Nat) (a:Array Bool) (j:Nat),j < a.size → (d.foldl (fun l i=>l.setIfInBounds i true) a).getD j false = (d.contains j || a.getD j false):=fun d=>by
    induction d with
    | nil=>intro a j hj;simp
    | cons x d ih =>
      intro a j hj
      rw [List.foldl_cons,ih _ _ (by simpa using hj)]
      by_cases hx:x = j
      · subst hx;simp [hj]
      · rw [getD_set_ne false hx];simp [List.contains_cons,Ne.symm hx]
  unfold lst
  rw [hget _ _ _ (by simpa using hp)]
  have:p ∈ hdIx ops:=List.mem_filter.2 ⟨List.mem_range.2 hp,by simp only [h,Bool.not_false]⟩
  simp [this]

theorem drComp_spec {N:Nat} {ops:List Oper} {fr:Bool} {s1 s2:List SO} (h:drComp N ops = some (fr,s1,s2)):drOk fr ops = true ∧ soList N ops (opsAt ops (hdIx ops)) = some s1 ∧ soList N ops (opsAt ops (tlUse fr ops)) = some s2:=by
  have one:∀ fr',drComp1 fr' N ops = some (fr,s1,s2) → drOk fr ops = true ∧ soList N ops (opsAt ops (hdIx ops)) = some s1 ∧ soList N ops (opsAt ops (tlUse fr ops)) = some s2:=fun fr' h=>by
    unfold drComp1 at h
    cases hdr:drOk fr' ops
    · rw [hdr] at h;cases h
    · rw [hdr] at h
      simp only [cond_true] at h
      split at h
      · rename_i a1 a2 h1 h2
        simp only [Option.some.injEq,Prod.mk.injEq] at h
        obtain ⟨rfl,rfl,rfl⟩:=h
        exact ⟨hdr,h1,h2⟩
      · cases h
  unfold drComp at h
  split at h
  · rename_i x hx;cases h;exact one false hx
  · exact one true h

theorem dreg_ok {P:Program} {N B:Nat} {T0:List Nat} {r:Sto} {S:KS → Prop} {k:Fr → Loc → Prop} {a:Fr} {l:Loc} {act:Act} {w:World} {id:Nat} {ops:Array Oper} {fr:Bool} {a1 a2:List SO} (hm:P.follows .mixedOrders = true) (hB:ClosedS B r) (hd:drComp N ops.toList = some (fr,a1,a2))
    (hS:∃ K,S K) (h:∀ K,S K → Std N r K a l act w) (hF:Fr.below (B + 100000) (killT (mkNames B a1) a)) (hLb:Loc.below (B + 100000) (killD (mkNames B a1) l))
    (hk:SWD P B (mkNames B a1) (sto (killD (mkNames B a1) l) r) (killD (mkNames B a1) l) a1 (fun a nw=>bif fr then SWLn P r (loadNames a1 a) a2 k a (nw ++ killD (mkNames B a1) l) else SWL P B T0 r a2 k a (nw ++ killD (mkNames B a1) l)) (killT (mkNames B a1) a) []):(Code.region id ops true).wp P (NPost N B T0 r S l w k) act w:=by
  obtain ⟨ops⟩:=ops
  simp only at hd
  obtain ⟨hdr,h1,h2⟩:=drComp_spec hd
  have dr:=drOk_spec hdr
  obtain ⟨es,aF,nwF,q1,q2,q3⟩:=SWD_chain hk
  have hlt1:∀ i ∈ hdIx ops,i < ops.length:=fun i hi=>List.mem_range.1 (List.mem_filter.1 hi).1
  have hA:=soList_ok h1
  rw [← q1] at hA
  obtain ⟨z1,z2⟩:=zip_zo hlt1 hA
  have hgood:=zip_good dr (range_filter_pairwise _ _) z1 z2
  have hC:∀ n ∈ mkNames B a1,B ≤ n:=fun n hn=>mkNames_ge hn
  have hcl:ClosedS (B + 100000) (sto (killD (mkNames B a1) l) r):=closed_sto hB (by omega) hLb
  have zo:∀ i e,look2 ((hdIx ops).zip es) i = some e → ∃ o,ops[i]? = some o ∧ (isTail ops).getD i false = false ∧ SoOk N ops o e.so:=fun i e he=>by
    obtain ⟨o,g1,g2,g3⟩:=z2 _ (look2_mem he)
    exact ⟨o,g1,by simpa using (List.mem_filter.1 g2).2,g3⟩
  have cx:Ctx P fr N B (mkNames B a1) (sto (killD (mkNames B a1) l) r) (killD (mkNames B a1) l) (killT (mkNames B a1) a) ops ((hdIx ops).zip es) aF:=by
    refine ⟨dr,chain_facts q2 z1 hgood,fun i o hi ht=>zip_so z1 i (List.mem_filter.2 ⟨List.mem_range.2 (lt_of_get hi),by simpa using ht⟩),zo,hcl,fun n=>?_,fun n hn=>killD_dead _ _ _ hn,fun t=>?_,fun i e d he hdst hmk=>?_⟩
    · have:=killO_no hB (mkNames B a1) [] ((mkNames B a1).map (fun n=>(n,AO.dead)) ++ l.filter fun p=>!(mkNames B a1).contains p.1) hC (fun m=>AO.allN_mono (fun _ _=>rfl) (AO.allN_true _)) n
      exact AO.allN_mono (fun x hx=>by simpa using hx) this
    · have g1:=Fr.get_allN hF t
      have g2:=Fr.get_allN (killT_allN (mkNames B a1) (S:=[]) (a:=a) (by simpa using Fr.allN_true a)) t
      exact AV.allN_mono (fun x hx=>by simp [inB] at hx ⊢;exact ⟨hx.2,hx.1⟩) _ (AV.allN_and _ g1 g2)
    · have:e.so ∈ es.map (·.so):=List.mem_map.2 ⟨e,(List.of_mem_zip (a:=i) (b:=e) (look2_mem he)).2,rfl⟩
      rw [q1] at this
      simpa using mkNames_mem this hdst hmk
  have hobj:=chain_objs r (killD (mkNames B a1) l) q2 z1 hgood
  have hP0:PInv N B T0 S l r w (killT (mkNames B a1) a) (sto (killD (mkNames B a1) l) r) ((hdIx ops).zip es) (Array.replicate ops.length false) act { w with drawn:=w.drawn + 1 }:=by
    have hfalse:∀ p,(Array.replicate ops.length false).getD p false = false:=fun p=>by
      simp only [Array.getD_eq_getD_getElem?,Array.getElem?_replicate];split<;>rfl
    refine ⟨(killT (mkNames B a1) a).get,_,⟨fun p e t _ _ hl=>(by rw [hfalse] at hl;cases hl),fun t _=>rfl,fun p e s o _ _ _ hl=>(by rw [hfalse] at hl;cases hl),fun n _=>rfl⟩,fun K hK=>?_⟩
    have hs:=h K hK
    have hg:Grow w { w with drawn:=w.drawn + 1 }:=⟨⟨rfl,rfl,rfl,Nat.le_refl _,fun _ _=>rfl⟩,Nat.le_succ _⟩
    have hkp:=Keep.of_grow hg hs.rs.inI
    have live:∀ n,(sto (killD (mkNames B a1) l) r n).live K n → (sto l r n).live K n:=fun n hl=>by
      have:=killO_live _ hl
      rw [sto_pre] at this
      split at this
      · exact this.elim
      · exact this
    have hrs1:RepS K (sto (killD (mkNames B a1) l) r) w:=killO_ok _ (hs.rs.sub fun n=>by
      rw [sto_pre]
      split
      · exact .inr rfl
      · exact .inl rfl)
    refine ⟨K,⟨fun _ _ _=>⟨rfl,rfl,rfl,rfl⟩,fun _ h=>h,hkp,fun b hb=>hb.elim .inl fun ⟨n,g1,g2⟩=>.inr (.inr ⟨n,live n g1,g2⟩)⟩,⟨hrs1.gl.up (fun _ h=>h) hkp,hrs1.inI,fun n=>?_,hrs1.inj⟩,fun t=>?_,hs.sz,hs.df⟩
    · exact (hrs1.obj n).up (q:=fun _=>true) (fun _ h=>h) hkp (fun _ _=>⟨rfl,rfl,rfl,rfl⟩) ⟨rfl,rfl,rfl,rfl⟩ (fun h=>h) (fun _=>rfl) (AO.allN_true _)
    · exact (killT_ok _ hs.rf t).world hkp
  have hL0:LInv ops (Array.replicate ops.length false):=⟨fun j o hj=>(by
      simp only [Array.getD_eq_getD_getElem?,Array.getElem?_replicate] at hj
      split at hj<;>cases hj),by simp,fun i _=>by
      simp only [Array.getD_eq_getD_getElem?,Array.getElem?_replicate];split<;>rfl⟩
  have hleft:left ops.length (Array.replicate ops.length false) = ops.length:=by
    unfold left
    rw [List.filter_eq_self.2 (fun i hi=>by
      simp only [Array.getD_eq_getD_getElem?,Array.getElem?_replicate];split<;>rfl)]
    simp
  have hfull:∀ p e,look2 ((hdIx ops).zip es) p = some e → (lst ops.length (hdIx ops)).getD p false = true:=fun p e he=>by
    obtain ⟨o,g1,g2,g3⟩:=zo p e he
    exact lst_get (lt_of_get g1) g2
  have hob2:(∀ p ep s o,look2 ((hdIx ops).zip es) p = some ep → ep.so.dst = some s → ep.ob = some o → sto (nwF ++ killD (mkNames B a1) l) r (B + s) = o) ∧ (∀ n,(∀ p ep s o,look2 ((hdIx ops).zip es) p = some ep → ep.so.dst = some s → ep.ob = some o → n ≠ B + s) → sto (nwF ++ killD (mkNames B a1) l) r n = sto (killD (mkNames B a1) l) r n):=⟨hobj.1,fun n hn=>by rw [hobj.2 n hn];rfl⟩
  refine wp_region_any hm ?_
  have:=head_any (Q:=NPost N B T0 r S l w k) cx hS ?_ ops.length _ act _ hL0 hP0 hleft
  · simpa using this
  intro n listed act' u' hL hP hpl hn
  have htl:=tl_le (ops:=ops) hL
  cases hfr:fr with
  | false =>
    rw [hfr] at q3
    simp only [cond_false] at q3
    have:=plain_any (Q:=NPost N B T0 r S l w k) hfr cx hS (fun c a w hq=>by cases hq.1) (fun act2 u2 hP2=>?_) (n - (tlIx ops).length) listed act' u' hL hP (fun i o g1 g2 g3=>hpl i o g1 g2 (by simp only [freeK,hfr,Bool.false_and,Bool.or_false];exact g3)) (by omega)
    · rw [show n - (tlIx ops).length + (tlIx ops).length = n by omega] at this
      exact this
    · have hend:=at_end (l1:=killD (mkNames B a1) l) (nwF:=nwF) cx hob2 hfull hP2
      obtain ⟨K0,hK0⟩:=hS
      let S1:KS → Prop:=fun K=>∃ K0,S K0 ∧ Ext B T0 K0 (sto l r) w K (sto (nwF ++ killD (mkNames B a1) l) r) u2 ∧ Std N r K aF (nwF ++ killD (mkNames B a1) l) act2 u2
      have hS1:∃ K,S1 K:=by
        obtain ⟨K1,f1,f2⟩:=hend K0 hK0
        exact ⟨K1,K0,hK0,f1,f2⟩
      obtain ⟨t1,t2,t3⟩:=dr.chainO hfr
      have h2':soList N ops (opsAt ops (tlOrd ops)) = some a2:=by rw [hfr] at h2;exact h2
      have:=SWL_any (S:=S1) hB dr.nosel (at_ops t2) (soList_ok h2') hS1 (fun K ⟨_,_,_,hh⟩=>hh) t3 q3
      rw [t1] at this
      refine wpAny_monoQ (fun e a w ⟨g1,g2⟩=>⟨g1,?_⟩) _ _ _ _ this
      obtain ⟨a',l',b1,b2⟩:=g2
      refine ⟨a',l',b1,fun K hK=>?_⟩
      obtain ⟨K1,f1,f2⟩:=hend K hK
      obtain ⟨K2,e1,e2⟩:=b2 K1 ⟨K,hK,f1,f2⟩
      exact ⟨K2,f1.trans e1,e2⟩
  | true =>
    rw [hfr] at q3
    simp only [cond_true] at q3
    obtain ⟨f,σ,hfs,hall⟩:=hP
    obtain ⟨K0,hK0⟩:=hS
    obtain ⟨K1,f1,d1⟩:=hall K0 hK0
    let F:KS → Prop:=FamD N B T0 S l r w f σ act' u'
    have hF1:F K1:=⟨K0,hK0,f1,d1⟩
    let F2:KS → Prop:=fun K=>∃ K0,S K0 ∧ Ext B T0 K0 (sto l r) w K σ u'
    have hend2:∀ f2,FS B (killT (mkNames B a1) a) (sto (killD (mkNames B a1) l) r) ((hdIx ops).zip es) (lst ops.length (hdIx ops)) f2 σ → σ = sto (nwF ++ killD (mkNames B a1) l) r ∧ ∀ t,f2 t = aF.get t:=fun f2 hfs2=>by
      refine ⟨?_,fun t=>?_⟩
      · funext n
        by_cases hx:∃ p e s o,look2 ((hdIx ops).zip es) p = some e ∧ e.so.dst = some s ∧ e.ob = some o ∧ n = B + s
        · obtain ⟨p,e,s,o,h1,h2,h3,rfl⟩:=hx
          rw [hfs2.mkd p e s o h1 h2 h3 (hfull p e h1),hob2.1 p e s o h1 h2 h3]
        · have hne:∀ p ep s o,look2 ((hdIx ops).zip es) p = some ep → ep.so.dst = some s → ep.ob = some o → n ≠ B + s:=fun p e s o h1 h2 h3 h4=>hx ⟨p,e,s,o,h1,h2,h3,h4⟩
          rw [hfs2.old n fun p e s o h1 h2 h3 h4=>absurd h4 (hne p e s o h1 h2 h3),hob2.2 n hne]
      · by_cases hx:∃ p e,look2 ((hdIx ops).zip es) p = some e ∧ e.so.dst = some t
        · obtain ⟨p,e,h1,h2⟩:=hx
          rw [hfs2.wr p e t h1 h2 (hfull p e h1),cx.fa.fw t p e h1 h2]
        · rw [hfs2.no t fun p e h1 h2=>absurd ⟨p,e,h1,h2⟩ hx,cx.fa.fn t fun p e h1 h2=>hx ⟨p,e,h1,h2⟩]
    have hfreal:∀ i e t x,look2 ((hdIx ops).zip es) i = some e → e.so.op = .load t x → opd e.fr x = opd aF x:=fun i e t x he hop=>by
      obtain ⟨o,g1,g2,g3⟩:=zo i e he
      have ho:o.op = .load t x:=by
        have:=g3.op
        rw [hop] at this
        cases ho:o.op<;>rw [ho] at this<;>simp only [comp,Option.some.injEq] at this<;>(try (cases this;try rfl))
        all_goals (split at this<;>cases this)
      cases x with
      | tmp tt =>
        have hrd:tt ∈ readsOf ops o:=by
          simp only [readsOf,Oper.looksAt,List.mem_append,List.mem_filterMap]
          exact .inl ⟨.tmp tt,by rw [ho];simp [Op.operands],rfl⟩
        have hget:e.fr.get tt = aF.get tt:=by
          by_cases hx:∃ p ep,look2 ((hdIx ops).zip es) p = some ep ∧ ep.so.dst = some tt
          · obtain ⟨p,ep,h1,h2⟩:=hx
            obtain ⟨op,p1,p2,p3⟩:=zo p ep h1
            rcases Nat.lt_or_ge p i with hlt | hge
            · rw [cx.fa.wr i e tt p ep he h1 h2 hlt,cx.fa.fw tt p ep h1 h2]
            · exact absurd hrd (dr.frees i p o op tt hfr g1 g2 (by rw [ho];rfl) p1 hge (p3.dst.trans h2))
          · rw [cx.fa.no i e tt he fun p ep h1 h2=>absurd ⟨p,ep,h1,h2⟩ hx,cx.fa.fn tt fun p ep h1 h2=>hx ⟨p,ep,h1,h2⟩]
        simp only [opd,hget]
      | const v=>rfl
      | global g=>rfl
      | func f=>rfl
    have:=free_any (Q:=NPost N B T0 r S l w k) (NR:=loadNames a1 aF) (Lv:=fun n=>(sto (nwF ++ killD (mkNames B a1) l) r n).live K1 n) (F:=F) (K1:=K1) hfr cx hF1 (hfs.sub cx) (fun i e t x n he hop hn=>?_) (fun n hl=>?_) (fun c a w hq=>by cases hq.1) (fun act2 f2 hfs2 hstd2=>?_) (n - (tlIx ops).length) listed act' f hL hfs (fun K ⟨_,_,_,d⟩=>d) (fun i o g1 g2 g3=>hpl i o g1 g2 (by rw [hfr];exact g3)) (by omega)
    · rw [show n - (tlIx ops).length + (tlIx ops).length = n by omega] at this
      exact wpAny_of_held _ _ _ _ this
    · have hso:e.so ∈ a1:=by rw [← q1];exact List.mem_map.2 ⟨e,(List.of_mem_zip (a:=i) (b:=e) (look2_mem he)).2,rfl⟩
      refine List.mem_filterMap.2 ⟨e.so,hso,?_⟩
      rw [hop]
      simp only
      rw [← hfreal i e t x he hop];exact hn
    · show (sto (nwF ++ killD (mkNames B a1) l) r n).live K1 n
      by_cases hx:∃ p ep s o,look2 ((hdIx ops).zip es) p = some ep ∧ ep.so.dst = some s ∧ ep.ob = some o ∧ n = B + s
      · obtain ⟨p,ep,s,o,h1,h2,h3,rfl⟩:=hx
        rcases ent_val (cx.fa.loc p ep h1) with ⟨s',o',g1,g2,g3,g4,g5⟩ | ⟨g1,_⟩
        · rw [h2] at g1;cases g1
          rw [cx.dead _ (cx.mem p ep s h1 h2 g4)] at hl
          exact hl.elim
        · rw [h3] at g1;cases g1
      · rw [hob2.2 n fun p ep s o h1 h2 h3 h4=>hx ⟨p,ep,s,o,h1,h2,h3,h4⟩];exact hl
    · obtain ⟨e1,e2⟩:=hend2 f2 hfs2
      have hstd3:∀ K,F K → Std N r K aF (nwF ++ killD (mkNames B a1) l) act2 u':=fun K hK=>by
        have d:=hstd2 K hK
        refine ⟨by rw [← e1];exact d.rs,fun t=>by rw [← e2];exact d.rf t,d.sz,d.df⟩
      have h2':soList N ops (opsAt ops (tlIx ops)) = some a2:=by rw [hfr] at h2;exact h2
      have:=SWLn_ok (N:=N) (B:=B) (T0:=T0) (S:=F) (K1:=K1) (u0:=u') (Lv:=fun n=>(sto (nwF ++ killD (mkNames B a1) l) r n).live K1 n) (soList_ok h2') hF1 hstd3 (fun n _ hl=>hl) ⟨fun _ _ _=>rfl,fun _ _=>rfl⟩ q3
      refine wpListS_mono (fun e a w ⟨g1,g2⟩=>⟨g1,?_⟩) _ _ _ this
      obtain ⟨a',l',b1,b2⟩:=g2
      refine ⟨a',l',b1,fun K hK=>?_⟩
      obtain ⟨K2,e3,d2⟩:=hall K hK
      obtain ⟨K3,e4,e5⟩:=b2 K2 ⟨K,hK,e3,d2⟩
      rw [e1] at e3
      exact ⟨K3,e3.trans e4,e5⟩
def otree (N:Nat) (ops:Array Oper):Nat → Array Bool → Option OT
  | 0,listed=>bif (Region.ready .any ops listed).isEmpty then some .done else none
  | n + 1,listed=>match Region.ready .any ops listed with
    | []=>some .done
    | i0 :: is0=>match (i0 :: is0).find? (fun i=>atK quietK ops i && (atK (fun o=>plainOp o.op) ops i && (atK (fun o=>o.guard.isNone) ops i && Region.free .any ops listed i))) with
      | some i=>match (ops[i]?).bind (soOf N ops.toList),otree N ops n (listed.setIfInBounds i true) with
        | some s,some t=>some (.fst s t)
        | _,_=>none
      | none=>(i0 :: is0).foldr (fun i acc=>match (ops[i]?).bind (soOf N ops.toList),otree N ops n (listed.setIfInBounds i true),acc with
        | some s,some t,some rest=>some (.br s t rest)
        | _,_,_=>none) (some .nil)
theorem plain_step {P:Program} {N B:Nat} {T0:List Nat} {r:Sto} {S:KS → Prop} {a:Fr} {l:Loc} {act:Act} {w:World} {k:Fr → Loc → Prop} {o:Oper} {s:SO} {ops:List Oper} (hs:SoOk N ops o s) (hq:quietK o = true) (hp:plainOp o.op = true) (hg0:o.guard = none) (hS:∃ K,S K) (h:∀ K,S K → Std N r K a l act w) (hk:SWL P B T0 r [s] k a l) :
    ∃ y,(Region.wanted o (yielded ops.toArray act.tmps) = true ∧ ∀ w',(execOp act.eval o).run P w' = .ok (.value y) w') ∧ PostF N B T0 r S l w k (act.put o.dst y) w:=by
  have hg:s.guard = none:=by
    rcases hs.gd with ⟨_,h2⟩ | ⟨j,b,t,h1,_⟩
    · exact h2
    · rw [hg0] at h1;cases h1
  have hwt:Region.wanted o (yielded ops.toArray act.tmps) = true:=by simp [Region.wanted,hg0]
  unfold SWL at hk
  rw [hg] at hk
  simp only at hk
  unfold SO1 at hk
  split at hk
  · rename_i q v he
    obtain ⟨hq1,hK⟩:=hk
    obtain ⟨y,h1,h2⟩:=aev_okF hS h hs.op he hq1
    obtain ⟨K0,hK0⟩:=hS
    obtain ⟨y',h3,_⟩:=plain_any_world (P:=P) (K:=K0) (σ:=sto l r) (w:=w) (a:=a) (ρ:=act.eval) hp hs.op (fun x _=>(h K0 hK0).op x) (h K0 hK0).rs he hq1
    have e:y' = y:=by
      have:=(h3 w).symm.trans h1
      simpa using this
    subst e
    exact ⟨y',⟨hwt,h3⟩,PostF.here (a:=putO o.dst v a) (fun K hKS=>(h K hKS).put hs.lt (h2 K hKS)) (by rw [hs.dst];exact hK)⟩
  · exact (quiet_SE hq hs.op hk).elim
theorem brs_get {P:Program} {N B:Nat} {T0:List Nat} {r:Sto} {ops:Array Oper} {n:Nat} {listed:Array Bool} {k:Fr → Loc → Prop} {a:Fr} {l:Loc}:∀ {is:List Nat} {tr:OT},is.foldr (fun i acc=>match (ops[i]?).bind (soOf N ops.toList),otree N ops n (listed.setIfInBounds i true),acc with
        | some s,some t,some rest=>some (.br s t rest)
        | _,_,_=>none) (some .nil) = some tr → OSW P B T0 r tr k a l → ∀ i ∈ is,∃ o s t,ops[i]? = some o ∧ soOf N ops.toList o = some s ∧ otree N ops n (listed.setIfInBounds i true) = some t ∧ SWL P B T0 r [s] (OSW P B T0 r t k) a l
  | [],_,_,_,i,hi=>by cases hi
  | j :: is,tr,h,hk,i,hi=>by
    simp only [List.foldr_cons] at h
    split at h
    · rename_i s t rest h1 h2 h3
      cases h
      obtain ⟨o,ho,hso⟩:=Option.bind_eq_some_iff.1 h1
      rcases List.mem_cons.1 hi with rfl | hi
      · exact ⟨o,s,t,ho,hso,h2,hk.1⟩
      · exact brs_get h3 hk.2 i hi
    · cases h
section
variable {P:Program} {N B:Nat} {T0:List Nat} {r:Sto} {ops:List Oper}
theorem OSW_any (hB:ClosedS B r) (hsel:Region.noSelect ops.toArray = true):∀ (n:Nat) {listed:Array Bool} {t:OT},otree N ops.toArray n listed = some t → ∀ {S:KS → Prop} {a:Fr} {l:Loc} {act:Act} {w:World} {k:Fr → Loc → Prop},(∃ K,S K) → (∀ K,S K → Std N r K a l act w) → OSW P B T0 r t k a l → wpAny P .any ops.toArray (NPost N B T0 r S l w k) n listed act w:=by
  intro n
  induction n with
  | zero =>
    intro listed t ht S a l act w k hS h hk
    unfold otree at ht
    cases he:(Region.ready .any ops.toArray listed).isEmpty
    · rw [he] at ht;cases ht
    · rw [he] at ht;cases ht
      exact wpAny_done (by simpa using he) ⟨rfl,PostF.here h hk⟩ _
  | succ n ih =>
    intro listed t ht S a l act w k hS h hk
    unfold otree at ht
    split at ht
    · rename_i he
      cases ht
      exact wpAny_done he ⟨rfl,PostF.here h hk⟩ _
    · rename_i i0 is0 he
      split at ht
      · rename_i i hf
        have hmem:=List.mem_of_find?_eq_some hf
        have hpr:=List.find?_some hf
        simp only [Bool.and_eq_true] at hpr
        obtain ⟨c1,c2,c3,c4⟩:=hpr
        split at ht
        · rename_i s t' h1 h2
          cases ht
          obtain ⟨o,hi,hso⟩:=Option.bind_eq_some_iff.1 h1
          have hs:=soOf_ok hso
          unfold atK at c1 c2 c3
          rw [hi] at c1 c2 c3
          obtain ⟨y,hy,hP⟩:=plain_step hs c1 c2 (by simpa using c3) hS h hk
          obtain ⟨a1,l1,hk1,hS1,h1',hgo⟩:=hP.go hS
          refine wpAny_first (v:=y) hi (Region.noSelect_spec hsel) (fun c a w hq=>by cases hq.1) _ listed act w (Region.free_spec hi c4) (by rw [he];exact hmem) (.inl hy) ?_
          exact wpAny_monoQ (fun e a w ⟨g1,g2⟩=>⟨g1,hgo g2⟩) _ _ _ _ (ih h2 hS1 h1' hk1)
        · cases ht
      · have hb:=brs_get ht hk
        refine wpAny_all he (by simp) fun j hj=>?_
        obtain ⟨o,s,t',hi,hso,ht',hk'⟩:=hb j hj
        have hs:=soOf_ok hso
        have next:∀ act' w',PostF N B T0 r S l w (SWL P B T0 r [] (OSW P B T0 r t' k)) act' w' → wpAny P .any ops.toArray (NPost N B T0 r S l w k) n (listed.setIfInBounds j true) act' w':=fun act' w' hP=>by
          obtain ⟨a1,l1,hk1,hS1,h1,hgo⟩:=hP.go hS
          exact wpAny_monoQ (fun e a w ⟨g1,g2⟩=>⟨g1,hgo g2⟩) _ _ _ _ (ih ht' hS1 h1 hk1)
        unfold wpOp
        simp only [hi]
        unfold SWL at hk'
        split at hk'
        · rename_i hg
          have hwt:Region.wanted o (yielded ops.toArray act.tmps) = true:=by
            rcases hs.gd with ⟨h1,_⟩ | ⟨j,b,t,_,h2,_⟩
            · simp [Region.wanted,h1]
            · rw [hg] at h2;cases h2
          rw [if_pos hwt]
          exact .inl (wp_next (SO1_ok hB hs hS h hk') next)
        · rename_i t b hg
          have:=SOg_ok (Q:=NPost N B T0 r S l w k) hB hs hS h hg hk'
          split
          · rename_i hwt
            rw [if_pos hwt] at this
            exact .inl (wp_next this next)
          · rename_i hwt
            rw [if_neg hwt] at this
            exact next _ _ this
theorem oreg_ok {S:KS → Prop} {k:Fr → Loc → Prop} {a:Fr} {l:Loc} {act:Act} {w:World} {id:Nat} {ops:Array Oper} {t:OT} (hm:P.follows .mixedOrders = true) (hB:ClosedS B r) (hsel:Region.noSelect ops = true) (ht:otree N ops ops.size (Array.replicate ops.size false) = some t)
    (hS:∃ K,S K) (h:∀ K,S K → Std N r K a l act w) (hk:OSW P B T0 r t k a l):(Code.region id ops true).wp P (NPost N B T0 r S l w k) act w:=by
  obtain ⟨ops⟩:=ops
  have hkp:∀ K,S K → Keep K.I w w.drew:=fun K hK=>Keep.of_grow ((Grow.refl w).drew) (h K hK).rs.inI
  have hstd:∀ K,S K → Std N r K a l act w.drew:=fun K hK=>by
    have d:=h K hK
    have hsame:∀ n,K.same K n:=fun n=>⟨rfl,rfl,rfl,rfl⟩
    have hrs:=d.rs.more (J:=fun _=>False) ((Grow.refl w).drew) (fun b hb=>hb.elim)
    have e:({ K with I:=fun b=>K.I b ∨ False }:KS) = K:=by cases K;simp
    rw [e] at hrs
    exact ⟨hrs,d.rf.up (fun _ h=>h) (hkp K hK) hsame,d.sz,d.df⟩
  refine wp_region_any hm ?_
  have:=OSW_any (P:=P) (N:=N) (B:=B) (T0:=T0) (r:=r) (ops:=ops) (listed:=Array.replicate ops.length false) hB hsel ops.length (by simpa using ht) hS hstd hk
  have e0:(⟨ops⟩:Array Oper).size = ops.length:=by simp
  rw [e0]
  refine wpAny_monoQ (fun e act' w' hh=>?_) _ _ _ _ this
  obtain ⟨g1,g2⟩:=hh
  refine ⟨g1,?_⟩
  obtain ⟨a',l',b1,b2⟩:=g2
  refine ⟨a',l',b1,fun K hK=>?_⟩
  obtain ⟨K',e1,e2⟩:=b2 K hK
  exact ⟨K',(show Ext B T0 K (sto l r) w K (sto l r) w.drew from ⟨fun n _ _=>⟨rfl,rfl,rfl,rfl⟩,fun b hb=>hb,hkp K hK,fun b hb=>hb.elim .inl fun hb=>.inr (.inr hb)⟩).trans e1,e2⟩
end
end Go.Proofs.Ytikgiadbkjmabaa

/- Code,and functions: what is reckoned out of their text holds of the model. No program in sight. -/
namespace Go.Proofs.Ytikgiadbkjmabaa
open Go.RowKit
set_option linter.unusedSimpArgs false
set_option linter.unusedVariables false

def SC.erase:SC → SC
  | .keep _ c=>c.erase
  | .seq x y=>.seq x.erase y.erase
  | .cond x c e=>.cond x c.erase e.erase
  | .block id c=>.block id c.erase
  | .loop c=>.loop c.erase
  | c=>c

def lateApp (N:Nat) (ops:List Oper):Bool:=match drComp N ops with
  | some (true,_,tl)=>tl.any fun o=>match o.op with | .app _ _ _ _=>true | _=>false
  | none=>decide (ops.length ≤ 20)
  | _=>false
def compB (fl:Bool) (N:Nat):Code → Option SC
  | .skip=>some .skip
  | .ret=>some .ret
  | .exit id=>some (.exit id)
  | .region _ ops draw=>match draw with
    | false=>(soList N ops.toList ops.toList).map .reg
    | true=>match (bif ((fl && decide (ops.size ≤ 9)) || lateApp N ops.toList) && Region.noSelect ops then otree N ops ops.size (Array.replicate ops.size false) else none) with
      | some t=>some (.oreg t)
      | none=>(drComp N ops.toList).map fun p=>.dreg p.1 p.2.1 p.2.2
  | .seq x y=>match compB fl N x,compB fl N y with
    | some a,some b=>some (.seq a b)
    | _,_=>none
  | .cond x c e=>match compB fl N c,compB fl N e with
    | some a,some b=>some (.cond x a b)
    | _,_=>none
  | .block id c=>(compB fl N c).map (.block id)
  | .loop c=>(compB fl N c).map .loop
  | _=>none

def Ex.to:Ex → Exit
  | .normal=>.normal
  | .ret=>.ret
  | .exit id=>.exit id

theorem exists_least {p:Nat → Prop} (h:∃ n,p n):∃ n,p n ∧ ∀ m,m < n → ¬ p m:=by
  obtain ⟨n,hn⟩:=h
  induction n using Nat.strongRecOn with
  | _ n ih =>
    by_cases h:∃ m,m < n ∧ p m
    · obtain ⟨m,hm,hp⟩:=h;exact ih m hm hp
    · exact ⟨n,hn,fun m hm hp=>h ⟨m,hm,hp⟩⟩

open Classical in
noncomputable def leastOf (J:Nat → Act → World → Prop) (a:Act) (w:World):Nat:=if h:∃ n,J n a w then Classical.choose (exists_least h) else 0

theorem leastOf_spec {J:Nat → Act → World → Prop} {a:Act} {w:World} (h:∃ n,J n a w):J (leastOf J a w) a w ∧ ∀ m,J m a w → leastOf J a w ≤ m:=by
  have:=Classical.choose_spec (exists_least h)
  unfold leastOf
  rw [dif_pos h]
  exact ⟨this.1,fun m hm=>by
    rcases Nat.lt_or_ge m (Classical.choose (exists_least h)) with h' | h'
    · exact absurd hm (this.2 m h')
    · exact h'⟩

theorem wp_loop_rel {P:Program} {c:Code} {Q:Exit → Act → World → Prop} {a:Act} {w:World} {n:Nat} (J:Nat → Act → World → Prop) (h0:J n a w)
    (round:∀ n a w,J n a w → c.wp P (Exit.then (fun a' w'=>∃ m,m < n ∧ J m a' w') Q) a w):(Code.loop c).wp P Q a w:=by
  refine wp_loop (fun a w=>∃ n,J n a w) (leastOf J) ⟨n,h0⟩ fun a w hI=>?_
  obtain ⟨h1,h2⟩:=leastOf_spec hI
  refine Code.wp_mono (fun e a' w' he=>?_) (round _ a w h1)
  cases e<;>simp only [Exit.then] at he ⊢<;>try exact he
  obtain ⟨m,hm,hJ⟩:=he
  exact ⟨⟨m,hJ⟩,Nat.lt_of_le_of_lt ((leastOf_spec ⟨m,hJ⟩).2 m hJ) hm⟩

def XPost (N B:Nat) (T0:List Nat) (r:Sto) (S:KS → Prop) (l:Loc) (w:World) (Q:Ex → Fr → Loc → Prop):Exit → Act → World → Prop:=fun e act' w'=>∃ ex:Ex,e = ex.to ∧ PostF N B T0 r S l w (Q ex) act' w'

section
variable {P:Program} {N B:Nat} {T0:List Nat} {r:Sto}

theorem PostF.weak {S:KS → Prop} {l:Loc} {w w':World} {k k':Fr → Loc → Prop} {act':Act} (h:PostF N B T0 r S l w k act' w') (hk:∀ a l,k a l → ∃ a' l',Wk B T0 r a l a' l' ∧ k' a' l'):PostF N B T0 r S l w k' act' w':=by
  obtain ⟨a1,l1,h1,hall⟩:=h
  obtain ⟨a2,l2,hw,h2⟩:=hk a1 l1 h1
  refine ⟨a2,l2,h2,fun K hK=>?_⟩
  obtain ⟨K',e1,e2⟩:=hall K hK
  obtain ⟨K'',f1,f2,f3⟩:=hw act'.tmps w' K' e2.rs e2.rf
  exact ⟨K'',e1.trans f1,f2,f3,e2.sz,e2.df⟩

theorem Fr.get_norm (a:Fr):∀ (s:List Nat) (t:Nat),Fr.get (Fr.norm s a) t = if s.contains t = true then Fr.get a t else .any
  | [],t=>by simp [Fr.norm,Fr.get]
  | m :: s,t=>by
    have ih:=Fr.get_norm a s t
    unfold Fr.norm at ih ⊢
    simp only [List.map_cons,Fr.get,List.contains_cons,Bool.or_eq_true,beq_iff_eq,ih]
    by_cases h:m = t
    · subst h;simp
    · rw [if_neg h];simp [Ne.symm h]

theorem compC_inv {fl:Bool} {code:Code} {sc:SC} (h:compB fl N code = some sc):match sc with
    | .skip=>code = .skip
    | .ret=>code = .ret
    | .exit id=>code = .exit id
    | .reg ss=>∃ id ops,code = .region id ops false ∧ soList N ops.toList ops.toList = some ss
    | .dreg fr s1 s2=>∃ id ops,code = .region id ops true ∧ drComp N ops.toList = some (fr,s1,s2)
    | .oreg t=>∃ id ops,code = .region id ops true ∧ Region.noSelect ops = true ∧ otree N ops ops.size (Array.replicate ops.size false) = some t
    | .seq x y=>∃ a b,code = .seq a b ∧ compB fl N a = some x ∧ compB fl N b = some y
    | .cond c x y=>∃ a b,code = .cond c a b ∧ compB fl N a = some x ∧ compB fl N b = some y
    | .block id x=>∃ a,code = .block id a ∧ compB fl N a = some x
    | .loop x=>∃ a,code = .loop a ∧ compB fl N a = some x
    | .keep _ _=>False:=by
  cases code with
  | skip=>cases h;rfl
  | ret=>cases h;rfl
  | exit id=>cases h;rfl
  | region id ops draw =>
    cases draw
    · simp only [compB,Option.map_eq_some_iff] at h;obtain ⟨ss,h2,rfl⟩:=h;exact ⟨id,ops,rfl,h2⟩
    · simp only [compB] at h
      split at h
      · rename_i t ht
        cases h
        cases hc:((fl && decide (ops.size ≤ 9)) || lateApp N ops.toList) && Region.noSelect ops
        · rw [hc] at ht;cases ht
        · rw [hc] at ht
          simp only [Bool.and_eq_true] at hc
          exact ⟨id,ops,rfl,hc.2,ht⟩
      · simp only [Option.map_eq_some_iff] at h;obtain ⟨⟨p0,p1,p2⟩,h2,rfl⟩:=h;exact ⟨id,ops,rfl,h2⟩
  | seq x y =>
    simp only [compB] at h
    split at h
    · rename_i a b h1 h2;cases h;exact ⟨x,y,rfl,h1,h2⟩
    · cases h
  | cond c x y =>
    simp only [compB] at h
    split at h
    · rename_i a b h1 h2;cases h;exact ⟨x,y,rfl,h1,h2⟩
    · cases h
  | block id x=>simp only [compB,Option.map_eq_some_iff] at h;obtain ⟨a,h2,rfl⟩:=h;exact ⟨x,rfl,h2⟩
  | loop x=>simp only [compB,Option.map_eq_some_iff] at h;obtain ⟨a,h2,rfl⟩:=h;exact ⟨x,rfl,h2⟩
  | rangeFunc _ _ _ _=>cases h
  | scope _=>cases h
  | label _=>cases h
  | goto _=>cases h
  | refuse _=>cases h

theorem SW_ok {fl:Bool} (hm:P.follows .mixedOrders = true) (hB:ClosedS B r):∀ (sc:SC) (code:Code),compB fl N code = some sc.erase → ∀ {Q:Ex → Fr → Loc → Prop} {S:KS → Prop} {a:Fr} {l:Loc} {act:Act} {w:World},(∃ K,S K) → (∀ K,S K → Std N r K a l act w) → SW P B T0 r sc Q a l →
    code.wp P (XPost N B T0 r S l w Q) act w:=by
  intro sc
  induction sc with
  | keep s c ih =>
    intro code hc Q S a l act w hS h hk
    refine ih code hc hS (fun K hK=>⟨(h K hK).rs,fun t=>?_,(h K hK).sz,(h K hK).df⟩) hk
    rw [Fr.get_norm]
    split
    · exact (h K hK).rf t
    · exact .any
  | skip =>
    intro code hc Q S a l act w hS h hk
    have e:=compC_inv hc;simp only [SC.erase] at e;subst e
    exact wp_skip ⟨.normal,rfl,PostF.here h hk⟩
  | ret =>
    intro code hc Q S a l act w hS h hk
    have e:=compC_inv hc;simp only [SC.erase] at e;subst e
    exact wp_ret ⟨.ret,rfl,PostF.here h hk⟩
  | exit id =>
    intro code hc Q S a l act w hS h hk
    have e:=compC_inv hc;simp only [SC.erase] at e;subst e
    exact wp_exit ⟨.exit _,rfl,PostF.here h hk⟩
  | reg ops =>
    intro code hc Q S a l act w hS h hk
    have e:=compC_inv hc;simp only [SC.erase] at e;obtain ⟨id,ops',rfl,e⟩:=e
    refine Code.wp_mono (Q:=NPost N B T0 r S l w (Q .normal)) (fun e act' w' he=>⟨.normal,he.1,he.2⟩) (wp_region_list ?_)
    have:=SWL_ok hB (soList_ok e) hS h hk
    simpa using this
  | dreg fr s1 s2 =>
    intro code hc Q S a l act w hS h hk
    have e:=compC_inv hc;simp only [SC.erase] at e;obtain ⟨id,ops',rfl,e⟩:=e
    simp only [SW] at hk
    have:=dreg_ok (id:=id) hm hB e hS h hk.1 hk.2.1 hk.2.2
    refine Code.wp_mono (fun e act' w' he=>?_) this
    exact ⟨.normal,he.1,he.2⟩
  | oreg t =>
    intro code hc Q S a l act w hS h hk
    have e:=compC_inv hc;simp only [SC.erase] at e;obtain ⟨id,ops',rfl,e1,e2⟩:=e
    refine Code.wp_mono (fun e act' w' he=>?_) (oreg_ok (id:=id) hm hB e1 e2 hS h hk)
    exact ⟨.normal,he.1,he.2⟩
  | seq x y ihx ihy =>
    intro code hc Q S a l act w hS h hk
    have e:=compC_inv hc;simp only [SC.erase] at e;obtain ⟨c1,c2,rfl,e1,e2⟩:=e
    refine wp_seq (Code.wp_mono (fun e act' w' he=>?_) (ihx c1 e1 hS h hk))
    obtain ⟨ex,rfl,hP⟩:=he
    cases ex with
    | normal =>
      obtain ⟨a1,l1,hk1,hS1,h1,hgo⟩:=hP.go hS
      exact Code.wp_mono (fun e a w ⟨ex,g1,g2⟩=>⟨ex,g1,hgo g2⟩) (ihy c2 e2 hS1 h1 hk1)
    | ret=>exact ⟨.ret,rfl,hP⟩
    | exit id=>exact ⟨.exit id,rfl,hP⟩
  | cond x c e ihc ihe =>
    intro code hc Q S a l act w hS h hk
    have e:=compC_inv hc;simp only [SC.erase] at e;obtain ⟨c1,c2,rfl,e1,e2⟩:=e
    simp only [SW] at hk
    split at hk
    · rename_i p b hv
      obtain ⟨hp,h1,h2⟩:=hk
      obtain ⟨K0,hK0⟩:=hS
      have hb:act.eval x = .bool b:=by
        have:=(h K0 hK0).op x
        unfold OpOk at this
        rw [hv] at this
        cases this hp with | d h=>exact h.int
      refine wp_cond_split hb (fun hb=>?_) (fun hb=>?_)
      · exact ihc c1 e1 ⟨K0,hK0⟩ h (h1 hb)
      · exact ihe c2 e2 ⟨K0,hK0⟩ h (h2 hb)
    · exact hk.elim
  | block id c ih =>
    intro code hc Q S a l act w hS h hk
    have e:=compC_inv hc;simp only [SC.erase] at e;obtain ⟨c1,rfl,e1⟩:=e
    refine wp_block (Code.wp_mono (fun e act' w' he=>?_) (ih c1 e1 hS h hk))
    obtain ⟨ex,rfl,hP⟩:=he
    cases ex with
    | normal=>exact ⟨.normal,rfl,hP⟩
    | ret=>exact ⟨.ret,rfl,hP⟩
    | exit id2 =>
      simp only [Ex.to,Exit.inBlock]
      by_cases hid:id2 = id
      · subst hid
        rw [if_pos rfl]
        exact ⟨.normal,rfl,hP.mono fun a l hk=>by simpa [blkK] using hk⟩
      · rw [if_neg hid]
        exact ⟨.exit id2,rfl,hP.mono fun a l hk=>by simpa [blkK,hid] using hk⟩
  | loop c ih =>
    intro code hc Q S a l act w hS h hk
    have e:=compC_inv hc;simp only [SC.erase] at e;obtain ⟨c1,rfl,e1⟩:=e
    obtain ⟨J,⟨n0,a0,l0,hw0,h0⟩,hr⟩:=hk
    refine wp_loop_rel (n:=n0) (fun n act' w'=>PostF N B T0 r S l w (fun a' l'=>J n a' l') act' w') ((PostF.here (k:=fun x y=>x = a ∧ y = l) h ⟨rfl,rfl⟩).weak (fun a' l' hh=>by obtain ⟨rfl,rfl⟩:=hh;exact ⟨a0,l0,hw0,h0⟩)) fun n act1 w1 hJ=>?_
    obtain ⟨a1,l1,hJ1,hS1,h1,hgo⟩:=hJ.go hS
    refine Code.wp_mono (fun e act' w' he=>?_) (ih c1 e1 hS1 h1 (hr n a1 l1 hJ1))
    obtain ⟨ex,rfl,hP⟩:=he
    cases ex with
    | normal =>
      obtain ⟨ax,lx,⟨m,a2,l2,hw2,hJ2,hlt⟩,hall⟩:=hP
      exact ⟨m,hlt,hgo ((show PostF N B T0 r _ l1 w1 (fun x y=>x = ax ∧ y = lx) act' w' from ⟨ax,lx,⟨rfl,rfl⟩,hall⟩).weak (fun a' l' hh=>by obtain ⟨rfl,rfl⟩:=hh;exact ⟨a2,l2,hw2,hJ2⟩))⟩
    | ret=>exact ⟨.ret,rfl,hgo hP⟩
    | exit id=>exact ⟨.exit id,rfl,hgo hP⟩
end
end Go.Proofs.Ytikgiadbkjmabaa

/- Functions: what is reckoned out of their text is what a call makes. No program in sight. -/
namespace Go.Proofs.Ytikgiadbkjmabaa
open Go.RowKit
set_option linter.unusedSimpArgs false
set_option linter.unusedVariables false

def resV (P:Program) (σ:Sto) (a:Fr):ResultVar → Option (Prop × AV)
  | .tmp t=>some (opd a (.tmp t))
  | .cell ad t=>with1 (opd a (.tmp ad)) (loadV P σ t)

def resSem (tmps:Array Value):ResultVar → Sem Value
  | .tmp t=>pure (tmps.getD t undef)
  | .cell ad t=>do loadVar t (← asAddr (tmps.getD ad undef))

def resL (P:Program) (σ:Sto) (a:Fr):List ResultVar → Option (Prop × List AV)
  | []=>some (True,[])
  | x :: xs=>match resV P σ a x,resL P σ a xs with
    | some (p,v),some (q,vs)=>some (p ∧ q,v :: vs)
    | _,_=>none

def retV (P:Program) (σ:Sto) (a:Fr) (rs:List ResultVar):Option (Prop × AV):=match resL P σ a rs with
  | some (p,[v])=>some (p,v)
  | some (p,vs)=>some (p,.tup vs)
  | none=>none

def frz (B:Nat) (σ:Sto) (v:AV):AV:=v.mapN (fun n len=>match σ n with
  | .arr _ _ rows=>if B ≤ n ∧ len ≤ rows.length then .d (.ro (rows.take len)) else .os n len
  | _=>.os n len) .lp .ap

def dropL (B:Nat) (l:Loc) (r:Sto):Sto:=sto (l.filter fun p=>decide (p.1 < B)) r

def entry:Nat → List AV → Fr
  | _,[]=>[]
  | i,v :: vs=>(i,v) :: entry (i + 1) vs

theorem entry_get:∀ (vs:List AV) (i t:Nat),Fr.get (entry i vs) t = if i ≤ t then (vs[t - i]?).getD .any else .any
  | [],i,t=>by simp [entry,Fr.get]
  | v :: vs,i,t=>by
    simp only [entry,Fr.get,entry_get vs (i + 1) t]
    by_cases h:i = t
    · subst h;simp
    · rw [if_neg h]
      by_cases h2:i ≤ t
      · rw [if_pos (by omega),if_pos h2]
        have:t - i = (t - (i + 1)) + 1:=by omega
        rw [this,List.getElem?_cons_succ]
      · rw [if_neg (by omega),if_neg h2]

section
variable {P:Program} {N B:Nat} {T0:List Nat} {r:Sto} {K:KS} {a:Fr} {l:Loc} {act:Act} {w:World}

theorem sto_dropL (B:Nat) (r:Sto):∀ (l:Loc) (n:Nat),n < B → sto (l.filter fun p=>decide (p.1 < B)) r n = sto l r n
  | [],n,_=>rfl
  | (m,o) :: l,n,hn=>by
    rw [List.filter_cons]
    split
    · simp only [sto_cons,sto_dropL B r l n hn]
    · rename_i h
      simp only [decide_eq_true_eq] at h
      rw [sto_cons,if_neg (by omega),sto_dropL B r l n hn]

theorem sto_dropL_ge (B:Nat) (r:Sto) (hr:ClosedS B r):∀ (l:Loc) (n:Nat),B ≤ n → sto (l.filter fun p=>decide (p.1 < B)) r n = .dead
  | [],n,hn=>(hr n).2 hn
  | (m,o) :: l,n,hn=>by
    rw [List.filter_cons]
    split
    · rename_i h
      simp only [decide_eq_true_eq] at h
      rw [sto_cons,if_neg (by omega)]
      exact sto_dropL_ge B r hr l n hn
    · exact sto_dropL_ge B r hr l n hn

theorem resV_ok (h:Std N r K a l act w) {x:ResultVar} {p:Prop} {v:AV} (he:resV P (sto l r) a x = some (p,v)) (hp:p) :
    ∃ y,(resSem act.tmps x).run P w = .ok y w ∧ Rep K w v y:=by
  cases x with
  | tmp t =>
    have e:=Option.some.inj he
    have:=h.op (.tmp t)
    unfold OpOk at this
    rw [e] at this
    exact ⟨_,rfl,this hp⟩
  | cell ad t =>
    obtain ⟨q,h1,rfl⟩:=with1_some he
    obtain ⟨y,h2,h3⟩:=loadV_ok h.rs (h.op (.tmp ad) hp.1) h1 hp.2
    refine ⟨y,?_,h3⟩
    simp only [resSem]
    have e:act.eval (.tmp ad) = act.tmps.getD ad undef:=rfl
    rw [e] at h2
    unfold Instr.loadAt at h2
    generalize act.tmps.getD ad undef = x at h2
    simp only [Sem.run_bind] at h2 ⊢
    cases x with
    | pointer o =>
      cases o with
      | none=>simp [Instr.sureAddr] at h2
      | some b=>simpa [Instr.sureAddr,asAddr] using h2
    | _=>simp [Instr.sureAddr] at h2

theorem resL_ok (h:Std N r K a l act w):∀ {xs:List ResultVar} {p:Prop} {vs:List AV},resL P (sto l r) a xs = some (p,vs) → p →
    ∃ ys:List Value,(xs.mapM (resSem act.tmps)).run P w = .ok ys w ∧ vs.length = ys.length ∧ ∀ (i:Nat) (c:AV) (x:Value),vs[i]? = some c → ys[i]? = some x → Rep K w c x
  | [],p,vs,he,_=>by cases he;exact ⟨[],rfl,rfl,by simp⟩
  | x :: xs,p,vs,he,hp=>by
    simp only [resL] at he
    split at he
    · rename_i p1 v p2 vs' h1 h2
      cases he
      obtain ⟨y,e1,e2⟩:=resV_ok h h1 hp.1
      obtain ⟨ys,e3,e4,e5⟩:=resL_ok h h2 hp.2
      refine ⟨y :: ys,?_,by simp [e4],fun i c z hc hz=>?_⟩
      · rw [List.mapM_cons]
        simp only [Sem.run_bind,e1,Result.andThen,e3,Sem.run_pure]
      · cases i with
        | zero=>simp at hc hz;subst hc;subst hz;exact e2
        | succ i=>exact e5 i c z (by simpa using hc) (by simpa using hz)
    · cases he

theorem retV_ok (h:Std N r K a l act w) {fn:Func} {p:Prop} {v:AV} (he:retV P (sto l r) a fn.results.toList = some (p,v)) (hp:p):∃ y,(results fn act.tmps).run P w = .ok y w ∧ Rep K w v y:=by
  unfold retV at he
  have go:∀ {p vs},resL P (sto l r) a fn.results.toList = some (p,vs) → p → ∃ ys:List Value,(results fn act.tmps).run P w = .ok (if h:ys.length = 1 then ys[0] else .tuple ys.toArray) w ∧ vs.length = ys.length ∧ ∀ (i:Nat) (c:AV) (x:Value),vs[i]? = some c → ys[i]? = some x → Rep K w c x:=fun {p vs} h1 h2=>by
    obtain ⟨ys,e1,e2,e3⟩:=resL_ok h h1 h2
    refine ⟨ys,?_,e2,e3⟩
    have er:results fn act.tmps = (do let vs ← fn.results.mapM (resSem act.tmps);pure (if h:vs.size = 1 then vs[0] else .tuple vs)):=by
      unfold results
      congr 2
    rw [er,Array.mapM_eq_mapM_toList]
    simp only [Sem.run_bind,Sem.run_map,e1,Result.andThen,Sem.run_pure]
    simp
  split at he
  · rename_i p' v' h1
    cases he
    obtain ⟨ys,e1,e2,e3⟩:=go h1 hp
    have hl:ys.length = 1:=by simpa using e2.symm
    rw [dif_pos hl] at e1
    exact ⟨_,e1,e3 0 _ _ rfl (List.getElem?_eq_getElem (by omega))⟩
  · rename_i p' vs hne h1
    cases he
    obtain ⟨ys,e1,e2,e3⟩:=go h1 hp
    have hl:ys.length ≠ 1:=fun e=>by
      rw [e] at e2
      obtain ⟨v,rfl⟩:=List.length_eq_one_iff.1 e2
      first | exact hne v h1 | exact hne v rfl | exact hne _ v rfl
    rw [dif_neg hl] at e1
    exact ⟨_,e1,.tup e2 e3⟩
  · cases he

theorem frz_ok (hB:ClosedS B r) (h:Std N r K a l act w) {v:AV} {x:Value} (hv:Rep K w v x) :
    ∃ K',Ext B T0 K (sto l r) w K' (dropL B l r) w ∧ RepS K' (dropL B l r) w ∧ Rep K' w (frz B (sto l r) v) x:=by
  let J:Nat → Prop:=fun b=>∃ n,B ≤ n ∧ (sto l r n).live K n ∧ b = K.blk n
  have hI:∀ b,K.I b → ({ K with I:=fun b=>K.I b ∨ J b }:KS).I b:=fun b hb=>.inl hb
  have hsame:∀ m,K.same ({ K with I:=fun b=>K.I b ∨ J b }:KS) m:=fun m=>⟨rfl,rfl,rfl,rfl⟩
  have hd:∀ n,(dropL B l r n).live K n → n < B ∧ (sto l r n).live K n:=fun n hn=>by
    unfold dropL at hn
    rcases Nat.lt_or_ge n B with h1 | h1
    · rw [sto_dropL B r l n h1] at hn;exact ⟨h1,hn⟩
    · rw [sto_dropL_ge B r hB l n h1] at hn;exact hn.elim
  refine ⟨{ K with I:=fun b=>K.I b ∨ J b },⟨fun m _ _=>hsame m,hI,Keep.refl _ _,fun b hb=>?_⟩,⟨h.rs.gl.up hI (Keep.refl _ _),fun b hb=>?_,fun n=>?_,fun i j hi hj e=>?_⟩,?_⟩
  · rcases hb with (hb | ⟨n,_,hl,rfl⟩) | ⟨n,hl,rfl⟩
    · exact .inl hb
    · exact .inr (.inr ⟨n,hl,rfl⟩)
    · exact .inr (.inr ⟨n,(hd n ((live_same (hsame n)).1 hl)).2,rfl⟩)
  · rcases hb with hb | ⟨n,_,hl,rfl⟩
    · exact h.rs.inI b hb
    · exact ((h.rs.obj n).lt hl).1
  · unfold dropL
    rcases Nat.lt_or_ge n B with h1 | h1
    · rw [sto_dropL B r l n h1]
      by_cases hl:(sto l r n).live K n
      · exact (h.rs.obj n).up (q:=fun _=>true) (K':={ K with I:=fun b=>K.I b ∨ J b }) hI (Keep.refl _ _) (fun m _=>hsame m) (hsame n) (fun hn hi=>hi.elim hn fun ⟨m,hm,hlm,e⟩=>by
          have:=h.rs.inj n m hl hlm e;omega) (fun _=>rfl) (AO.allN_true _)
      · have hO:=h.rs.obj n
        cases hσ:sto l r n with
        | dead=>trivial
        | box cs=>rw [hσ] at hl;exact absurd trivial hl
        | mp _ _=>rw [hσ] at hl;exact absurd trivial hl
        | arh _ _ _ _ _=>rw [hσ] at hl;exact absurd trivial hl
        | arr k E rows =>
          rw [hσ] at hl hO
          obtain ⟨h0,h1 | ⟨h1,_⟩⟩:=hO
          · exact ⟨h0,.inl h1⟩
          · exact absurd h1 hl
    · rw [sto_dropL_ge B r hB l n h1];trivial
  · have h1:=hd i ((live_same (hsame i)).1 hi)
    have h2:=hd j ((live_same (hsame j)).1 hj)
    exact h.rs.inj i j h1.2 h2.2 e
  · unfold frz
    refine Rep.map (q:=fun _=>true) hI (Keep.refl _ _) (fun n len _=>?_) (fun n o _=>.lp) (fun n k i j _=>.ap) hv (AV.allN_true v)
    have hos:Rep ({ K with I:=fun b=>K.I b ∨ J b }:KS) w (.os n len) (K.sl n len):=by
      have:K.sl n len = ({ K with I:=fun b=>K.I b ∨ J b }:KS).sl n len:=rfl
      rw [this];exact .os
    split
    · rename_i k E rows hσ
      split
      · rename_i hc
        refine .d ?_
        cases hnl:K.nl n
        · refine (h.rs.own_ro hσ hc.2).up (fun b hb=>?_) (Keep.refl _ _)
          rcases hb with hb | rfl
          · exact .inl hb
          · exact .inr ⟨n,hc.1,by rw [hσ];exact hnl,rfl⟩
        · have hO:=h.rs.obj n
          rw [hσ] at hO
          obtain ⟨_,⟨_,hr⟩ | ⟨h2,_⟩⟩:=hO
          · subst hr
            simp only [KS.sl,hnl,cond_true,List.take_nil]
            exact .nil
          · rw [hnl] at h2;cases h2
      · exact hos
    · exact hos

theorem Wk.refl (B:Nat) (T0:List Nat) (r:Sto) (a:Fr) (l:Loc):Wk B T0 r a l a l:=fun t w K h1 h2=>⟨K,Ext.refl _ _ _ _ _,h1,h2⟩
theorem Wk.trans {a a' a'':Fr} {l l' l'':Loc} (h:Wk B T0 r a l a' l') (h':Wk B T0 r a' l' a'' l''):Wk B T0 r a l a'' l'':=fun t w K h1 h2=>by
  obtain ⟨K',e1,e2,e3⟩:=h t w K h1 h2
  obtain ⟨K'',f1,f2,f3⟩:=h' t w K' e2 e3
  exact ⟨K'',e1.trans f1,f2,f3⟩

theorem ACalls_of {fl:Bool} {f:FuncId} {fn:Func} {code:Code} {sc:SC} {args:List AV} {l0:Loc} {T:List Nat} {R:AV → Sto → Prop} (hm:P.follows .mixedOrders = true) (hf:P.funcs[f]? = some fn) (hb:fn.body = some code) (hc:compB fl fn.ntmps code = some sc.erase) (hn:args.length ≤ fn.ntmps)
    (hcr:ClosedS B (sto l0 r) → ClosedS B r)
    (hsw:ClosedS B r → SW P B T r sc (fun ex a l=>(ex = .normal ∨ ex = .ret) ∧ ∃ a' l',Wk B T r a l a' l' ∧ ∃ p v,retV P (sto l' r) a' fn.results.toList = some (p,v) ∧ p ∧ R (frz B (sto l' r) v) (dropL B l' r)) (entry 0 args) l0):ACalls P f args (sto l0 r) B T R:=by
  intro xs w ⟨K0,hP0⟩
  refine calls_of_wp hf hb ?_
  have hcl:=hcr hP0.2.1
  have hlen:=hP0.2.2.1
  have hStd:∀ K,Pre args (sto l0 r) B xs w K → Std fn.ntmps r K (entry 0 args) l0 { tmps:=xs.toArray ++ Array.replicate (fn.ntmps - xs.toArray.size) undef,defers:=[] } w:=fun K ⟨hS,_,_,hreps⟩=>by
    refine ⟨hS,fun t=>?_,by simp;omega,rfl⟩
    rw [entry_get]
    simp only [Nat.zero_le,if_true,Nat.sub_zero]
    cases ht:args[t]? with
    | none=>exact .any
    | some v =>
      have hlt:t < xs.length:=by rw [← hlen];exact (List.getElem?_eq_some_iff.1 ht).1
      have:(xs.toArray ++ Array.replicate (fn.ntmps - xs.toArray.size) undef).getD t undef = xs[t]:=by
        rw [Array.getD_eq_getD_getElem?,Array.getElem?_append_left (by simpa using hlt)]
        simp [hlt]
      rw [this]
      exact hreps t v _ ht (List.getElem?_eq_getElem hlt)
  refine Code.wp_mono (fun e act' w' he=>?_) (SW_ok hm hcl sc code hc ⟨K0,hP0⟩ hStd (hsw hcl))
  obtain ⟨ex,rfl,hP⟩:=he
  obtain ⟨a',l',⟨hex,p,v,hret,hp,hR⟩,hall⟩:=hP.weak (k':=fun a' l'=>(ex = .normal ∨ ex = .ret) ∧ ∃ p v,retV P (sto l' r) a' fn.results.toList = some (p,v) ∧ p ∧ R (frz B (sto l' r) v) (dropL B l' r)) (fun a l ⟨h1,a',l',hw,h2⟩=>⟨a',l',hw,h1,h2⟩)
  obtain ⟨K1,_,g2⟩:=hall K0 hP0
  obtain ⟨y,e1,_⟩:=retV_ok g2 hret hp
  have fin:act'.defers = [] ∧ ∃ v,(results fn act'.tmps).run P w' = .ok v w' ∧ ∃ x v' σ',(Ending.returned v) = .returned x ∧ R v' σ' ∧ ∀ K,Pre args (sto l0 r) B xs w K → ∃ K',Ext B T K (sto l0 r) w K' σ' w' ∧ RepS K' σ' w' ∧ Rep K' w' v' x:=by
    refine ⟨g2.df,y,e1,y,_,_,rfl,hR,fun K hK=>?_⟩
    obtain ⟨K',g1,g2⟩:=hall K hK
    obtain ⟨y',f1,f2⟩:=retV_ok g2 hret hp
    rw [e1] at f1
    cases f1
    obtain ⟨K2,h1,h2,h3⟩:=frz_ok (T0:=T) hcl g2 f2
    exact ⟨K2,g1.trans h1,h2,h3⟩
  rcases hex with rfl | rfl
  · exact fin
  · exact fin
end

/-! ### which slots are still read -/

def addS (x:Nat) (l:List Nat):List Nat:=bif l.contains x then l else x :: l
def addA (xs l:List Nat):List Nat:=xs.foldl (fun l x=>addS x l) l
def Operand.slot:Operand → List Nat
  | .tmp t=>[t]
  | _=>[]
def SO.reads (o:SO):List Nat:=(o.op.opnds.flatMap Operand.slot) ++ (match o.guard with | some (t,_)=>[t] | none=>[])
def liveOps:List SO → List Nat → List Nat
  | [],L=>L
  | o :: os,L =>
    let L':=liveOps os L
    addA o.reads (match o.dst with | some d=>L'.filter (· ≠ d) | none=>L')

def OT.path:OT → List SO
  | .fst o t=>o :: t.path
  | .br o t _=>o :: t.path
  | _=>[]
def annot (R:List Nat):SC → List Nat → List (Nat × List Nat) → SC × List Nat
  | .skip,L,X=>(.skip,L)
  | .ret,L,X=>(.ret,R)
  | .exit id,L,X=>(.exit id,((X.find? (·.1 == id)).map (·.2)).getD [])
  | .reg ops,L,X=>(.reg ops,liveOps ops L)
  | .dreg fr o1 o2,L,X=>(.dreg fr o1 o2,liveOps o1 (liveOps o2 L))
  | .oreg t,L,X=>(.oreg t,liveOps t.path L)
  | .seq x y,L,X =>
    let y':=annot R y L X
    let x':=annot R x y'.2 X
    (.seq x'.1 (.keep y'.2 y'.1),x'.2)
  | .cond c x y,L,X =>
    let x':=annot R x L X
    let y':=annot R y L X
    (.cond c x'.1 y'.1,addA (Operand.slot c) (addA x'.2 y'.2))
  | .block id c,L,X =>
    let c':=annot R c L ((id,L) :: X)
    (.block id c'.1,c'.2)
  | .loop c,L,X =>
    let L1:=(annot R c [] X).2
    let c':=annot R c L1 X
    (.loop (.keep c'.2 c'.1),c'.2)
  | .keep s c,L,X=>annot R c L X

theorem annot_erase (R:List Nat):∀ (c:SC) (L:List Nat) (X:List (Nat × List Nat)),(annot R c L X).1.erase = c.erase
  | .skip,_,_=>rfl
  | .ret,_,_=>rfl
  | .exit _,_,_=>rfl
  | .reg _,_,_=>rfl
  | .dreg _ _ _,_,_=>rfl
  | .oreg _,_,_=>rfl
  | .seq x y,L,X=>by simp only [annot,SC.erase,annot_erase R x,annot_erase R y]
  | .cond c x y,L,X=>by simp only [annot,SC.erase,annot_erase R x,annot_erase R y]
  | .block id c,L,X=>by simp only [annot,SC.erase,annot_erase R c]
  | .loop c,L,X=>by simp only [annot,SC.erase,annot_erase R c]
  | .keep s c,L,X=>by simp only [annot,SC.erase,annot_erase R c]

theorem compC_bare {fl:Bool} (N:Nat):∀ (code:Code) (sc:SC),compB fl N code = some sc → sc.erase = sc:=by
  intro code
  induction code with
  | seq x y ihx ihy =>
    intro sc h
    simp only [compB] at h
    split at h
    · rename_i a b h1 h2;cases h;simp only [SC.erase,ihx a h1,ihy b h2]
    · cases h
  | cond c x y ihx ihy =>
    intro sc h
    simp only [compB] at h
    split at h
    · rename_i a b h1 h2;cases h;simp only [SC.erase,ihx a h1,ihy b h2]
    · cases h
  | block id x ih=>intro sc h;simp only [compB,Option.map_eq_some_iff] at h;obtain ⟨a,h2,rfl⟩:=h;simp only [SC.erase,ih a h2]
  | loop x ih=>intro sc h;simp only [compB,Option.map_eq_some_iff] at h;obtain ⟨a,h2,rfl⟩:=h;simp only [SC.erase,ih a h2]
  | region id ops draw =>
    intro sc h
    cases draw
    · simp only [compB,Option.map_eq_some_iff] at h;obtain ⟨ss,h2,rfl⟩:=h;rfl
    · simp only [compB] at h
      split at h
      · cases h;rfl
      · simp only [Option.map_eq_some_iff] at h;obtain ⟨ss,h2,rfl⟩:=h;rfl
  | skip=>intro sc h;cases h;rfl
  | ret=>intro sc h;cases h;rfl
  | exit id=>intro sc h;cases h;rfl
  | _=>intro sc h;cases h

def resSlots (rs:List ResultVar):List Nat:=rs.map fun | .tmp t=>t | .cell t _=>t

def annB (fl:Bool) (fn:Func):Option SC:=fn.body.bind fun c=>(compB fl fn.ntmps c).map fun sc=>(annot (resSlots fn.results.toList) sc [] []).1
abbrev annC (fn:Func):Option SC:=annB false fn
def SWo (P:Program) (B:Nat) (T0:List Nat) (r:Sto) (o:Option SC) (Q:Ex → Fr → Loc → Prop) (a:Fr) (l:Loc):Prop:=match o with
  | some sc=>SW P B T0 r sc Q a l
  | none=>False

def EndV (P:Program) (B:Nat) (r:Sto) (rs:List ResultVar) (R:AV → Sto → Prop) (a:Fr) (l:Loc):Prop:=match retV P (sto l r) a rs with
    | some (p,v)=>p ∧ R (frz B (sto l r) v) (dropL B l r)
    | none=>False
def EndK (P:Program) (B:Nat) (r:Sto) (rs:List ResultVar) (R:AV → Sto → Prop):Ex → Fr → Loc → Prop
  | .exit _,_,_=>False
  | _,a,l=>EndV P B r rs R a l
def EndW (P:Program) (B:Nat) (T:List Nat) (r:Sto) (rs:List ResultVar) (R:AV → Sto → Prop):Ex → Fr → Loc → Prop
  | .exit _,_,_=>False
  | _,a,l=>∃ a' l',Wk B T r a l a' l' ∧ EndV P B r rs R a' l'

theorem ACalls_atw {fl:Bool} {P:Program} {f:FuncId} {fn:Func} {args:List AV} {l0:Loc} {r:Sto} {B:Nat} {T:List Nat} {R:AV → Sto → Prop} (hm:P.follows .mixedOrders = true) (hf:P.funcs[f]? = some fn) (hn:args.length ≤ fn.ntmps)
    (hcr:ClosedS B (sto l0 r) → ClosedS B r) (hsw:ClosedS B r → SWo P B T r (annB fl fn) (EndW P B T r fn.results.toList R) (entry 0 args) l0):ACalls P f args (sto l0 r) B T R:=by
  cases hb:fn.body with
  | none =>
    intro xs w ⟨K,hP⟩
    have:=hsw (hcr hP.2.1)
    simp [annB,hb,SWo] at this
  | some code =>
    cases hc:compB fl fn.ntmps code with
    | none =>
      intro xs w ⟨K,hP⟩
      have:=hsw (hcr hP.2.1)
      simp [annB,hb,hc,SWo] at this
    | some sc =>
      refine ACalls_of (sc:=(annot (resSlots fn.results.toList) sc [] []).1) hm hf hb (by rw [hc,annot_erase,compC_bare _ _ _ hc]) hn hcr fun hcl=>?_
      have:=hsw hcl
      simp only [annB,hb,hc,Option.bind_some,Option.map_some,SWo] at this
      have e:EndW P B T r fn.results.toList R = fun ex a l=>(ex = .normal ∨ ex = .ret) ∧ ∃ a' l',Wk B T r a l a' l' ∧ ∃ p v,retV P (sto l' r) a' fn.results.toList = some (p,v) ∧ p ∧ R (frz B (sto l' r) v) (dropL B l' r):=by
        have ev:∀ a l,EndV P B r fn.results.toList R a l = ∃ p v,retV P (sto l r) a fn.results.toList = some (p,v) ∧ p ∧ R (frz B (sto l r) v) (dropL B l r):=fun a l=>by
          unfold EndV
          cases h:retV P (sto l r) a fn.results.toList with
          | none=>simp
          | some x =>
            obtain ⟨p,v⟩:=x
            exact propext ⟨fun h=>⟨p,v,rfl,h⟩,fun ⟨p',v',e,h⟩=>by cases e;exact h⟩
        funext ex a l
        unfold EndW
        cases ex<;>simp [ev]
      rw [e] at this
      exact this

theorem SWL_mono {P:Program} {B:Nat} {T:List Nat} {r:Sto}:∀ {ss:List SO} {k k':Fr → Loc → Prop} {a:Fr} {l:Loc},(∀ a l,k a l → k' a l) → SWL P B T r ss k a l → SWL P B T r ss k' a l:=by
  have hE:∀ {s:SOp} {d:Option Nat} {k k':Fr → Loc → Prop} {a:Fr} {l:Loc},(∀ a l,k a l → k' a l) → SE P B T r d k a l s → SE P B T r d k' a l s:=by
    intro s d k k' a l hk h
    cases hnc:s.isCall with
    | false =>
      obtain ⟨A,L,h1,h2⟩:=SE_split hnc h
      obtain ⟨A',L',⟨e1,e2⟩,h3⟩:=SE_split (k:=fun a' l'=>a' = A ∧ l' = L) hnc h2
      clear h3 e1 e2 A' L'
      cases s<;>simp only [SE] at h2 ⊢<;>(try (cases hnc;done))
      case alloc t =>
        unfold SEalloc at h2 ⊢
        split at h2
        · obtain ⟨rfl,rfl⟩:=h2;exact hk _ _ h1
        · exact h2.elim
      case mkmap t =>
        unfold SEmkmap at h2 ⊢
        split at h2
        · obtain ⟨rfl,rfl⟩:=h2;exact hk _ _ h1
        · exact h2.elim
      case clr t x =>
        unfold SEclr at h2 ⊢
        split at h2
        · split at h2
          · obtain ⟨g1,g2,g3,g4,g5,g6,rfl,rfl⟩:=h2;exact ⟨g1,g2,g3,g4,g5,g6,hk _ _ h1⟩
          · exact h2.elim
        · exact h2.elim
      case mset t x y v =>
        unfold SEmset at h2 ⊢
        split at h2
        · split at h2
          · obtain ⟨g1,g2,g3,g4,g5,rfl,rfl⟩:=h2;exact ⟨g1,g2,g3,g4,g5,hk _ _ h1⟩
          · exact h2.elim
        · exact h2.elim
      case conv s t x =>
        unfold SEconv at h2 ⊢
        split at h2
        · split at h2
          · obtain ⟨g1,g2,rfl,rfl⟩:=h2;exact ⟨g1,g2,hk _ _ h1⟩
          · exact h2.elim
        · exact h2.elim
      case box t x =>
        unfold SEbox at h2 ⊢
        split at h2
        · obtain ⟨g,rfl,rfl⟩:=h2;exact ⟨g,hk _ _ h1⟩
        · exact h2.elim
      case store t p x =>
        unfold SEstore at h2 ⊢
        split at h2
        · split at h2
          · obtain ⟨g1,g2,g3,g4,rfl,rfl⟩:=h2;exact ⟨g1,g2,g3,g4,hk _ _ h1⟩
          · exact h2.elim
        · split at h2
          · obtain ⟨g1,g2,g3,g4,g5,g6,rfl,rfl⟩:=h2;exact ⟨g1,g2,g3,g4,g5,g6,hk _ _ h1⟩
          · obtain ⟨g1,g2,g3,g4,g5,g6,rfl,rfl⟩:=h2;exact ⟨g1,g2,g3,g4,g5,g6,hk _ _ h1⟩
          · obtain ⟨g1,g2,g3,g4,g5,g6,rfl,rfl⟩:=h2;exact ⟨g1,g2,g3,g4,g5,g6,hk _ _ h1⟩
          · exact h2.elim
        · exact h2.elim
      case bslice t n ps =>
        unfold SEbs at h2 ⊢
        generalize litH _ n (ps.map fun p=>(opd a p.2).2) = b9 at h2 ⊢
        cases b9<;>simp only [cond_true,cond_false] at h2 ⊢
        rotate_left 1
        · unfold SEbsH at h2 ⊢
          split at h2
          · obtain ⟨g0,g,rfl,rfl⟩:=h2;exact ⟨g0,g,hk _ _ h1⟩
          · exact h2.elim
        generalize ownLit _ n = bb at h2 ⊢
        cases bb<;>simp only [cond_true,cond_false] at h2 ⊢
        · split at h2
          · obtain ⟨g,rfl,rfl⟩:=h2;exact ⟨g,hk _ _ h1⟩
          · split at h2
            · split at h2
              · split at h2
                · rename_i hm
                  simp only [if_pos hm]
                  unfold SEbs0 at h2 ⊢
                  split at h2
                  · obtain ⟨g,rfl,rfl⟩:=h2;exact ⟨g,hk _ _ h1⟩
                  · exact h2.elim
                · rename_i hm
                  simp only [if_neg hm]
                  unfold SEbsH at h2 ⊢
                  split at h2
                  · obtain ⟨g0,g,rfl,rfl⟩:=h2;exact ⟨g0,g,hk _ _ h1⟩
                  · exact h2.elim
              · exact h2.elim
            · exact h2.elim
        · split at h2
          · obtain ⟨g,rfl,rfl⟩:=h2;exact ⟨g,hk _ _ h1⟩
          · exact h2.elim
      case app t u s x =>
        unfold SEapp at h2 ⊢
        split at h2
        · split at h2
          · obtain ⟨g1,g2,g3,g4,g5,g6,g7,g8,g9,g10,rfl,rfl⟩:=h2;exact ⟨g1,g2,g3,g4,g5,g6,g7,g8,g9,g10,hk _ _ h1⟩
          · unfold SEapB at h2 ⊢
            split at h2
            · split at h2
              · obtain ⟨g1,g2,g3,g4,g5,g6,g7,g8,g9,g10,g11,g12,rfl,rfl⟩:=h2;exact ⟨g1,g2,g3,g4,g5,g6,g7,g8,g9,g10,g11,g12,hk _ _ h1⟩
              · exact h2.elim
            · exact h2.elim
          · unfold SEapA at h2 ⊢
            split at h2
            · split at h2
              · obtain ⟨g1,g2,g3,g4,g5,g6,g7,g8,g9,rfl,rfl⟩:=h2;exact ⟨g1,g2,g3,g4,g5,g6,g7,g8,g9,hk _ _ h1⟩
              · exact h2.elim
            · exact h2.elim
          · exact h2.elim
        · exact h2.elim
      case mkslice t ln c =>
        unfold SEmk at h2 ⊢
        split at h2
        · obtain ⟨g1,g2,g3,g4,g5,g6,g7,g8,rfl,rfl⟩:=h2;exact ⟨g1,g2,g3,g4,g5,g6,g7,g8,hk _ _ h1⟩
        · exact h2.elim
    | true =>
      cases s<;>simp only [SE] at h ⊢<;>(try (cases hnc;done))
      case call f args =>
        obtain ⟨T,R,a1,l1,g1,g2,g3,g4,g5,g6,g7,g8⟩:=h
        exact ⟨T,R,a1,l1,g1,g2,g3,g4,g5,g6,g7,fun v σ' hR=>by obtain ⟨l',e,h⟩:=g8 v σ' hR;exact ⟨l',e,hk _ _ h⟩⟩
      case callv x args =>
        obtain ⟨T,R,a1,l1,g1,g2,g3,g4,g5,g6,g7,g8⟩:=h
        exact ⟨T,R,a1,l1,g1,g2,g3,g4,g5,g6,g7,fun v σ' hR=>by obtain ⟨l',e,h⟩:=g8 v σ' hR;exact ⟨l',e,hk _ _ h⟩⟩
      case cap t x =>
        unfold SEcap at h ⊢
        split at h
        · split at h
          · exact ⟨h.1,h.2.1,fun c hc=>hk _ _ (h.2.2 c hc)⟩
          · exact h.elim
        · exact ⟨h.1,hk _ _ h.2⟩
        · exact ⟨h.1,hk _ _ h.2⟩
        · exact ⟨h.1,fun c hc=>hk _ _ (h.2 c hc)⟩
        · exact h.elim
      case bin op t x y =>
        have key:∀ ng,SEnil P r ng d k a l t x y → SEnil P r ng d k' a l t x y:=fun ng h=>by
          unfold SEnil at h ⊢
          split at h
          · exact ⟨h.1,h.2.1,fun b hb=>hk _ _ (h.2.2 b hb)⟩
          · exact h.elim
        cases op<;>simp only [SEbin] at h ⊢<;>exact key _ h
  intro ss
  induction ss with
  | nil=>intro k k' a l hk h;exact hk _ _ h
  | cons o os ih =>
    intro k k' a l hk h
    unfold SWL at h ⊢
    split at h
    · unfold SO1 at h ⊢
      split at h
      · exact ⟨h.1,ih hk h.2⟩
      · exact hE (fun a l h=>ih hk h) h
    · unfold SOg at h ⊢
      split at h
      · rename_i b _ _ p c _
        by_cases hcb:c = b
        · rw [if_pos hcb] at h ⊢
          split at h
          · exact ⟨h.1,ih hk h.2⟩
          · rcases h with ⟨v,h1,h2⟩ | ⟨h1,h2⟩
            · exact .inl ⟨v,h1,ih hk h2⟩
            · exact .inr ⟨h1,hE (fun a l h=>ih hk h) h2⟩
        · rw [if_neg hcb] at h ⊢
          exact ih hk h
      · exact h.elim

theorem SWD_mono {P:Program} {B:Nat} {C:List Nat} {σ0:Sto} {l0:Loc}:∀ {ss:List SO} {k k':Fr → Loc → Prop} {a:Fr} {nw:Loc},(∀ a l,k a l → k' a l) → SWD P B C σ0 l0 ss k a nw → SWD P B C σ0 l0 ss k' a nw
  | [],k,k',a,nw,hk,h=>hk _ _ h
  | o :: os,k,k',a,nw,hk,h=>by
    unfold SWD at h ⊢
    split at h
    · obtain ⟨v,ob,h1,h2⟩:=SDv_split h
      unfold SDv at h2 ⊢
      have go:=fun v ob (h:SWD P B C σ0 l0 os k (putO o.dst v a) (addN B o.dst ob nw))=>SWD_mono hk h
      split at h2
      · obtain ⟨g1,g2,rfl,rfl⟩:=h2;exact ⟨g1,g2,go _ _ h1⟩
      · split at h2
        · split at h2
          · obtain ⟨rfl,rfl⟩:=h2;exact go _ _ h1
          · exact h2.elim
        · split at h2
          · obtain ⟨g1,g2,rfl,rfl⟩:=h2;exact ⟨g1,g2,go _ _ h1⟩
          · exact h2.elim
        · split at h2
          · obtain ⟨g1,rfl,rfl⟩:=h2;exact ⟨g1,go _ _ h1⟩
          · exact h2.elim
        · split at h2
          · split at h2
            · obtain ⟨g1,g2,g3,g4,g5,g6,g7,g8,rfl,rfl⟩:=h2;exact ⟨g1,g2,g3,g4,g5,g6,g7,g8,go _ _ h1⟩
            · exact h2.elim
          · exact h2.elim
        · obtain ⟨v',g1,g2,g3,g4,g5,rfl,rfl⟩:=h2;exact ⟨v',g1,g2,g3,g4,g5,go _ _ h1⟩
        · obtain ⟨v',g1,g2,g3,g4,g5,rfl,rfl⟩:=h2;exact ⟨v',g1,g2,g3,g4,g5,go _ _ h1⟩
        · exact h2.elim
    · split at h
      · rename_i b _ _ p c _
        by_cases hcb:c = b
        · rw [if_pos hcb] at h ⊢
          split at h
          · exact ⟨h.1,h.2.1,SWD_mono hk h.2.2⟩
          · obtain ⟨v,h1,h2,h3⟩:=h
            exact ⟨v,h1,h2,SWD_mono hk h3⟩
        · rw [if_neg hcb] at h ⊢
          exact SWD_mono hk h
      · exact h.elim

theorem SWLn_mono {P:Program} {r:Sto} {NR:List Nat}:∀ {ss:List SO} {k k':Fr → Loc → Prop} {a:Fr} {l:Loc},(∀ a l,k a l → k' a l) → SWLn P r NR ss k a l → SWLn P r NR ss k' a l
  | [],k,k',a,l,hk,h=>hk _ _ h
  | o :: os,k,k',a,l,hk,h=>by
    unfold SWLn at h ⊢
    split at h
    · split at h
      · exact ⟨h.1,SWLn_mono hk h.2⟩
      · split at h
        · refine ⟨h.1,?_⟩
          have h2:=h.2
          unfold SEstore at h2 ⊢
          split at h2
          · split at h2
            · obtain ⟨g1,g2,g3,g4,g5⟩:=h2;exact ⟨g1,g2,g3,g4,SWLn_mono hk g5⟩
            · exact h2.elim
          · split at h2
            · obtain ⟨g1,g2,g3,g4,g5,g6,g7⟩:=h2;exact ⟨g1,g2,g3,g4,g5,g6,SWLn_mono hk g7⟩
            · obtain ⟨g1,g2,g3,g4,g5,g6,g7⟩:=h2;exact ⟨g1,g2,g3,g4,g5,g6,SWLn_mono hk g7⟩
            · obtain ⟨g1,g2,g3,g4,g5,g6,g7⟩:=h2;exact ⟨g1,g2,g3,g4,g5,g6,SWLn_mono hk g7⟩
            · exact h2.elim
          · exact h2.elim
        · exact h.elim
    · exact h.elim

theorem OSW_mono {P:Program} {B:Nat} {T:List Nat} {r:Sto}:∀ (t:OT) {k k':Fr → Loc → Prop} {a:Fr} {l:Loc},(∀ a l,k a l → k' a l) → OSW P B T r t k a l → OSW P B T r t k' a l
  | .done,k,k',a,l,hk,h=>hk _ _ h
  | .nil,k,k',a,l,hk,h=>trivial
  | .fst o t,k,k',a,l,hk,h=>SWL_mono (fun a l h=>OSW_mono t hk h) h
  | .br o t rest,k,k',a,l,hk,h=>⟨SWL_mono (fun a l h=>OSW_mono t hk h) h.1,OSW_mono rest hk h.2⟩
theorem SW_mono {P:Program} {B:Nat} {T:List Nat} {r:Sto} (sc:SC):∀ {Q Q':Ex → Fr → Loc → Prop} {a:Fr} {l:Loc},(∀ e a l,Q e a l → Q' e a l) → SW P B T r sc Q a l → SW P B T r sc Q' a l:=by
  induction sc with
  | skip=>intro Q Q' a l hq h;exact hq _ _ _ h
  | ret=>intro Q Q' a l hq h;exact hq _ _ _ h
  | exit id=>intro Q Q' a l hq h;exact hq _ _ _ h
  | reg ops=>intro Q Q' a l hq h;exact SWL_mono (fun a l h=>hq _ _ _ h) h
  | dreg fr o1 o2 =>
    intro Q Q' a l hq h
    refine ⟨h.1,h.2.1,SWD_mono (fun a l h=>?_) h.2.2⟩
    cases fr
    · exact SWL_mono (fun a l h=>hq _ _ _ h) h
    · exact SWLn_mono (fun a l h=>hq _ _ _ h) h
  | oreg t=>intro Q Q' a l hq h;exact OSW_mono t (fun a l h=>hq _ _ _ h) h
  | seq x y ihx ihy =>
    intro Q Q' a l hq h
    refine ihx (fun e a l h=>?_) h
    cases e
    · exact ihy hq h
    · exact hq _ _ _ h
    · exact hq _ _ _ h
  | cond x c e ihc ihe =>
    intro Q Q' a l hq h
    simp only [SW] at h ⊢
    split at h
    · exact ⟨h.1,fun hb=>ihc hq (h.2.1 hb),fun hb=>ihe hq (h.2.2 hb)⟩
    · exact h.elim
  | block id c ih =>
    intro Q Q' a l hq h
    refine ih (fun e a l h=>?_) h
    cases e
    · exact hq _ _ _ h
    · exact hq _ _ _ h
    · simp only [blkK] at h ⊢
      split at h
      · rename_i hid;rw [if_pos hid];exact hq _ _ _ h
      · rename_i hid;rw [if_neg hid];exact hq _ _ _ h
  | loop c ih =>
    intro Q Q' a l hq h
    obtain ⟨J,h0,h1⟩:=h
    refine ⟨J,h0,fun n a l hJ=>ih (fun e a l h=>?_) (h1 n a l hJ)⟩
    cases e
    · exact h
    · exact hq _ _ _ h
    · exact hq _ _ _ h
  | keep s c ih=>intro Q Q' a l hq h;exact ih hq h

theorem ACalls_at {fl:Bool} {P:Program} {f:FuncId} {fn:Func} {args:List AV} {l0:Loc} {r:Sto} {B:Nat} {T:List Nat} {R:AV → Sto → Prop} (hm:P.follows .mixedOrders = true) (hf:P.funcs[f]? = some fn) (hn:args.length ≤ fn.ntmps)
    (hcr:ClosedS B (sto l0 r) → ClosedS B r) (hsw:ClosedS B r → SWo P B T r (annB fl fn) (EndK P B r fn.results.toList R) (entry 0 args) l0):ACalls P f args (sto l0 r) B T R:=by
  refine ACalls_atw (fl:=fl) hm hf hn hcr fun hcl=>?_
  have:=hsw hcl
  unfold SWo at this ⊢
  split at this
  · refine SW_mono _ (fun e a l h=>?_) this
    cases e
    · exact ⟨a,l,Wk.refl _ _ _ _ _,h⟩
    · exact ⟨a,l,Wk.refl _ _ _ _ _,h⟩
    · exact h
  · exact this
end Go.Proofs.Ytikgiadbkjmabaa
