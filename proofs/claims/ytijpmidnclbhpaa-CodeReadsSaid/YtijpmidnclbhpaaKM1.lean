/- A closure that reads one thing more and puts it behind a list. -/
import Derived.Test.YtijpmidnclbhpaaBase
import Derived.Test.YtijpmidnclbhpaaKM0
import Derived.Test.YtijpmidnclbhpaaNameB

/- An own array,only read from now on;what boxes say of it too. -/
namespace Go.Proofs.Ytijpmidnclbhpaa
open Go.RowKit
set_option maxHeartbeats 4000000
set_option maxRecDepth 20000
attribute [local irreducible] SW OSW SWL SWLn SWD SEcall SEcallv SDv SE SO1 SOg ACalls ACallv Wk EndV
set_option linter.unusedSimpArgs false
set_option linter.unusedVariables false
def AO.fzB (m:Nat) (rows:List (List RV)):AO → AO
  | .box cs=>.box (cs.map (AV.fz1 m rows))
  | o=>o
def Loc.fzB (m:Nat) (rows:List (List RV)) (l:Loc):Loc:=(l.filter fun p=>p.1 ≠ m).map fun p=>(p.1,p.2.fzB m rows)
theorem AO.fzB_live (m:Nat) (rows:List (List RV)) (K:KS) (n:Nat) (o:AO):(o.fzB m rows).live K n = o.live K n:=by cases o<;>rfl
mutual
theorem AV.fz1_below {B m:Nat} {rows:List (List RV)} (hB:B ≤ m):∀ v:AV,v.allN (fun x=>decide (x < B)) = true → AV.fz1 m rows v = v
  | .any,_ | .d _,_ | .emp,_ | .rp _,_=>rfl
  | .gd p v,h=>by
    have:=AV.fz1_below (rows:=rows) hB v h
    unfold AV.fz1 at this ⊢
    simp only [AV.mapN,this]
  | .agg cs,h=>by
    have:=AV.fz1L_below (rows:=rows) hB cs h
    unfold AV.fz1
    simp only [AV.mapN,this]
  | .tup cs,h=>by
    have:=AV.fz1L_below (rows:=rows) hB cs h
    unfold AV.fz1
    simp only [AV.mapN,this]
  | .clo f a b,h=>by
    simp only [AV.allN,Bool.and_eq_true] at h
    have h1:=AV.fz1L_below (rows:=rows) hB a h.1
    have h2:=AV.fz1L_below (rows:=rows) hB b h.2
    unfold AV.fz1
    simp only [AV.mapN,h1,h2]
  | .os n l,h=>by
    have:n ≠ m:=by simp only [AV.allN,decide_eq_true_eq] at h;omega
    simp [AV.fz1,AV.mapN,this]
  | .lp n o,h=>by
    have:n ≠ m:=by simp only [AV.allN,decide_eq_true_eq] at h;omega
    simp [AV.fz1,AV.mapN,this]
  | .ap n k i j,h=>by
    have:n ≠ m:=by simp only [AV.allN,decide_eq_true_eq] at h;omega
    simp [AV.fz1,AV.mapN,this]
  | .mp n,h=>by
    have:n ≠ m:=by simp only [AV.allN,decide_eq_true_eq] at h;omega
    simp [AV.fz1,AV.mapN,this]
theorem AV.fz1L_below {B m:Nat} {rows:List (List RV)} (hB:B ≤ m):∀ cs:List AV,AV.allNL (fun x=>decide (x < B)) cs = true → AV.mapNL (fun (n:Nat) (len:Nat)=>if n = m then (if len ≤ rows.length then .d (.ro (rows.take len)) else .any) else .os n len) (fun x o=>if x = m then .any else .lp x o) (fun x k i j=>if x = m then .any else .ap x k i j) cs = cs
  | [],_=>rfl
  | c :: cs,h=>by
    simp only [AV.allNL,Bool.and_eq_true] at h
    have h1:=AV.fz1_below (rows:=rows) hB c h.1
    have h2:=AV.fz1L_below (rows:=rows) hB cs h.2
    unfold AV.fz1 at h1
    simp only [AV.mapNL,h1,h2]
end
theorem AO.fzB_id {m B:Nat} {rows:List (List RV)} {o:AO} (hB:B ≤ m) (h:o.allN (fun x=>decide (x < B)) = true):o.fzB m rows = o:=by
  cases o with
  | box cs =>
    simp only [AO.fzB,AO.box.injEq]
    simp only [AO.allN] at h
    have key:∀ c ∈ cs,AV.fz1 m rows c = c:=fun c hc=>AV.fz1_below hB c (AV.allNL_iff.1 h c hc)
    rw [List.map_congr_left key,List.map_id']
  | _=>rfl
theorem sto_fzB {B m:Nat} {rows:List (List RV)} {r:Sto} (hB:ClosedS B r) (hm:B ≤ m):∀ (l:Loc) (x:Nat),x ≠ m → sto (Loc.fzB m rows l) r x = (sto l r x).fzB m rows
  | [],x,hx=>by
    show r x = (r x).fzB m rows
    exact (AO.fzB_id hm (hB x).1).symm
  | (y,o) :: l,x,hx=>by
    have ih:=sto_fzB (rows:=rows) hB hm l x hx
    unfold Loc.fzB at ih ⊢
    rw [List.filter_cons]
    by_cases hy:y = m
    · subst hy
      rw [if_neg (by simp),sto_cons,if_neg hx]
      exact ih
    · rw [if_pos (by simpa using hy),List.map_cons,sto_cons,sto_cons]
      split
      · rfl
      · exact ih
theorem sto_fzB_m {m:Nat} {rows:List (List RV)} {r:Sto}:∀ (l:Loc),sto (Loc.fzB m rows l) r m = r m
  | []=>rfl
  | (y,o) :: l=>by
    have ih:=sto_fzB_m (m:=m) (rows:=rows) (r:=r) l
    unfold Loc.fzB at ih ⊢
    rw [List.filter_cons]
    by_cases hy:y = m
    · subst hy
      rw [if_neg (by simp)];exact ih
    · rw [if_pos (by simpa using hy),List.map_cons,sto_cons,if_neg (fun e=>hy e.symm)]
      exact ih
theorem freezeB_rep {K:KS} {σ:Sto} {w:World} {m k:Nat} {E:TypeId} {rows:List (List RV)} (hS:RepS K σ w) (ho:σ m = .arr k E rows) {v:AV} {x:Value} (h:Rep K w v x):Rep ({ K with I:=fun b=>K.I b ∨ ((σ m).live K m ∧ b = K.blk m) }:KS) w (AV.fz1 m rows v) x:=by
  unfold AV.fz1
  refine Rep.map (K:=K) (w:=w) (K':={ K with I:=fun b=>K.I b ∨ ((σ m).live K m ∧ b = K.blk m) }) (q:=fun _=>true) (fun b hb=>Or.inl hb) (Keep.refl _ _) (fun n len _=>?_) (fun n o _=>?_) (fun n k i j _=>?_) h (AV.allN_true _)
  · have hos:Rep ({ K with I:=fun b=>K.I b ∨ ((σ m).live K m ∧ b = K.blk m) }:KS) w (.os n len) (K.sl n len):=by
      have:K.sl n len = ({ K with I:=fun b=>K.I b ∨ ((σ m).live K m ∧ b = K.blk m) }:KS).sl n len:=rfl
      rw [this];exact .os
    split
    · rename_i e
      subst e
      split
      · rename_i hc
        refine .d ?_
        cases hnl:K.nl n
        · refine (hS.own_ro ho hc).up (fun b hb=>?_) (Keep.refl _ _)
          rcases hb with hb | rfl
          · exact .inl hb
          · exact .inr ⟨by rw [ho];exact hnl,rfl⟩
        · have hO:=hS.obj n
          rw [ho] at hO
          obtain ⟨_,⟨_,hr⟩ | ⟨h2,_⟩⟩:=hO
          · subst hr
            simp only [KS.sl,hnl,cond_true,List.take_nil]
            exact .nil
          · rw [hnl] at h2;cases h2
      · exact .any
    · exact hos
  · first
    | exact .lp
    | (split
       · exact .any
       · exact .lp)
  · first
    | exact .ap
    | (split
       · exact .any
       · exact .ap)
theorem Wk.freezeB {B:Nat} {T0:List Nat} {r:Sto} {a:Fr} {l:Loc} {m k:Nat} {E:TypeId} {rows:List (List RV)} (hB:ClosedS B r) (hm:B ≤ m) (ho:sto l r m = .arr k E rows):Wk B T0 r a l (Fr.map (AV.fz1 m rows) a) (Loc.fzB m rows l):=by
  unfold Wk
  intro t w K hrs hrf
  have hσ:∀ x,sto (Loc.fzB m rows l) r x = .dead ∧ x = m ∨ x ≠ m ∧ sto (Loc.fzB m rows l) r x = (sto l r x).fzB m rows:=fun x=>by
    by_cases hx:x = m
    · subst hx
      exact .inl ⟨by rw [sto_fzB_m];exact (hB x).2 hm,rfl⟩
    · exact .inr ⟨hx,sto_fzB hB hm l x hx⟩
  let K':KS:={ K with I:=fun b=>K.I b ∨ ((sto l r m).live K m ∧ b = K.blk m) }
  have hI:∀ b,K.I b → K'.I b:=fun b hb=>.inl hb
  have hsame:∀ x,K.same K' x:=fun x=>⟨rfl,rfl,rfl,rfl⟩
  have hlive:∀ x,(sto (Loc.fzB m rows l) r x).live K x → x ≠ m ∧ (sto l r x).live K x:=fun x hl=>by
    rcases hσ x with ⟨e,_⟩ | ⟨hx,e⟩
    · rw [e] at hl;exact hl.elim
    · rw [e,AO.fzB_live] at hl;exact ⟨hx,hl⟩
  refine ⟨K',⟨fun x _ _=>hsame x,hI,Keep.refl _ _,fun b hb=>?_⟩,⟨hrs.gl.up hI (Keep.refl _ _),fun b hb=>?_,fun x=>?_,fun i j hi hj e=>?_⟩,fun s=>?_⟩
  · rcases hb with (hb | ⟨hl,rfl⟩) | ⟨x,hl,rfl⟩
    · exact .inl hb
    · exact .inr (.inr ⟨m,hl,rfl⟩)
    · exact .inr (.inr ⟨x,(hlive x ((live_same (hsame x)).1 hl)).2,rfl⟩)
  · rcases hb with hb | ⟨hl,rfl⟩
    · exact hrs.inI b hb
    · exact ((hrs.obj m).lt hl).1
  · rcases hσ x with ⟨e,_⟩ | ⟨hx,e⟩
    · rw [e];trivial
    · rw [e]
      have hO:=hrs.obj x
      cases hs:sto l r x with
      | dead=>trivial
      | box cs =>
        rw [hs] at hO
        obtain ⟨g1,xs,T,g2,g3,g4,g5⟩:=hO
        refine ⟨fun hi=>hi.elim g1 fun ⟨hlm,e⟩=>hx (hrs.inj x m (by rw [hs];trivial) hlm e),xs,T,g2,by simpa using g3,fun i c y hc hy=>?_,g5⟩
        rw [List.getElem?_map] at hc
        cases hci:cs[i]? with
        | none=>rw [hci] at hc;cases hc
        | some c0 =>
          rw [hci] at hc
          cases hc
          exact freezeB_rep hrs ho (g4 i c0 y hci hy)
      | arr k2 E2 rows2 =>
        by_cases hl:(sto l r x).live K x
        · have:=RepO.kill (K:=K) (K':=K') (n:=m) (w:=w) (w':=w) hI (Keep.refl _ _) (fun y _=>hsame y) hx (fun hn hi=>hi.elim hn fun ⟨hlm,e⟩=>hx (hrs.inj x m hl hlm e)) (fun _=>rfl) hO
          rw [hs] at this;exact this
        · rw [hs] at hl hO
          obtain ⟨h0,h1 | ⟨h1,_⟩⟩:=hO
          · exact ⟨h0,.inl h1⟩
          · exact absurd h1 hl
      | mp s0 es =>
        have:=RepO.kill (K:=K) (K':=K') (n:=m) (w:=w) (w':=w) hI (Keep.refl _ _) (fun y _=>hsame y) hx (fun hn hi=>hi.elim hn fun ⟨hlm,e⟩=>hx (hrs.inj x m (by rw [hs];trivial) hlm e)) (fun _=>rfl) hO
        rw [hs] at this;exact this
  · have h1:=hlive i ((live_same (hsame i)).1 hi)
    have h2:=hlive j ((live_same (hsame j)).1 hj)
    exact hrs.inj i j h1.2 h2.2 e
  · rw [Fr.get_map _ (by rfl)]
    exact freezeB_rep hrs ho (hrf s)
end Go.Proofs.Ytijpmidnclbhpaa
namespace Go.Proofs.Ytijpmidnclbhpaa
open Go.RowKit
set_option maxHeartbeats 4000000
set_option maxRecDepth 20000
attribute [local irreducible] SW OSW SWL SWLn SWD SEcall SEcallv SDv SE SO1 SOg ACalls ACallv Wk EndV
set_option linter.unusedSimpArgs false
set_option linter.unusedVariables false
def hid4 (n m q p:Nat) (σ:Sto):Sto:=fun x=>if x = n then .dead else if x = m then .dead else if x = q then .dead else if x = p then .dead else σ x
theorem hid4_sto {n m q p:Nat} {σ:Sto} {o1 o2 o3 o4:AO} (h1:σ n = o1) (h2:σ m = o2) (h3:σ q = o3) (h4:σ p = o4):sto [(n,o1),(m,o2),(q,o3),(p,o4)] (hid4 n m q p σ) = σ:=by
  funext x
  simp only [sto,hid4]
  split
  · rename_i e;subst e;exact h1.symm
  · split
    · rename_i e;subst e;exact h2.symm
    · split
      · rename_i e;subst e;exact h3.symm
      · split
        · rename_i e;subst e;exact h4.symm
        · rfl
theorem hid4_closed {n m q p B:Nat} {σ:Sto} (h:ClosedS B σ):ClosedS B (hid4 n m q p σ):=fun x=>by
  unfold hid4
  split
  · exact ⟨rfl,fun _=>rfl⟩
  · split
    · exact ⟨rfl,fun _=>rfl⟩
    · split
      · exact ⟨rfl,fun _=>rfl⟩
      · split
        · exact ⟨rfl,fun _=>rfl⟩
        · exact h x
theorem hid4_kill {n m q p:Nat} {σ:Sto} (h:∀ x,x ≠ n → x ≠ m → x ≠ q → x ≠ p → (σ x).kill m = σ x) (x:Nat):(hid4 n m q p σ x).kill m = hid4 n m q p σ x:=by
  unfold hid4
  split
  · rfl
  · rename_i e1
    split
    · rfl
    · rename_i e2
      split
      · rfl
      · rename_i e3
        split
        · rfl
        · rename_i e4
          exact h x e1 e2 e3 e4
theorem sto4_over {n m q p:Nat} {o1 o2 o3 o4 o1' o2' o3':AO} (r:Sto):sto [(n,o1'),(m,o2'),(q,o3')] (sto [(n,o1),(m,o2),(q,o3),(p,o4)] r) = sto [(n,o1'),(m,o2'),(q,o3'),(p,o4)] r:=by
  funext x
  simp only [sto]
  split
  · rfl
  · split
    · rfl
    · split<;>rfl
theorem st_end {F σ:Sto} {n m q:Nat} {o1 o2 o3:AO} (h1:F n = o1) (h2:F m = o2) (h3:F q = o3) (h4:∀ x,x ≠ n → x ≠ m → x ≠ q → F x = σ x):F = fun x=>if x = n then o1 else if x = m then o2 else if x = q then o3 else σ x:=by
  funext x
  by_cases e1:x = n
  · subst e1;rw [h1];simp
  · by_cases e2:x = m
    · subst e2;rw [h2];simp [e1]
    · by_cases e3:x = q
      · subst e3;rw [h3];simp [e1,e2]
      · rw [h4 x e1 e2 e3];simp [e1,e2,e3]
structure At4 (B:Nat) (σ:Sto) (n m q p:Nat) (o1 o2 o3 o4:AO):Prop where
  hn:n < B
  hm:m < B
  hq:q < B
  hp:p < B
  nm:n ≠ m
  nq:n ≠ q
  np:n ≠ p
  mq:m ≠ q
  mp:m ≠ p
  qp:q ≠ p
  a1:σ n = o1
  a2:σ m = o2
  a3:σ q = o3
  a4:σ p = o4
  free:∀ x,x ≠ n → x ≠ m → x ≠ q → x ≠ p → (σ x).kill m = σ x
def old (B m:Nat) (c:AV):Prop:=c.allN (fun x=>decide (x < B) && decide (x ≠ m)) = true
theorem old_kill {B m:Nat} {c:AV} (h:old B m c):AV.kill m c = c:=AV.kill_below (q:=fun x=>decide (x < B) && decide (x ≠ m)) (by simp) c h
theorem old_killB {B m:Nat} {c:AV} (h:old B m c) (s:Nat):AV.kill (B + s) c = c:=AV.kill_below (q:=fun x=>decide (x < B) && decide (x ≠ m)) (by simp;omega) c h
theorem old_all {B m C:Nat} {c:AV} (h:old B m c) (hC:B ≤ C):c.allN (fun x=>decide (x < C)) = true:=AV.allN_mono (fun x hx=>by simp only [Bool.and_eq_true,decide_eq_true_eq] at hx;simp;omega) c h
theorem at4_sto {B n m q p:Nat} {o1 o2 o3 o4:AO} {r:Sto} (hn:n < B) (hm:m < B) (hq:q < B) (hp:p < B) (nm:n ≠ m) (nq:n ≠ q) (np:n ≠ p) (mq:m ≠ q) (mp:m ≠ p) (qp:q ≠ p) (hr:∀ x,(r x).kill m = r x):At4 (B + 100000) (sto [(n,o1),(m,o2),(q,o3),(p,o4)] r) n m q p o1 o2 o3 o4 :=
  ⟨by omega,by omega,by omega,by omega,nm,nq,np,mq,mp,qp,by simp [sto],by simp [sto,nm.symm],by simp [sto,nq.symm,mq.symm],by simp [sto,np.symm,mp.symm,qp.symm],fun x h1 h2 h3 h4=>by simp [sto,h1,h2,h3,h4,hr x]⟩
theorem old_up {B m:Nat} {c:AV} (h:old B m c):old (B + 100000) m c:=AV.allN_mono (fun x hx=>by simp only [Bool.and_eq_true,decide_eq_true_eq] at hx ⊢;omega) c h
theorem sto_kill4 {l:Loc} {n m q p:Nat} {r:Sto} (hr:∀ x,(r x).kill m = r x) (hl:∀ z ∈ l,z.1 = n ∨ z.1 = m ∨ z.1 = q ∨ z.1 = p ∨ z.2.kill m = z.2):∀ x,x ≠ n → x ≠ m → x ≠ q → x ≠ p → (sto l r x).kill m = sto l r x:=by
  intro x h1 h2 h3 h4
  induction l with
  | nil=>exact hr x
  | cons z l ih =>
    rw [sto_cons]
    split
    · rename_i e
      rcases hl z (by simp) with h | h | h | h | h
      · exact absurd (e.trans h) h1
      · exact absurd (e.trans h) h2
      · exact absurd (e.trans h) h3
      · exact absurd (e.trans h) h4
      · exact h
    · exact ih fun y hy=>hl y (List.mem_cons_of_mem _ hy)
theorem at4_of {B n m q p:Nat} {l:Loc} {r:Sto} {o1 o2 o3 o4:AO} (hn:n < B) (hm:m < B) (hq:q < B) (hp:p < B) (nm:n ≠ m) (nq:n ≠ q) (np:n ≠ p) (mq:m ≠ q) (mp:m ≠ p) (qp:q ≠ p) (a1:sto l r n = o1) (a2:sto l r m = o2) (a3:sto l r q = o3) (a4:sto l r p = o4) (hr:∀ x,(r x).kill m = r x) (hl:∀ z ∈ l,z.1 = n ∨ z.1 = m ∨ z.1 = q ∨ z.1 = p ∨ z.2.kill m = z.2):At4 B (sto l r) n m q p o1 o2 o3 o4 :=
  ⟨hn,hm,hq,hp,nm,nq,np,mq,mp,qp,a1,a2,a3,a4,sto_kill4 hr hl⟩
theorem call_ownN {P:Program} {B:Nat} {T0:List Nat} {r:Sto} {a:Fr} {l:Loc} {d:Option Nat} {K:Fr → Loc → Prop} {f:FuncId} {args:List Operand} {vs:List AV} {v:AV} (T:List Nat) (L l':Loc) (he:enters P f = true) (hC:ACalls P f vs (sto l r) (B + 100000) T (fun v' σ'=>v' = v ∧ σ' = sto L (sto l r))) (hl:sto L (sto l r) = sto l' r) (hv:(args.map fun x=>(opd a x).2) = vs) (hT:∀ n ∈ T,n < B → n ∈ T0) (hp:allP (args.map fun x=>(opd a x).1)) (hF:Fr.below (B + 100000) (killT T a)) (hL:Loc.below (B + 100000) l) (hk:K (putO d v (killT T a)) l'):SEcall P B T0 r d K a l f args:=by
  unfold SEcall
  exact ⟨T,fun v' σ'=>v' = v ∧ σ' = sto L (sto l r),a,l,Wk.refl _ _ _ _ _,he,hT,by rw [hv];exact hC,hp,hF,hL,fun v' σ' ⟨h1,h2⟩=>⟨l',by rw [h2,hl],by rw [h1];exact hk⟩⟩
theorem SEcall_wkQ {P:Program} {B:Nat} {T0:List Nat} {r:Sto} {a a1:Fr} {l l1:Loc} {d:Option Nat} {K:Fr → Loc → Prop} {f:FuncId} {args:List Operand} (h:Wk B T0 r a l a1 l1) (hs:SEcall P B T0 r d K a1 l1 f args):SEcall P B T0 r d K a l f args:=by
  unfold SEcall at hs ⊢
  obtain ⟨T,R,a2,l2,h1,h2⟩:=hs
  exact ⟨T,R,a2,l2,h.trans h1,h2⟩
theorem rdO_fzB (b:List UInt8) (e:Int) (m:Nat) (rows:List (List RV)):(rdO b e).fzB m rows = rdO b e:=rfl
theorem sto_up3 {n u w:Nat} {a1 a2 a3 b1 b2 b3:AO} (rest:Loc) (r:Sto):sto [(n,a1),(u,a2),(w,a3)] (sto ((u,b2) :: (n,b1) :: (w,b3) :: rest) r) = sto ((n,a1) :: (u,a2) :: (w,a3) :: rest) r:=by
  funext x
  by_cases h1:x = n
  · simp [sto,h1]
  · by_cases h2:x = u
    · simp [sto,h1,h2]
    · by_cases h3:x = w
      · simp [sto,h1,h2,h3]
      · simp [sto,h1,h2,h3]
theorem acv_of {P:Program} {f:FuncId} {cap:List AV} {σ:Sto} {B:Nat} {T:List Nat} {R:AV → Sto → Prop} (he:enters P f = true) (h:ACalls P f cap σ B T R):ACallv P (.clo (.func f) [] cap) [] σ B T R:=by unfold ACallv;exact ⟨he,h⟩
theorem kvD (n:Nat) (r:RV):AV.kill n (.d r) = .d r:=rfl
theorem kvE (n:Nat):AV.kill n .emp = .emp:=rfl
theorem kvY (n:Nat):AV.kill n .any = .any:=rfl
theorem kvO (n m l:Nat):AV.kill n (.os m l) = if m = n then .any else .os m l:=rfl
theorem kvL (n m o:Nat):AV.kill n (.lp m o) = if m = n then .any else .lp m o:=rfl
theorem kvP (n m k i j:Nat):AV.kill n (.ap m k i j) = if m = n then .any else .ap m k i j:=rfl
theorem kvG (n:Nat) (cs:List AV):AV.kill n (.agg cs) = .agg (cs.map (AV.kill n)):=by
  show AV.agg (AV.mapNL _ _ _ cs) = _
  rw [AV.mapNL_eq];rfl
theorem kvT (n:Nat) (cs:List AV):AV.kill n (.tup cs) = .tup (cs.map (AV.kill n)):=by
  show AV.tup (AV.mapNL _ _ _ cs) = _
  rw [AV.mapNL_eq];rfl
theorem kvC (n:Nat) (f:Fn) (a b:List AV):AV.kill n (.clo f a b) = .clo f (a.map (AV.kill n)) (b.map (AV.kill n)):=by
  show AV.clo f (AV.mapNL _ _ _ a) (AV.mapNL _ _ _ b) = _
  rw [AV.mapNL_eq,AV.mapNL_eq];rfl
theorem callv_st {P:Program} {B:Nat} {T0:List Nat} {r:Sto} {a:Fr} {d:Option Nat} {K:Fr → Loc → Prop} {x:Operand} {args:List Operand} {fv:AV} {vs:List AV} {n m q p:Nat} {o1 o2 o3 o4 o1' o2' o3':AO} (hT:m < B → m ∈ T0) (hx:(opd a x).2 = fv)
    (hC:ACallv P fv vs (sto [(n,o1),(m,o2),(q,o3),(p,o4)] r) (B + 100000) [m] (fun v' σ'=>v' = .tup [] ∧ σ' = sto [(n,o1'),(m,o2'),(q,o3')] (sto [(n,o1),(m,o2),(q,o3),(p,o4)] r))) (hv:(args.map fun x=>(opd a x).2) = vs) (hxp:(opd a x).1) (hp:allP (args.map fun x=>(opd a x).1)) (hF:Fr.below (B + 100000) (killT [m] a)) (hL:Loc.below (B + 100000) [(n,o1),(m,o2),(q,o3),(p,o4)])
    (hk:K (putO d (.tup []) (killT [m] a)) [(n,o1'),(m,o2'),(q,o3'),(p,o4)]):SEcallv P B T0 r d K a [(n,o1),(m,o2),(q,o3),(p,o4)] x args:=by
  unfold SEcallv
  exact ⟨[m],fun v' σ'=>v' = .tup [] ∧ σ' = sto [(n,o1'),(m,o2'),(q,o3')] (sto [(n,o1),(m,o2),(q,o3),(p,o4)] r),a,_,Wk.refl _ _ _ _ _,(fun y hy hlt=>by simp at hy;subst hy;exact hT hlt),by rw [hx,hv];exact hC,hxp,hp,hF,hL,fun v' σ' ⟨h1,h2⟩=>⟨[(n,o1'),(m,o2'),(q,o3'),(p,o4)],by rw [h2,sto4_over],by rw [h1];exact hk⟩⟩
end Go.Proofs.Ytijpmidnclbhpaa
