/- An own array,only read from now on;what boxes say of it too. -/
import Derived.Test.YtikgiadbkjmabaaBase
namespace Go.Proofs.Ytikgiadbkjmabaa
open Go.RowKit
set_option maxHeartbeats 4000000
set_option maxRecDepth 20000
attribute [local irreducible] SW OSW SWL SWLn SWD SEcall SEcallv SDv SE SO1 SOg ACalls ACallv Wk EndV
set_option linter.unusedSimpArgs false
set_option linter.unusedVariables false
def AO.fzB (m:Nat) (rows:List (List RV)):AO → AO
  | .box cs=>.box (cs.map (AV.fz1 m rows))
  | .arh k E p h t=>.arh k E p (h.map (AV.fz1 m rows)) t
  | o=>o
def Loc.fzB (m:Nat) (rows:List (List RV)) (l:Loc):Loc:=(l.filter fun p=>p.1 ≠ m).map fun p=>(p.1,p.2.fzB m rows)
theorem AO.fzB_live (m:Nat) (rows:List (List RV)) (K:KS) (n:Nat) (o:AO):(o.fzB m rows).live K n = o.live K n:=by cases o<;>rfl
mutual
theorem AV.fz1_below {B m:Nat} {rows:List (List RV)} (hB:B ≤ m):∀ v:AV,v.allN (fun x=>decide (x < B)) = true → AV.fz1 m rows v = v
  | .any,_ | .d _,_ | .emp,_ | .rp _,_=>rfl
  | .gd p v,h=>by
    have:=AV.fz1_below (rows:=rows) hB v h
    unfold AV.fz1 at this ⊢
    simp only [AV.mapN,this]
  | .agg cs,h=>by
    have:=AV.fz1L_below (rows:=rows) hB cs h
    unfold AV.fz1
    simp only [AV.mapN,this]
  | .tup cs,h=>by
    have:=AV.fz1L_below (rows:=rows) hB cs h
    unfold AV.fz1
    simp only [AV.mapN,this]
  | .clo f a b,h=>by
    simp only [AV.allN,Bool.and_eq_true] at h
    have h1:=AV.fz1L_below (rows:=rows) hB a h.1
    have h2:=AV.fz1L_below (rows:=rows) hB b h.2
    unfold AV.fz1
    simp only [AV.mapN,h1,h2]
  | .os n l,h=>by
    have:n ≠ m:=by simp only [AV.allN,decide_eq_true_eq] at h;omega
    simp [AV.fz1,AV.mapN,this]
  | .lp n o,h=>by
    have:n ≠ m:=by simp only [AV.allN,decide_eq_true_eq] at h;omega
    simp [AV.fz1,AV.mapN,this]
  | .ap n k i j,h=>by
    have:n ≠ m:=by simp only [AV.allN,decide_eq_true_eq] at h;omega
    simp [AV.fz1,AV.mapN,this]
  | .mp n,h=>by
    have:n ≠ m:=by simp only [AV.allN,decide_eq_true_eq] at h;omega
    simp [AV.fz1,AV.mapN,this]
  | .sb n _ _ _,h=>by
    have:n ≠ m:=by simp only [AV.allN,decide_eq_true_eq] at h;omega
    simp [AV.fz1,AV.mapN,this]
theorem AV.fz1L_below {B m:Nat} {rows:List (List RV)} (hB:B ≤ m):∀ cs:List AV,AV.allNL (fun x=>decide (x < B)) cs = true → AV.mapNL (fun (n:Nat) (len:Nat)=>if n = m then (if len ≤ rows.length then .d (.ro (rows.take len)) else .any) else .os n len) (fun x o=>if x = m then .any else .lp x o) (fun x k i j=>if x = m then .any else .ap x k i j) cs = cs
  | [],_=>rfl
  | c :: cs,h=>by
    simp only [AV.allNL,Bool.and_eq_true] at h
    have h1:=AV.fz1_below (rows:=rows) hB c h.1
    have h2:=AV.fz1L_below (rows:=rows) hB cs h.2
    unfold AV.fz1 at h1
    simp only [AV.mapNL,h1,h2]
end
theorem AO.fzB_id {m B:Nat} {rows:List (List RV)} {o:AO} (hB:B ≤ m) (h:o.allN (fun x=>decide (x < B)) = true):o.fzB m rows = o:=by
  cases o with
  | box cs =>
    simp only [AO.fzB,AO.box.injEq]
    simp only [AO.allN] at h
    have key:∀ c ∈ cs,AV.fz1 m rows c = c:=fun c hc=>AV.fz1_below hB c (AV.allNL_iff.1 h c hc)
    rw [List.map_congr_left key,List.map_id']
  | arh k E p cs t =>
    simp only [AO.fzB,AO.arh.injEq,true_and,and_true]
    simp only [AO.allN] at h
    have key:∀ c ∈ cs,AV.fz1 m rows c = c:=fun c hc=>AV.fz1_below hB c (AV.allNL_iff.1 h c hc)
    rw [List.map_congr_left key,List.map_id']
  | _=>rfl
theorem sto_fzB {B m:Nat} {rows:List (List RV)} {r:Sto} (hB:ClosedS B r) (hm:B ≤ m):∀ (l:Loc) (x:Nat),x ≠ m → sto (Loc.fzB m rows l) r x = (sto l r x).fzB m rows
  | [],x,hx=>by
    show r x = (r x).fzB m rows
    exact (AO.fzB_id hm (hB x).1).symm
  | (y,o) :: l,x,hx=>by
    have ih:=sto_fzB (rows:=rows) hB hm l x hx
    unfold Loc.fzB at ih ⊢
    rw [List.filter_cons]
    by_cases hy:y = m
    · subst hy
      rw [if_neg (by simp),sto_cons,if_neg hx]
      exact ih
    · rw [if_pos (by simpa using hy),List.map_cons,sto_cons,sto_cons]
      split
      · rfl
      · exact ih
theorem sto_fzB_m {m:Nat} {rows:List (List RV)} {r:Sto}:∀ (l:Loc),sto (Loc.fzB m rows l) r m = r m
  | []=>rfl
  | (y,o) :: l=>by
    have ih:=sto_fzB_m (m:=m) (rows:=rows) (r:=r) l
    unfold Loc.fzB at ih ⊢
    rw [List.filter_cons]
    by_cases hy:y = m
    · subst hy
      rw [if_neg (by simp)];exact ih
    · rw [if_pos (by simpa using hy),List.map_cons,sto_cons,if_neg (fun e=>hy e.symm)]
      exact ih
theorem freezeB_rep {K:KS} {σ:Sto} {w:World} {m k:Nat} {E:TypeId} {rows:List (List RV)} (hS:RepS K σ w) (ho:σ m = .arr k E rows) {v:AV} {x:Value} (h:Rep K w v x):Rep ({ K with I:=fun b=>K.I b ∨ ((σ m).live K m ∧ b = K.blk m) }:KS) w (AV.fz1 m rows v) x:=by
  unfold AV.fz1
  refine Rep.map (K:=K) (w:=w) (K':={ K with I:=fun b=>K.I b ∨ ((σ m).live K m ∧ b = K.blk m) }) (q:=fun _=>true) (fun b hb=>Or.inl hb) (Keep.refl _ _) (fun n len _=>?_) (fun n o _=>?_) (fun n k i j _=>?_) h (AV.allN_true _)
  · have hos:Rep ({ K with I:=fun b=>K.I b ∨ ((σ m).live K m ∧ b = K.blk m) }:KS) w (.os n len) (K.sl n len):=by
      have:K.sl n len = ({ K with I:=fun b=>K.I b ∨ ((σ m).live K m ∧ b = K.blk m) }:KS).sl n len:=rfl
      rw [this];exact .os
    split
    · rename_i e
      subst e
      split
      · rename_i hc
        refine .d ?_
        cases hnl:K.nl n
        · refine (hS.own_ro ho hc).up (fun b hb=>?_) (Keep.refl _ _)
          rcases hb with hb | rfl
          · exact .inl hb
          · exact .inr ⟨by rw [ho];exact hnl,rfl⟩
        · have hO:=hS.obj n
          rw [ho] at hO
          obtain ⟨_,⟨_,hr⟩ | ⟨h2,_⟩⟩:=hO
          · subst hr
            simp only [KS.sl,hnl,cond_true,List.take_nil]
            exact .nil
          · rw [hnl] at h2;cases h2
      · exact .any
    · exact hos
  · first
    | exact .lp
    | (split
       · exact .any
       · exact .lp)
  · first
    | exact .ap
    | (split
       · exact .any
       · exact .ap)
theorem Wk.freezeB {B:Nat} {T0:List Nat} {r:Sto} {a:Fr} {l:Loc} {m k:Nat} {E:TypeId} {rows:List (List RV)} (hB:ClosedS B r) (hm:B ≤ m) (ho:sto l r m = .arr k E rows):Wk B T0 r a l (Fr.map (AV.fz1 m rows) a) (Loc.fzB m rows l):=by
  unfold Wk
  intro t w K hrs hrf
  have hσ:∀ x,sto (Loc.fzB m rows l) r x = .dead ∧ x = m ∨ x ≠ m ∧ sto (Loc.fzB m rows l) r x = (sto l r x).fzB m rows:=fun x=>by
    by_cases hx:x = m
    · subst hx
      exact .inl ⟨by rw [sto_fzB_m];exact (hB x).2 hm,rfl⟩
    · exact .inr ⟨hx,sto_fzB hB hm l x hx⟩
  let K':KS:={ K with I:=fun b=>K.I b ∨ ((sto l r m).live K m ∧ b = K.blk m) }
  have hI:∀ b,K.I b → K'.I b:=fun b hb=>.inl hb
  have hsame:∀ x,K.same K' x:=fun x=>⟨rfl,rfl,rfl,rfl⟩
  have hlive:∀ x,(sto (Loc.fzB m rows l) r x).live K x → x ≠ m ∧ (sto l r x).live K x:=fun x hl=>by
    rcases hσ x with ⟨e,_⟩ | ⟨hx,e⟩
    · rw [e] at hl;exact hl.elim
    · rw [e,AO.fzB_live] at hl;exact ⟨hx,hl⟩
  refine ⟨K',⟨fun x _ _=>hsame x,hI,Keep.refl _ _,fun b hb=>?_⟩,⟨hrs.gl.up hI (Keep.refl _ _),fun b hb=>?_,fun x=>?_,fun i j hi hj e=>?_⟩,fun s=>?_⟩
  · rcases hb with (hb | ⟨hl,rfl⟩) | ⟨x,hl,rfl⟩
    · exact .inl hb
    · exact .inr (.inr ⟨m,hl,rfl⟩)
    · exact .inr (.inr ⟨x,(hlive x ((live_same (hsame x)).1 hl)).2,rfl⟩)
  · rcases hb with hb | ⟨hl,rfl⟩
    · exact hrs.inI b hb
    · exact ((hrs.obj m).lt hl).1
  · rcases hσ x with ⟨e,_⟩ | ⟨hx,e⟩
    · rw [e];trivial
    · rw [e]
      have hO:=hrs.obj x
      cases hs:sto l r x with
      | dead=>trivial
      | box cs =>
        rw [hs] at hO
        obtain ⟨g1,xs,T,g2,g3,g4,g5⟩:=hO
        refine ⟨fun hi=>hi.elim g1 fun ⟨hlm,e⟩=>hx (hrs.inj x m (by rw [hs];trivial) hlm e),xs,T,g2,by simpa using g3,fun i c y hc hy=>?_,g5⟩
        rw [List.getElem?_map] at hc
        cases hci:cs[i]? with
        | none=>rw [hci] at hc;cases hc
        | some c0 =>
          rw [hci] at hc
          cases hc
          exact freezeB_rep hrs ho (g4 i c0 y hci hy)
      | arr k2 E2 rows2 =>
        by_cases hl:(sto l r x).live K x
        · have:=RepO.kill (K:=K) (K':=K') (n:=m) (w:=w) (w':=w) hI (Keep.refl _ _) (fun y _=>hsame y) hx (fun hn hi=>hi.elim hn fun ⟨hlm,e⟩=>hx (hrs.inj x m hl hlm e)) (fun _=>rfl) hO
          rw [hs] at this;exact this
        · rw [hs] at hl hO
          obtain ⟨h0,h1 | ⟨h1,_⟩⟩:=hO
          · exact ⟨h0,.inl h1⟩
          · exact absurd h1 hl
      | mp s0 es =>
        have:=RepO.kill (K:=K) (K':=K') (n:=m) (w:=w) (w':=w) hI (Keep.refl _ _) (fun y _=>hsame y) hx (fun hn hi=>hi.elim hn fun ⟨hlm,e⟩=>hx (hrs.inj x m (by rw [hs];trivial) hlm e)) (fun _=>rfl) hO
        rw [hs] at this;exact this
      | arh k2 E2 p2 h2 t2 =>
        rw [hs] at hO
        exact ArvOk.map (hsame x) hI (Keep.refl _ _) (fun hn hi=>hi.elim hn fun ⟨hlm,e⟩=>hx (hrs.inj x m (by rw [hs];trivial) hlm e)) rfl (by simp) (fun j c c' y hc hc' hy=>by
          rw [List.getElem?_map,hc] at hc';cases hc';exact freezeB_rep hrs ho hy) hO
  · have h1:=hlive i ((live_same (hsame i)).1 hi)
    have h2:=hlive j ((live_same (hsame j)).1 hj)
    exact hrs.inj i j h1.2 h2.2 e
  · rw [Fr.get_map _ (by rfl)]
    exact freezeB_rep hrs ho (hrf s)
theorem Wk.toArr {B:Nat} {T0:List Nat} {r:Sto} {a:Fr} {l:Loc} {n k:Nat} {E:TypeId} {p t:List (List RV)} {h:List AV} {rs:List RV} (ho:sto l r n = .arh k E p h t) (hr:rvs h = some rs):Wk B T0 r a l a (Loc.set n (.arr k E (p ++ rs :: t)) l):=by
  unfold Wk
  intro tt w K hrs hrf
  obtain ⟨r1,r2⟩:=rvs_ok hr
  have hO:=hrs.obj n
  rw [ho] at hO
  have hO':RepO K w n (.arr k E (p ++ rs :: t)):=by
    refine ArvOk.to_arr ?_
    have:=ArvOk.map (K':=K) (w':=w) (h':=rs.map .d) ⟨rfl,rfl,rfl,rfl⟩ (fun _ h=>h) (Keep.refl _ _) (fun h=>h) rfl (by simpa using r1) (fun j c c' y hc hc' hy=>by
      rw [List.getElem?_map] at hc'
      cases hj:rs[j]? with
      | none=>simp [hj] at hc'
      | some rj =>
        simp only [hj,Option.map_some,Option.some.injEq] at hc'
        subst hc'
        obtain ⟨c0,e1,e2⟩:=r2 j rj hj
        rw [hc] at e1;cases e1
        exact .d (rv_ok (I:=K.I) hy e2)) hO
    simpa [hrows] using this
  have hl:∀ x,(sto (Loc.set n (.arr k E (p ++ rs :: t)) l) r x).live K x → (sto l r x).live K x:=fun x hx=>by
    rw [sto_set] at hx
    split at hx
    · rename_i e;subst e;rw [ho];trivial
    · exact hx
  refine ⟨K,⟨fun x _ _=>⟨rfl,rfl,rfl,rfl⟩,fun _ h=>h,Keep.refl _ _,fun b hb=>hb.elim .inl fun ⟨x,h1,h2⟩=>.inr (.inr ⟨x,hl x h1,h2⟩)⟩,⟨hrs.gl,hrs.inI,fun x=>?_,fun i j hi hj e=>hrs.inj i j (hl i hi) (hl j hj) e⟩,hrf⟩
  rw [sto_set]
  split
  · rename_i e;subst e;exact hO'
  · exact hrs.obj x
end Go.Proofs.Ytikgiadbkjmabaa
