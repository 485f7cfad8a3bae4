/- Contracts of functions whose arguments and answers name nothing,said of worlds that grow;and back. No program in sight. -/
import Derived.Test.YtikgiadbkjmabaaBase
namespace Go.Proofs.Ytikgiadbkjmabaa
open Go.RowKit
set_option linter.unusedSimpArgs false
set_option linter.unusedVariables false
def KI (I:Nat → Prop):KS:=⟨fun _=>0,fun _=>0,fun _=>false,fun _=>none,I⟩
def noName (v:AV):Prop:=v.allN (fun _=>false) = true
def RepsI (I:Nat → Prop) (w:World) (args:List AV) (xs:List Value):Prop:=(∀ b,I b → b < w.heap.size) ∧ args.length = xs.length ∧ ∀ (i:Nat) (c:AV) (x:Value),args[i]? = some c → xs[i]? = some x → Rep (KI I) w c x
def UpI (I I':Nat → Prop) (w w':World):Prop:=(∀ b,I b → I' b) ∧ (∀ b,I' b → I b ∨ w.heap.size ≤ b) ∧ ∀ b,I' b → b < w'.heap.size
def PureG (P:Program) (f:FuncId) (args:List AV) (v:AV):Prop:=∀ (xs:List Value) (w:World),(∃ I,RepsI I w args xs) → Calls P f xs.toArray w fun e w'=>∃ x,e = .returned x ∧ Grow w w' ∧ ∀ I,RepsI I w args xs → ∃ I',UpI I I' w w' ∧ Rep (KI I') w' v x
theorem Rep.noName {K K':KS} {w:World} {v:AV} {x:Value} (hI:∀ b,K.I b → K'.I b) (hv:noName v) (h:Rep K w v x):Rep K' w v x :=
  h.upQ (q:=fun _=>false) hI (Keep.refl _ _) (fun n hn=>by cases hn) hv
theorem pre_dead {I:Nat → Prop} {w:World} {args:List AV} {xs:List Value} (h:RepsI I w args xs):Pre args (fun _=>AO.dead) 0 xs w (KI I) :=
  ⟨⟨fun g k n e=>(by cases e),h.1,fun n=>trivial,fun n m hn=>hn.elim⟩,fun n=>⟨rfl,fun _=>rfl⟩,h.2.1,h.2.2⟩
theorem Pure.g {P:Program} {f:FuncId} {args:List AV} {v:AV} (h:Pure P f args v) (hv:noName v) (ha:∀ c ∈ args,noName c):PureG P f args v:=fun xs w ⟨I0,h0⟩=>by
  unfold Pure at h
  have h1:=h 0 (fun _=>AO.dead)
  unfold ACalls at h1
  refine (h1 xs w ⟨KI I0,pre_dead h0⟩).mono fun e w' ⟨x,v',σ',he,⟨hv',hσ'⟩,hall⟩=>⟨x,he,?_,fun I hI=>?_⟩
  · have hAll:RepsI (fun b=>b < w.heap.size) w args xs:=⟨fun b hb=>hb,h0.2.1,fun i c y hc hy=>(h0.2.2 i c y hc hy).noName (fun b hb=>h0.1 b hb) (ha c (List.mem_of_getElem? hc))⟩
    obtain ⟨K',hE,_,_⟩:=hall _ (pre_dead hAll)
    exact ⟨⟨hE.keep.os,hE.keep.tape,hE.keep.output,hE.keep.size,fun b hb=>hE.keep.block b hb⟩,hE.keep.drawn⟩
  · obtain ⟨K',hE,hS,hR⟩:=hall _ (pre_dead hI)
    subst hv'
    refine ⟨K'.I,⟨hE.sub,fun b hb=>?_,hS.inI⟩,Rep.noName (K:=K') (K':=KI K'.I) (fun b hb=>hb) hv hR⟩
    rcases hE.orig b (.inl hb) with h2 | h2 | ⟨n,h2,_⟩
    · exact .inl h2
    · exact .inr h2
    · exact h2.elim
theorem PureG.p {P:Program} {f:FuncId} {args:List AV} {v:AV} (h:PureG P f args v) (hv:noName v) (ha:∀ c ∈ args,noName c):Pure P f args v:=by
  unfold Pure
  intro B σ
  unfold ACalls
  intro xs w ⟨K0,hP0⟩
  have reps:∀ K,Pre args σ B xs w K → RepsI K.I w args xs:=fun K hP=>⟨hP.1.inI,hP.2.2.1,fun i c x hc hx=>Rep.noName (K:=K) (K':=KI K.I) (fun b hb=>hb) (ha c (List.mem_of_getElem? hc)) (hP.2.2.2 i c x hc hx)⟩
  refine (h xs w ⟨K0.I,reps K0 hP0⟩).mono fun e w' ⟨x,he,hg,hall⟩=>⟨x,v,σ,he,⟨rfl,rfl⟩,fun K hK=>?_⟩
  obtain ⟨I',⟨u1,u2,u3⟩,hR⟩:=hall K.I (reps K hK)
  have hS:=hK.1.more (J:=fun b=>I' b ∧ w.heap.size ≤ b) hg fun b hb=>⟨hb.2,u3 b hb.1⟩
  refine ⟨{ K with I:=fun b=>K.I b ∨ (I' b ∧ w.heap.size ≤ b) },⟨fun n _ _=>⟨rfl,rfl,rfl,rfl⟩,fun b hb=>.inl hb,Keep.of_grow hg hK.1.inI,fun b hb=>?_⟩,hS,hR.noName (fun b hb=>(u2 b hb).elim .inl fun h2=>.inr ⟨hb,h2⟩) hv⟩
  rcases hb with (hb | hb) | ⟨n,hl,e2⟩
  · exact .inl hb
  · exact .inr (.inl hb.2)
  · exact .inr (.inr ⟨n,(live_same (K:=K) (n:=n) ⟨rfl,rfl,rfl,rfl⟩).1 hl,e2⟩)
theorem RepsI.grow {I:Nat → Prop} {w w':World} {args:List AV} {xs:List Value} (h:RepsI I w args xs) (hg:Grow w w'):RepsI I w' args xs :=
  ⟨fun b hb=>Nat.lt_of_lt_of_le (h.1 b hb) hg.size,h.2.1,fun i c x hc hx=>(h.2.2 i c x hc hx).up (K':=KI I) (fun b hb=>hb) (Keep.of_grow hg h.1) (fun n=>⟨rfl,rfl,rfl,rfl⟩)⟩
end Go.Proofs.Ytikgiadbkjmabaa
