/- Nil as an empty slice,in boxes too. No program in sight. -/
import Derived.Test.YtikgiadbkjmabaaBase
namespace Go.Proofs.Ytikgiadbkjmabaa
open Go.RowKit
set_option maxHeartbeats 4000000
set_option maxRecDepth 20000
attribute [local irreducible] SW OSW SWL SWLn SWD SEcall SEcallv SDv SE SO1 SOg ACalls ACallv Wk EndV
set_option linter.unusedSimpArgs false
set_option linter.unusedVariables false
def AO.nz:AO → AO
  | .box cs=>.box (cs.map AV.nz)
  | o=>o
def Loc.nz (l:Loc):Loc:=l.map fun p=>(p.1,p.2.nz)
theorem sto_nz (r:Sto):∀ (l:Loc) (n:Nat),sto (Loc.nz l) r n = (sto l r n).nz ∨ sto (Loc.nz l) r n = sto l r n
  | [],n=>.inr rfl
  | (m,o) :: l,n=>by
    have ih:=sto_nz r l n
    unfold Loc.nz at ih ⊢
    simp only [List.map_cons,sto_cons]
    split
    · exact .inl rfl
    · exact ih
theorem Wk.nzL (B:Nat) (T0:List Nat) (r:Sto) (a:Fr) (l:Loc):Wk B T0 r a l (Fr.map AV.nz a) (Loc.nz l):=by
  unfold Wk
  intro t w K h1 h2
  have hlive:∀ n,(sto (Loc.nz l) r n).live K n → (sto l r n).live K n:=fun n hl=>by
    rcases sto_nz r l n with e | e<;>rw [e] at hl
    · cases ho:sto l r n<;>rw [ho] at hl<;>exact hl
    · exact hl
  refine ⟨K,⟨fun _ _ _=>⟨rfl,rfl,rfl,rfl⟩,fun _ h=>h,Keep.refl _ _,fun b hb=>hb.elim .inl fun ⟨n,e1,e2⟩=>.inr (.inr ⟨n,hlive n e1,e2⟩)⟩,⟨h1.gl,h1.inI,fun n=>?_,fun i j hi hj e=>h1.inj i j (hlive i hi) (hlive j hj) e⟩,fun s=>by rw [Fr.get_map _ (by rfl)];exact (h2 s).nz⟩
  have hO:=h1.obj n
  rcases sto_nz r l n with e | e<;>rw [e]
  · cases ho:sto l r n with
    | dead=>trivial
    | arr k E rows=>rw [ho] at hO;exact hO
    | mp k E=>rw [ho] at hO;exact hO
    | arh=>rw [ho] at hO;exact hO
    | box cs =>
      rw [ho] at hO
      obtain ⟨g1,xs,T,g2,g3,g4,g5⟩:=hO
      refine ⟨g1,xs,T,g2,by simpa using g3,fun i c x hc hx=>?_,g5⟩
      rw [List.getElem?_map] at hc
      cases hci:cs[i]? with
      | none=>simp [hci] at hc
      | some c0=>simp only [hci,Option.map_some,Option.some.injEq] at hc;subst hc;exact (g4 i c0 x hci hx).nz
  · exact hO
theorem ACalls.nz {P:Program} {f:FuncId} {args:List AV} {σ:Sto} {B:Nat} {T:List Nat} {R:AV → Sto → Prop} (h:ACalls P f (args.map AV.nz) σ B T R):ACalls P f args σ B T R:=by
  unfold ACalls at h ⊢
  have up:∀ xs w K,Pre args σ B xs w K → Pre (args.map AV.nz) σ B xs w K:=fun xs w K ⟨h1,h2,h3,h4⟩=>⟨h1,h2,by simpa using h3,fun i c x hc hx=>by
    rw [List.getElem?_map] at hc
    cases hci:args[i]? with
    | none=>simp [hci] at hc
    | some c0=>simp only [hci,Option.map_some,Option.some.injEq] at hc;subst hc;exact (h4 i c0 x hci hx).nz⟩
  intro xs w ⟨K,hK⟩
  refine (h xs w ⟨K,up _ _ _ hK⟩).mono ?_
  rintro e w' ⟨x,v,σ',h1,h2,h3⟩
  exact ⟨x,v,σ',h1,h2,fun K hK=>h3 K (up _ _ _ hK)⟩
theorem Pure.nz {P:Program} {f:FuncId} {args:List AV} {v:AV} (h:Pure P f (args.map AV.nz) v):Pure P f args v:=by
  unfold Pure at h ⊢
  intro B σ;exact (h B σ).nz
theorem own_ofL {fl:Bool} {P:Program} {f:FuncId} {fn:Func} {args:List AV} {sc:SC} {rs:List ResultVar} {B:Nat} {σ r:Sto} {T:List Nat} {R:AV → Sto → Prop} (l0:Loc) (hσ:sto l0 r = σ) (hcr:ClosedS B σ → ClosedS B r) (hm:P.follows .mixedOrders = true) (hf:P.funcs[f]? = some fn) (hc:annB fl fn = some sc) (hr:fn.results.toList = rs) (hn:args.length ≤ fn.ntmps)
    (h:ClosedS B r → (∀ c ∈ args,c.sz) → SW P B T r sc (HQ (EndW P B T r rs R)) (entry 0 args) l0):ACalls P f args σ B T R:=by
  subst hσ
  unfold ACalls
  intro xs w ⟨K,hP⟩
  have key:=ACalls_atw (P:=P) (f:=f) (R:=R) (T:=T) (args:=args) (l0:=l0) (r:=r) (B:=B) hm hf hn hcr (fun hcl=>by
    rw [hc,hr]
    unfold HQ at h
    refine h hcl fun c hmem=>?_
    obtain ⟨i,hi⟩:=List.mem_iff_getElem?.1 hmem
    have hlt:i < xs.length:=by rw [← hP.2.2.1];exact (List.getElem?_eq_some_iff.1 hi).1
    exact (hP.2.2.2 i c _ hi (List.getElem?_eq_getElem hlt)).sz)
  unfold ACalls at key
  exact key xs w ⟨K,hP⟩
end Go.Proofs.Ytikgiadbkjmabaa
