/-
  Regions that draw their order,where operations read,make memory,call,and at last write: one walk serves every order. What an operation makes is told by what stays true of it while memory grows;a call by a relation given ahead.
-/
import Derived.Test.YtikgiadbkjmabaaLib
namespace Go.Proofs.Ytikgiadbkjmabaa
open Go.RowKit
set_option linter.unusedSimpArgs false
set_option linter.unusedVariables false

section
variable (P:Program) (md:Region.Mode) (ops:Array Oper) (E:Nat → Bool) (Φ:Nat → World → Value → World → Prop) (Q:Exit → Act → World → Prop)

def leads:Nat → Nat → Nat → Bool
  | 0,_,_=>false
  | n + 1,j,i=>match ops[j]? with
    | none=>false
    | some o=>o.after.any fun e=>Region.binds md e && (e.on == i || leads n e.on i)

def Shut (listed:Array Bool):Prop:=∀ j o,listed.getD j false = true → ops[j]? = some o → ∀ e ∈ o.after,Region.binds md e = true → listed.getD e.on false = true

variable {md ops} in
def runG (o:Oper) (φ:World → Value → World → Prop) (a:Act) (u:World) (K:Act → World → Prop):Prop :=
  match (execOp a.eval o).run P u with
  | .ok (.value v) w'=>Grow u w' ∧ K (a.put o.dst v) w'
  | .ok .skip w'=>Grow u w' ∧ K (a.put o.dst undef) w'
  | .ok (.enter f args) w'=>Calls P f args w' (fun e w''=>∃ v,e = .returned v ∧ Grow u w'' ∧ φ u v w'') ∧ ∀ v w'',Grow u w'' → φ u v w'' → K (a.put o.dst v) w''
  | _=>False

def opG (j:Nat) (K:Act → World → Prop) (a:Act) (u:World):Prop :=
  match ops[j]? with
  | none=>K a u
  | some o=>if Region.wanted o (yielded ops a.tmps) then runG P o (Φ j) a u K else K (a.put o.dst undef) u

def upd (Ds:Nat → World → Prop) (i:Nat) (D:World → Prop):Nat → World → Prop:=fun k=>if k = i then D else Ds k

def G:Nat → Array Bool → (Nat → World → Prop) → Act → World → Prop
  | 0,listed,Ds,a,w=>∀ u,Grow w u → Region.ready md ops listed = [] ∧ ((∀ i,Ds i u) → Q .normal a u)
  | n + 1,listed,Ds,a,w=>∀ u,Grow w u → (Region.ready md ops listed = [] → (∀ i,Ds i u) → Q .normal a u) ∧
    ∀ j ∈ Region.ready md ops listed,(∀ i,leads md ops ops.size j i = true → Ds i u) →
      if E j then (∀ i,Ds i u) → wpOp P ops Q j (wpAny P md ops Q n (listed.setIfInBounds j true)) a u
      else opG P ops Φ j (fun a' w'=>G n (listed.setIfInBounds j true) (upd Ds j (Grow w')) a' w') a u
end

section
variable {P:Program} {md:Region.Mode} {ops:Array Oper} {E:Nat → Bool} {Φ:Nat → World → Value → World → Prop} {Q:Exit → Act → World → Prop}

theorem unlisted {i:Nat} {listed:Array Bool} (hr:i ∈ Region.ready md ops listed):listed.getD i false = false:=by
  have h0:=(mem_ready.1 hr).1
  rcases Nat.lt_or_ge i listed.size with h' | h'
  · simpa [h'] using h0
  · simp [Array.getElem?_eq_none h']

theorem Shut_set {listed:Array Bool} {j:Nat} (hs:Shut md ops listed) (hj:j ∈ Region.ready md ops listed):Shut md ops (listed.setIfInBounds j true):=by
  intro k o hk ho e he hb
  by_cases hkj:j = k
  · subst hkj
    obtain ⟨_,o',ho',hall⟩:=mem_ready.1 hj
    rw [ho] at ho';cases ho'
    exact getD_set_true (hall e he hb)
  · rw [getD_set_ne false hkj] at hk
    exact getD_set_true (hs k o hk ho e he hb)

/-! ### In the order of the text -/

theorem run_value {s:Sem Value} {u w':World} {n:Next} (h:(do pure (Next.value (← s)):Sem Next).run P u = .ok n w'):∃ v,n = .value v:=by
  simp only [Sem.run_bind] at h
  generalize s.run P u = r at h
  cases r with
  | ok v w=>exact ⟨v,by simp [Result.andThen,Sem.run_pure] at h;exact h.1.symm⟩
  | halt x w=>simp [Result.andThen] at h

def lst (n:Nat) (done:List Nat):Array Bool:=done.foldl (fun l i=>l.setIfInBounds i true) (Array.replicate n false)

def look:List Oper → Nat → Option Oper
  | [],_=>none
  | o :: _,0=>some o
  | _ :: l,n + 1=>look l n

theorem look_list (l:List Oper):∀ (i:Nat) (o:Oper),look l i = some o → l[i]? = some o:=by
  induction l with
  | nil=>intro i o h;simp [look] at h
  | cons x l ih =>
    intro i o h
    cases i with
    | zero=>simpa [look] using h
    | succ n=>simpa using ih n o h

theorem look_spec {l:List Oper} {i:Nat} {o:Oper} (h:look l i = some o):l.toArray[i]? = some o:=by
  simpa using look_list l i o h

section
variable {Φ:Nat → Value → World → Prop} {done rest:List Nat} {Ds:Nat → World → Prop} {a:Act} {w:World} {i:Nat} {oi:Oper}

def chainB (ops:Array Oper) (listed:Array Bool):List Nat → Bool
  | []=>(Region.ready .any ops listed).isEmpty
  | i :: rest=>Region.ready .any ops listed == [i] && chainB ops (listed.setIfInBounds i true) rest

inductive At (ops:Array Oper):List Nat → List Oper → Prop
  | nil:At ops [] []
  | cons {i:Nat} {o:Oper} {is:List Nat} {os:List Oper}:ops[i]? = some o → At ops is os → At ops (i :: is) (o :: os)

theorem At.more {l:List Oper} {i:Nat} {o:Oper} {is:List Nat} {os:List Oper} (h:look l i = some o) (t:At l.toArray is os):At l.toArray (i :: is) (o :: os):=.cons (look_spec h) t

end
end

section
variable {P:Program} {E:Nat → Bool} {Φ:Nat → Value → World → Prop} {Q:Exit → Act → World → Prop} {l:List Oper} {done rest:List Nat} {Ds:Nat → World → Prop} {a:Act} {w:World} {i:Nat} {oi:Oper}
end
end Go.Proofs.Ytikgiadbkjmabaa
