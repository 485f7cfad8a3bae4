/- The reach,handed down into an argument's parts. -/
import Derived.Test.YtikgiadbkjmabaaLib
import Derived.ProofKit
import Derived.OpenShut
import Derived.JoinedCond
import Derived.SizedLaws
import Derived.Deep.CondSized

/- How the arguments of a law are opened,and what a law owes behind the call: that it answered true,and that what was there stayed as it was. -/
namespace Go.Proofs.Ytikgiadbkjmabaa
open Go.ChangeShapes Go.WideShapes Go.ChangeAt Go.RowKit
set_option linter.unusedSimpArgs false
set_option linter.unusedVariables false

section
variable {H:Type} {enc:TypeId × Value → H} {P:Program}

theorem trodAll_stays (hl:laidOutB P = true) {W W':World} (hg:Grow W W'):∀ {ts:List TypeId} {vs:List Value} {ds:List (DataW H)} {ps:List MemPlace},
    (∀ t ∈ ts,P.readableRec t = true ∧ t < P.types.size) → DataW.TrodAll enc P W 0 (fun _=>true) true ts vs ds ps → (∀ x ∈ ps,x.block < W.heap.size) →
    DataW.TrodAll enc P W' 0 (fun b=>decide (b < W.heap.size)) true ts vs ds ps
  | [],[],[],ps,_,h,_=>h
  | t :: ts,v :: vs,d :: ds,ps,hr,h,hlt=>by
    obtain ⟨p,q,h1,h2,rfl⟩:=h
    exact ⟨p,q,Below.trod hl (hr t (by simp)).1 (hr t (by simp)).2 h1 hg.toBelow (fun x hx=>hlt x (by simp [hx])),
      trodAll_stays hl hg (fun u hu=>hr u (by simp [hu])) h2 (fun x hx=>hlt x (by simp [hx])),rfl⟩
  | [],[],_ :: _,_,_,h,_=>h.elim
  | [],_ :: _,_,_,_,h,_=>h.elim
  | _ :: _,[],_,_,_,h,_=>h.elim
  | _ :: _,_ :: _,[],_,_,h,_=>h.elim

theorem law_post {f:Func} {s:ChangeSpec} {W W':World} {args:Array Value} {ds:List (DataW H)} {before:List MemPlace} {tb:TypeId}
    (hl:laidOutB P = true) (hv:s.vars = []) (hps:∀ t ∈ f.params.toList,P.readableRec t = true ∧ t < P.types.size) (hres:f.resultTypes = #[tb]) (htb:P.underlying tb = some .bool)
    (hspec:s.fn H (ds ++ []) = { results:=[.lit (.bool true)],args:=ds })
    (hW:DataW.Whole enc P f.params.toList s.vars false W args.toList ds [] before) (hg:Grow W W') :
    s.post enc P f false true false false W args (.bool true) W':=by
  have hW0:=hW
  obtain ⟨p,q,hA,hV,rfl,_,_⟩:=hW
  rw [hv] at hV
  obtain rfl:q = []:=hV
  have hlt:=hW0.lt
  refine ⟨ds,[],p ++ [],[],p,[],hW0,?_,?_,?_,?_,fun h=>by cases h⟩
  · rw [hspec,hres]
    exact trodAll_mk1 (shut_bool htb true)
  · rw [hspec]
    exact trodAll_stays hl hg hps hA (fun x hx=>hlt x (by simp [hx]))
  · rw [hspec,hv];rfl
  · exact Below.frame hg.toBelow _

theorem trodVars_nil {vars:List String} {W:World} {gs:List (DataW H)} {q:List MemPlace} (hv:vars = []) (h:DataW.TrodVars enc P W (fun _=>true) vars gs q):gs = []:=by
  subst hv
  cases gs with
  | nil=>rfl
  | cons d ds=>exact h.elim

end
end Go.Proofs.Ytikgiadbkjmabaa
namespace Go.Proofs.Ytikgiadbkjmabaa
open Go.ChangeShapes Go.WideShapes Go.ChangeAt Go.RowKit
set_option linter.unusedSimpArgs false
set_option linter.unusedVariables false

def Fits {H:Type} (P:Program) (t:TypeId) (d:DataW H):Prop:=∀ n ∈ d.weights P t,n ≤ reachBytes

section
variable {H:Type} {P:Program}
theorem fits_arg {ts:List TypeId} {ds:List (DataW H)} {t:TypeId} {d:DataW H} (hz:(DataW.weightsEach P ts ds).all (· ≤ reachBytes) = true) {j:Nat} (hts:ts[j]? = some t) (hds:ds[j]? = some d):Fits P t d :=
  fun n hn=>of_decide_eq_true (List.all_eq_true.1 hz _ (DataW.weights_mem_each hts hds n hn))
theorem fits_struct {t:TypeId} {fs:Array Field} {ds:List (DataW H)} {d:DataW H} (h:Fits P t (.agg ds)) (hu:P.underlying t = some (.struct fs)) {i:Nat} {f:Field} (hf:fs[i]? = some f) (hd:ds[i]? = some d):Fits P f.type d:=fun n hn=>by
  refine h n ?_
  simp only [DataW.weights,hu]
  exact DataW.weights_mem_each (j:=i) (t:=f.type) (by simp [hf]) hd n hn
theorem fits_string {t:TypeId} {s:ByteArray} (h:Fits (H:=H) P t (.lit (.string s.data.toList))):s.size ≤ 2 ^ 47:=by
  have h1:=h s.data.toList.length (by simp [DataW.weights])
  have h2:=reachBytes_lt
  have h3:s.data.toList.length = s.size:=by rw [Array.length_toList];rfl
  omega
theorem weightsAll_mem {e:TypeId} {d:DataW H}:∀ {l:List (DataW H)},d ∈ l → ∀ n ∈ d.weights P e,n ∈ DataW.weightsAll P e l
  | [],hd,_,_=>by simp at hd
  | x :: r,hd,n,hn=>by
    simp only [DataW.weightsAll,List.mem_append]
    rcases List.mem_cons.1 hd with rfl | h
    · exact Or.inl hn
    · exact Or.inr (weightsAll_mem h n hn)
theorem fits_slice {t e:TypeId} {elems spare:List (DataW H)} (h:Fits P t (.slice elems spare)) (hu:P.underlying t = some (.slice e)):(elems.length + spare.length) * P.bytesOf e ≤ reachBytes ∧ ∀ d ∈ elems,Fits P e d:=by
  constructor
  · exact h _ (by simp [DataW.weights,hu])
  · intro d hd n hn
    refine h n ?_
    simp only [DataW.weights,hu,List.mem_cons,List.mem_append]
    exact Or.inr (Or.inl (weightsAll_mem hd n hn))
end
end Go.Proofs.Ytikgiadbkjmabaa
