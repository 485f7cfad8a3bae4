/- The engine,piece EngD. -/
import Derived.Test.YtikgiadbkjmabaaEngC

/- The words of a walk: what is reckoned next,and nothing behind it. No program in sight. -/
namespace Go.Proofs.Ytikgiadbkjmabaa
open Go.RowKit
set_option linter.unusedSimpArgs false
set_option linter.unusedVariables false

def HK (k:Fr → Loc → Prop):Fr → Loc → Prop:=k
def HQ (q:Ex → Fr → Loc → Prop):Ex → Fr → Loc → Prop:=q
theorem contN (x:Nat):List.contains [] x = false:=rfl
theorem contC (B a b:Nat) (l:List Nat):List.contains ((B + a) :: l) (B + b) = (b == a || List.contains l (B + b)):=by
  have h:(B + b == B + a) = (b == a):=by
    rw [Bool.eq_iff_iff,beq_iff_eq,beq_iff_eq];omega
  simp only [List.contains,List.elem,h]
  cases b == a<;>rfl
theorem lt_self_add (B n:Nat):(B + n < B) = False:=by simp
theorem le_self_add (B n:Nat):(B ≤ B + n) = True:=by simp

section
variable (P:Program) (B:Nat) (T0:List Nat) (r:Sto) (Q:Ex → Fr → Loc → Prop) (a:Fr) (l:Loc)

def CondB (p:Prop) (b:Bool) (c e:SC):Prop:=p ∧ (b = true → SW P B T0 r c Q a l) ∧ (b = false → SW P B T0 r e Q a l)
theorem CondB_true (p:Prop) (c e:SC):CondB P B T0 r Q a l p true c e = (p ∧ SW P B T0 r c Q a l):=by simp [CondB]
theorem CondB_false (p:Prop) (c e:SC):CondB P B T0 r Q a l p false c e = (p ∧ SW P B T0 r e Q a l):=by simp [CondB]
def GCall (G:Prop) (d:Option Nat) (op:SOp) (os:List SO) (K:Fr → Loc → Prop):Prop:=(∃ v,(G → SE P B T0 r d (fun a' l'=>l' = l ∧ a' = putO d v a) a l op) ∧ HK (SWL P B T0 r os K) (putO d (.gd G v) a) l) ∨ (G ∧ SE P B T0 r d (HK (SWL P B T0 r os K)) a l op)
def GDCall (C:List Nat) (σ0:Sto) (l0:Loc) (G:Prop) (d:Option Nat) (op:SOp) (os:List SO) (k:Fr → Loc → Prop):Prop:=∃ v,(G → SDv P B C σ0 l0 a ⟨d,op,none⟩ fun v' ob=>v' = v ∧ ob = none) ∧ noN B C v ∧ HK (SWD P B C σ0 l0 os k) (putO d (.gd G v) a) l
def GuardS (c:Bool) (d:Option Nat) (op:SOp) (s:Nat) (b:Bool) (os:List SO) (K:Fr → Loc → Prop):Prop:=SWL P B T0 r (⟨d,op,some (s,b)⟩ :: os) K a l
theorem GuardS_true (d:Option Nat) (op:SOp) (s:Nat) (b:Bool) (os:List SO) (K:Fr → Loc → Prop):GuardS P B T0 r a l true d op s b os K = match opd a (.tmp s) with
      | (p,.d (.v (.bool c)))=>if c = b then (match aev P (sto l r) a op with
        | some (q,v)=>(p ∧ c = b → q) ∧ HK (SWL P B T0 r os K) (putO d (.gd (p ∧ c = b) v) a) l
        | none=>GCall P B T0 r a l (p ∧ c = b) d op os K) else HK (SWL P B T0 r os K) (putO d (.gd (p ∧ c = b) (.d (.v (.bool false)))) a) l
      | _=>False:=rfl
theorem GuardS_false (d:Option Nat) (op:SOp) (s:Nat) (b:Bool) (os:List SO) (K:Fr → Loc → Prop):GuardS P B T0 r a l false d op s b os K = match opd a (.tmp s) with
      | (p,.d (.v (.bool c)))=>if c = b then (match aev P (sto l r) a op with
        | some (q,v)=>(p ∧ c = b → q) ∧ HK (SWL P B T0 r os K) (putO d (.gd (p ∧ c = b) v) a) l
        | none=>GCall P B T0 r a l (p ∧ c = b) d op os K) else HK (SWL P B T0 r os K) (putO d (.gd (p ∧ c = b) (.d (.v (.bool false)))) a) l
      | _=>False:=rfl
def GuardD (C:List Nat) (σ0:Sto) (l0:Loc) (c:Bool) (d:Option Nat) (op:SOp) (s:Nat) (b:Bool) (os:List SO) (k:Fr → Loc → Prop):Prop:=SWD P B C σ0 l0 (⟨d,op,some (s,b)⟩ :: os) k a l
theorem GuardD_true (C:List Nat) (σ0:Sto) (l0:Loc) (d:Option Nat) (op:SOp) (s:Nat) (b:Bool) (os:List SO) (k:Fr → Loc → Prop):GuardD P B a l C σ0 l0 true d op s b os k = match opd a (.tmp s) with
      | (p,.d (.v (.bool c)))=>if c = b then (match aev P σ0 a op with
        | some (q,v)=>(p ∧ c = b → q) ∧ noN B C v ∧ HK (SWD P B C σ0 l0 os k) (putO d (.gd (p ∧ c = b) v) a) l
        | none=>GDCall P B a l C σ0 l0 (p ∧ c = b) d op os k) else HK (SWD P B C σ0 l0 os k) (putO d (.gd (p ∧ c = b) (.d (.v (.bool false)))) a) l
      | _=>False:=rfl
theorem GuardD_false (C:List Nat) (σ0:Sto) (l0:Loc) (d:Option Nat) (op:SOp) (s:Nat) (b:Bool) (os:List SO) (k:Fr → Loc → Prop):GuardD P B a l C σ0 l0 false d op s b os k = match opd a (.tmp s) with
      | (p,.d (.v (.bool c)))=>if c = b then (match aev P σ0 a op with
        | some (q,v)=>(p ∧ c = b → q) ∧ noN B C v ∧ HK (SWD P B C σ0 l0 os k) (putO d (.gd (p ∧ c = b) v) a) l
        | none=>GDCall P B a l C σ0 l0 (p ∧ c = b) d op os k) else HK (SWD P B C σ0 l0 os k) (putO d (.gd (p ∧ c = b) (.d (.v (.bool false)))) a) l
      | _=>False:=rfl
def HD (C:List Nat) (σ0:Sto) (l0:Loc) (d:Option Nat) (os:List SO) (k:Fr → Loc → Prop) (v:AV) (ob:Option AO):Prop:=SWD P B C σ0 l0 os k (putO d v a) (addN B d ob l)
theorem HD_app (C:List Nat) (σ0:Sto) (l0:Loc) (d:Option Nat) (os:List SO) (k:Fr → Loc → Prop) (v:AV) (ob:Option AO):HD P B a l C σ0 l0 d os k v ob = SWD P B C σ0 l0 os k (putO d v a) (addN B d ob l):=rfl
def DK (fr:Bool) (ops tl:List SO) (l:Loc) (K:Fr → Loc → Prop) (a:Fr) (nw:Loc):Prop:=bif fr then SWLn P r (loadNames ops a) tl K a (nw ++ killD (mkNames B ops) l) else SWL P B T0 r tl K a (nw ++ killD (mkNames B ops) l)
theorem DK_true (ops tl:List SO) (K:Fr → Loc → Prop) (nw:Loc):DK P B T0 r true ops tl l K a nw = SWLn P r (loadNames ops a) tl K a (nw ++ killD (mkNames B ops) l):=rfl
theorem DK_false (ops tl:List SO) (K:Fr → Loc → Prop) (nw:Loc):DK P B T0 r false ops tl l K a nw = SWL P B T0 r tl K a (nw ++ killD (mkNames B ops) l):=rfl
theorem HK_app (k:Fr → Loc → Prop):HK k a l = k a l:=rfl
theorem HQ_n (k:Fr → Loc → Prop):HQ (thenK k Q) .normal a l = k a l:=rfl
theorem HQ_r (k:Fr → Loc → Prop):HQ (thenK k Q) .ret a l = Q .ret a l:=rfl
theorem HQ_x (k:Fr → Loc → Prop) (i:Nat):HQ (thenK k Q) (.exit i) a l = Q (.exit i) a l:=rfl
theorem HQ_bn (i:Nat):HQ (blkK i Q) .normal a l = Q .normal a l:=rfl
theorem HQ_br (i:Nat):HQ (blkK i Q) .ret a l = Q .ret a l:=rfl
theorem HQ_bx (i m:Nat):HQ (blkK i Q) (.exit m) a l = if m = i then Q .normal a l else Q (.exit m) a l:=rfl
theorem HQ_en (rs:List ResultVar) (R:AV → Sto → Prop):HQ (EndK P B r rs R) .normal a l = EndV P B r rs R a l:=rfl
theorem HQ_er (rs:List ResultVar) (R:AV → Sto → Prop):HQ (EndK P B r rs R) .ret a l = EndV P B r rs R a l:=rfl
theorem HQ_ex (rs:List ResultVar) (R:AV → Sto → Prop) (i:Nat):HQ (EndK P B r rs R) (.exit i) a l = False:=rfl
theorem w_skip:SW P B T0 r .skip Q a l = Q .normal a l:=rfl
theorem w_ret:SW P B T0 r .ret Q a l = Q .ret a l:=rfl
theorem w_exit (i:Nat):SW P B T0 r (.exit i) Q a l = Q (.exit i) a l:=rfl
theorem w_reg (ops:List SO):SW P B T0 r (.reg ops) Q a l = SWL P B T0 r ops (HK (Q .normal)) a l:=rfl
theorem w_dreg (fr:Bool) (ops tl:List SO):SW P B T0 r (.dreg fr ops tl) Q a l = (Fr.below (B + 100000) (killT (mkNames B ops) a) ∧ Loc.below (B + 100000) (killD (mkNames B ops) l) ∧ SWD P B (mkNames B ops) (sto (killD (mkNames B ops) l) r) (killD (mkNames B ops) l) ops
      (DK P B T0 r fr ops tl l (HK (Q .normal))) (killT (mkNames B ops) a) []):=rfl
theorem w_oreg (t:OT):SW P B T0 r (.oreg t) Q a l = OSW P B T0 r t (HK (Q .normal)) a l:=rfl
def HO (t:OT) (k:Fr → Loc → Prop):Fr → Loc → Prop:=OSW P B T0 r t k
theorem HO_app (t:OT) (k:Fr → Loc → Prop):HO P B T0 r t k a l = OSW P B T0 r t k a l:=rfl
theorem w_odone (k:Fr → Loc → Prop):OSW P B T0 r .done k a l = k a l:=rfl
theorem w_onil (k:Fr → Loc → Prop):OSW P B T0 r .nil k a l = True:=rfl
theorem w_ofst (o:SO) (t:OT) (k:Fr → Loc → Prop):OSW P B T0 r (.fst o t) k a l = SWL P B T0 r [o] (HO P B T0 r t k) a l:=rfl
theorem w_obr (o:SO) (t rest:OT) (k:Fr → Loc → Prop):OSW P B T0 r (.br o t rest) k a l = (SWL P B T0 r [o] (HO P B T0 r t k) a l ∧ HO P B T0 r rest k a l):=rfl
def SK (y:SC):Ex → Fr → Loc → Prop:=thenK (SW P B T0 r y Q) Q
theorem w_seq (x y:SC):SW P B T0 r (.seq x y) Q a l = SW P B T0 r x (SK P B T0 r Q y) a l:=(rfl)
theorem SK_n (y:SC):SK P B T0 r Q y .normal a l = SW P B T0 r y Q a l:=(rfl)
theorem SK_r (y:SC):SK P B T0 r Q y .ret a l = Q .ret a l:=(rfl)
theorem SK_x (y:SC) (i:Nat):SK P B T0 r Q y (.exit i) a l = Q (.exit i) a l:=(rfl)
theorem w_keep (s:List Nat) (c:SC):SW P B T0 r (.keep s c) Q a l = SW P B T0 r c Q (Fr.norm s a) l:=rfl
theorem w_block (i:Nat) (c:SC):SW P B T0 r (.block i c) Q a l = SW P B T0 r c (HQ (blkK i Q)) a l:=rfl
theorem w_cond (x:Operand) (c e:SC):SW P B T0 r (.cond x c e) Q a l = match opd a x with
    | (p,.d (.v (.bool b)))=>CondB P B T0 r Q a l p b c e
    | _=>False:=rfl
theorem w_nil (K:Fr → Loc → Prop):SWL P B T0 r [] K a l = K a l:=rfl
theorem w_cons (d:Option Nat) (op:SOp) (os:List SO) (K:Fr → Loc → Prop):SWL P B T0 r (⟨d,op,none⟩ :: os) K a l = SO1 P B T0 r ⟨d,op,none⟩ (HK (SWL P B T0 r os K)) a l:=rfl
theorem w_consg (d:Option Nat) (op:SOp) (s:Nat) (b:Bool) (os:List SO) (K:Fr → Loc → Prop):SWL P B T0 r (⟨d,op,some (s,b)⟩ :: os) K a l = match opd a (.tmp s) with
      | (p,.d (.v (.bool c)))=>GuardS P B T0 r a l c d op s b os K
      | _=>False:=by
  have key:SWL P B T0 r (⟨d,op,some (s,b)⟩ :: os) K a l = SOg P B T0 r ⟨d,op,some (s,b)⟩ s b (SWL P B T0 r os K) a l:=rfl
  unfold GuardS
  rw [key]
  split
  · rfl
  · rename_i hne
    unfold SOg
    split
    · rename_i p c h;exact absurd h (hne p c)
    · rfl
theorem w_nnil (NR:List Nat) (K:Fr → Loc → Prop):SWLn P r NR [] K a l = K a l:=rfl
theorem w_ncons (NR:List Nat) (d:Option Nat) (op:SOp) (os:List SO) (K:Fr → Loc → Prop):SWLn P r NR (⟨d,op,none⟩ :: os) K a l = (match aev P (sto l r) a op with
      | some (q,v)=>q ∧ HK (SWLn P r NR os K) (putO d v a) l
      | none=>match op with
        | .store t p x=>(match avName (opd a p).2 with | some n=>NR.contains n = false | none=>False) ∧ SEstore P r d (HK (SWLn P r NR os K)) a l t p x
        | _=>False):=rfl
theorem w_dnil (C:List Nat) (σ0:Sto) (l0:Loc) (k:Fr → Loc → Prop):SWD P B C σ0 l0 [] k a l = k a l:=rfl
def SDe (C:List Nat) (σ0:Sto) (l0:Loc) (d:Option Nat) (op:SOp) (k:AV → Option AO → Prop):Prop:=match op with
    | .alloc t=>match d,tzero P t with
      | some s,some z=>k (.lp (B + s) 0) (some (.box (z.map fun x=>.d (.v x))))
      | _,_=>False
    | .box t x=>match d,cellsAV (opd a x).2 with
      | some s,some cs=>(opd a x).1 ∧ AV.allNL (fun m=>!C.contains m && decide (m < B + 100000)) cs = true ∧ k (.lp (B + s) 0) (some (.box cs))
      | _,_=>False
    | .bslice t n parts=>match bsliceV P t n (parts.map fun p=>(p.1,(opd a p.2).2)) with
      | some rows=>allP (parts.map fun p=>(opd a p.2).1) ∧ k (.d (.ro rows)) none
      | none=>False
    | .app t u s x=>match (opd a s).2,(tel P t),(tel P t).bind (tsz P),(tel P t).bind (tby P),(tel P t).bind (tzero P) with
      | .d (.v (.slice none 0 0)),some _,some kk,some by_,some z=>match srcV P σ0 u (z.map fun x=>(RV.v x).nrm) (opd a x).2 with
        | some (q,news)=>(opd a x).1 ∧ (opd a s).1 ∧ q ∧ z.length = kk ∧ 0 < kk ∧ (∀ row ∈ news,row.length = kk) ∧ news.length * by_ ≤ 2 ^ 47 ∧ news.length ≤ 2 ^ 47 ∧ k (.d (.ro news)) none
        | none=>False
      | _,_,_,_,_=>False
    | .call f args=>∃ v,enters P f = true ∧ ACalls P f (args.map fun x=>(opd a x).2) σ0 (B + 100000) [] (fun v' σ'=>v' = v ∧ σ' = σ0) ∧ allP (args.map fun x=>(opd a x).1) ∧ Loc.below (B + 100000) l0 ∧ noN B C v ∧ k v none
    | .callv x args=>∃ v,ACallv P (opd a x).2 (args.map fun x=>(opd a x).2) σ0 (B + 100000) [] (fun v' σ'=>v' = v ∧ σ' = σ0) ∧ (opd a x).1 ∧ allP (args.map fun x=>(opd a x).1) ∧ Loc.below (B + 100000) l0 ∧ noN B C v ∧ k v none
    | _=>False
theorem w_sdv (C:List Nat) (σ0:Sto) (l0:Loc) (d:Option Nat) (op:SOp) (g:Option (Nat × Bool)) (k:AV → Option AO → Prop):SDv P B C σ0 l0 a ⟨d,op,g⟩ k = match aev P σ0 a op with
    | some (q,v)=>q ∧ noN B C v ∧ k v none
    | none=>SDe P B a C σ0 l0 d op k:=rfl
theorem SDe_alloc (C:List Nat) (σ0:Sto) (l0:Loc) (d:Option Nat) (t:TypeId) (k:AV → Option AO → Prop):SDe P B a C σ0 l0 d (.alloc t) k = match d,tzero P t with
      | some s,some z=>k (.lp (B + s) 0) (some (.box (z.map fun x=>.d (.v x))))
      | _,_=>False:=rfl
theorem SDe_box (C:List Nat) (σ0:Sto) (l0:Loc) (d:Option Nat) (t:TypeId) (x:Operand) (k:AV → Option AO → Prop):SDe P B a C σ0 l0 d (.box t x) k = match d,cellsAV (opd a x).2 with
      | some s,some cs=>(opd a x).1 ∧ AV.allNL (fun m=>!C.contains m && decide (m < B + 100000)) cs = true ∧ k (.lp (B + s) 0) (some (.box cs))
      | _,_=>False:=rfl
theorem SDe_bslice (C:List Nat) (σ0:Sto) (l0:Loc) (d:Option Nat) (t:TypeId) (n:Nat) (parts:List (Nat × Operand)) (k:AV → Option AO → Prop):SDe P B a C σ0 l0 d (.bslice t n parts) k = match bsliceV P t n (parts.map fun p=>(p.1,(opd a p.2).2)) with
      | some rows=>allP (parts.map fun p=>(opd a p.2).1) ∧ k (.d (.ro rows)) none
      | none=>False:=rfl
theorem SDe_app (C:List Nat) (σ0:Sto) (l0:Loc) (d:Option Nat) (t u:TypeId) (s x:Operand) (k:AV → Option AO → Prop):SDe P B a C σ0 l0 d (.app t u s x) k = match (opd a s).2,tel P t with
      | .d (.v (.slice none 0 0)),some E=>match tsz P E,tby P E,tzero P E with
        | some kk,some by_,some z=>match srcV P σ0 u (z.map fun x=>(RV.v x).nrm) (opd a x).2 with
          | some (q,news)=>(opd a x).1 ∧ (opd a s).1 ∧ q ∧ z.length = kk ∧ 0 < kk ∧ (∀ row ∈ news,row.length = kk) ∧ news.length * by_ ≤ 2 ^ 47 ∧ news.length ≤ 2 ^ 47 ∧ k (.d (.ro news)) none
          | none=>False
        | _,_,_=>False
      | _,_=>False:=by
  simp only [SDe]
  generalize (opd a s).2 = v
  cases tel P t with
  | none =>
    cases v<;>(try rfl)
    rename_i rr;cases rr<;>(try rfl)
    rename_i x1;cases x1<;>(try rfl)
    rename_i ad ln cp;cases ad<;>(try rfl);cases ln<;>(try rfl);cases cp<;>rfl
  | some E =>
    simp only [Option.bind_some]
    cases v<;>(try rfl)
    rename_i rr;cases rr<;>(try rfl)
    rename_i x1;cases x1<;>(try rfl)
    rename_i ad ln cp;cases ad<;>(try rfl)
    cases ln<;>(try rfl)
    cases cp<;>(try rfl)
    show _ = match tsz P E,tby P E,tzero P E with
        | some kk,some by_,some z=>match srcV P σ0 u (z.map fun x=>(RV.v x).nrm) (opd a x).2 with
          | some (q,news)=>(opd a x).1 ∧ (opd a s).1 ∧ q ∧ z.length = kk ∧ 0 < kk ∧ (∀ row ∈ news,row.length = kk) ∧ news.length * by_ ≤ 2 ^ 47 ∧ news.length ≤ 2 ^ 47 ∧ k (.d (.ro news)) none
          | none=>False
        | _,_,_=>False
    cases tsz P E<;>cases tby P E<;>cases tzero P E<;>rfl
theorem w_dcons (C:List Nat) (σ0:Sto) (l0:Loc) (d:Option Nat) (op:SOp) (os:List SO) (k:Fr → Loc → Prop):SWD P B C σ0 l0 (⟨d,op,none⟩ :: os) k a l = SDv P B C σ0 l0 a ⟨d,op,none⟩ (HD P B a l C σ0 l0 d os k):=rfl
theorem w_dconsg (C:List Nat) (σ0:Sto) (l0:Loc) (d:Option Nat) (op:SOp) (s:Nat) (b:Bool) (os:List SO) (k:Fr → Loc → Prop):SWD P B C σ0 l0 (⟨d,op,some (s,b)⟩ :: os) k a l = match opd a (.tmp s) with
      | (p,.d (.v (.bool c)))=>GuardD P B a l C σ0 l0 c d op s b os k
      | _=>False:=by
  unfold GuardD
  split
  · rfl
  · rename_i hne
    unfold SWD
    split
    · rename_i h;cases h
    · rename_i s' b' h
      cases h
      split
      · rename_i p c h;exact absurd h (hne p c)
      · rfl
theorem CondB_of {p:Prop} {b:Bool} {c e:SC} (hp:p) (h1:b = true → SW P B T0 r c Q a l) (h2:b = false → SW P B T0 r e Q a l):CondB P B T0 r Q a l p b c e:=⟨hp,h1,h2⟩
theorem GuardS_of {c:Bool} {d:Option Nat} {op:SOp} {s:Nat} {b:Bool} {os:List SO} {K:Fr → Loc → Prop} (h1:c = true → GuardS P B T0 r a l true d op s b os K) (h2:c = false → GuardS P B T0 r a l false d op s b os K):GuardS P B T0 r a l c d op s b os K:=by
  cases c
  · exact h2 rfl
  · exact h1 rfl
theorem GuardD_of {C:List Nat} {σ0:Sto} {l0:Loc} {c:Bool} {d:Option Nat} {op:SOp} {s:Nat} {b:Bool} {os:List SO} {k:Fr → Loc → Prop} (h1:c = true → GuardD P B a l C σ0 l0 true d op s b os k) (h2:c = false → GuardD P B a l C σ0 l0 false d op s b os k):GuardD P B a l C σ0 l0 c d op s b os k:=by
  cases c
  · exact h2 rfl
  · exact h1 rfl

theorem w_app (d:Option Nat) (K:Fr → Loc → Prop) (t u:TypeId) (s x:Operand):SEapp P B T0 r d K a l t u s x = match d,tel P t with
    | some dd,some E=>match tsz P E,tby P E,tzero P E with
      | some k,some by_,some z=>match srcV P (sto l r) u (z.map fun x=>(RV.v x).nrm) (opd a x).2,dstV (sto l r) k E (opd a s).2 with
        | some (q,news),some (q',rows)=>(opd a x).1 ∧ (opd a s).1 ∧ q ∧ q' ∧ z.length = k ∧ 0 < k ∧ (∀ row ∈ news,row.length = k) ∧ (rows.length + news.length) * by_ ≤ 2 ^ 47 ∧ rows.length + news.length ≤ 2 ^ 47 ∧
          (B ≤ appName (B + dd) (opd a s).2 ∨ (appName (B + dd) (opd a s).2 ∈ T0 ∧ ∀ m,(r m).kill (appName (B + dd) (opd a s).2) = r m)) ∧
          K ((dd,.os (appName (B + dd) (opd a s).2) (rows.length + news.length)) :: newF (appName (B + dd) (opd a s).2) a) (newL (appName (B + dd) (opd a s).2) (.arr k E (rows ++ news)) l)
        | some (q,news),none=>SEapB B T0 r dd E k by_ z q news K a l s x
        | none,some (q',rows)=>SEapA P B T0 r dd E k by_ z q' rows K a l u s x
        | none,none=>False
      | _,_,_=>False
    | _,_=>False:=by
  unfold SEapp
  cases d with
  | none=>rfl
  | some dd =>
    cases tel P t with
    | none=>rfl
    | some E =>
      simp only [Option.bind_some]
      cases tsz P E<;>cases tby P E<;>cases tzero P E<;>rfl

def SEfz (P:Program) (B:Nat) (r:Sto) (d:Option Nat) (K:Fr → Loc → Prop) (a:Fr) (l:Loc) (t:TypeId) (n:Nat) (parts:List (Nat × Operand)):Option Nat → Prop
  | some m=>match sto l r m with
    | .arr _ _ rows=>if B ≤ m then SEbs0 P d K (Fr.map (AV.fz1 m rows) a) (Loc.kill m l) t n parts else SEbsH P B d K a l t n parts
    | _=>False
  | none=>False
theorem w_bsH (P:Program) (B:Nat) (d:Option Nat) (K:Fr → Loc → Prop) (a:Fr) (l:Loc) (t:TypeId) (n:Nat) (parts:List (Nat × Operand)):SEbsH P B d K a l t n parts = match d,tel P t with
    | some dd,some E=>match tsz P E,bsliceA P t n (parts.map fun p=>(p.1,(opd a p.2).2)) with
      | some kk,some cs=>n = 1 ∧ allP (parts.map fun p=>(opd a p.2).1) ∧ K ((dd,.os (B + dd) 1) :: newF (B + dd) a) (newL (B + dd) (.arh kk E [] (cs.map (AV.kill (B + dd))) []) l)
      | _,_=>False
    | _,_=>False:=by
  unfold SEbsH
  cases d with
  | none=>rfl
  | some dd =>
    cases tel P t with
    | none=>rfl
    | some E =>
      simp only [Option.bind_some]
      generalize bsliceA P t n (parts.map fun p=>(p.1,(opd a p.2).2)) = x
      cases tsz P E<;>cases x<;>rfl
def SEbl (P:Program) (B:Nat) (d:Option Nat) (K:Fr → Loc → Prop) (a:Fr) (l:Loc) (t:TypeId) (n:Nat) (parts:List (Nat × Operand)):Prop:=match d,tel P t with
    | some dd,some E=>match tsz P E,bsliceV P t n (parts.map fun p=>(p.1,(opd a p.2).2)) with
      | some kk,some rows=>allP (parts.map fun p=>(opd a p.2).1) ∧ K ((dd,.os (B + dd) n) :: newF (B + dd) a) (newL (B + dd) (.arr kk E rows) l)
      | _,_=>False
    | _,_=>False
theorem w_bs (d:Option Nat) (K:Fr → Loc → Prop) (t:TypeId) (n:Nat) (parts:List (Nat × Operand)):SEbs P B T0 r d K a l t n parts = bif (bif decide (9 ≤ T0.length) then (bif n == 1 then nilIn (parts.map fun p=>(opd a p.2).2) else false) else false) then SEbsH P B d K a l t n parts else bif decide (24 ≤ n) || decide (7 ≤ T0.length) then SEbl P B d K a l t n parts else match bsliceV P t n (parts.map fun p=>(p.1,(opd a p.2).2)) with
    | some rows=>allP (parts.map fun p=>(opd a p.2).1) ∧ K (putO d (bif n == 0 then .emp else .d (.ro rows)) a) l
    | none=>SEfz P B r d K a l t n parts (fzName (parts.map fun p=>(opd a p.2).2)):=by
  unfold SEbs SEbl ownLit litH
  congr 2
  · cases d with
    | none=>rfl
    | some dd =>
      cases tel P t with
      | none=>rfl
      | some E =>
        simp only [Option.bind_some]
        generalize bsliceV P t n (parts.map fun p=>(p.1,(opd a p.2).2)) = x
        cases tsz P E<;>cases x<;>rfl
theorem w_mk (d:Option Nat) (K:Fr → Loc → Prop) (t:TypeId) (ln c:Operand):SEmk P B d K a l t ln c = match d,tel P t with
    | some dd,some E=>match tsz P E,tby P E,tzero P E with
      | some k,some by_,some z=>match opd a ln,opd a c with
        | (q1,.d (.v (.int _ n))),(q2,.d (.v (.int _ m)))=>q1 ∧ q2 ∧ n = m ∧ 0 ≤ n ∧ z.length = k ∧ 0 < k ∧ n * by_ ≤ 2 ^ 47 ∧ n ≤ 2 ^ 47 ∧
          K ((dd,.os (B + dd) n.toNat) :: newF (B + dd) a) (newL (B + dd) (.arr k E (List.replicate n.toNat (z.map fun x=>(RV.v x).nrm))) l)
        | _,_=>False
      | _,_,_=>False
    | _,_=>False:=by
  unfold SEmk
  cases d with
  | none=>rfl
  | some dd =>
    cases tel P t with
    | none=>rfl
    | some E =>
      simp only [Option.bind_some]
      obtain ⟨q1,v1⟩:=opd a ln
      obtain ⟨q2,v2⟩:=opd a c
      cases tsz P E<;>cases tby P E<;>cases tzero P E<;>(try rfl)
      cases v1<;>(try rfl)
      rename_i r1
      cases r1<;>(try rfl)
      rename_i x1
      cases x1<;>(try rfl)
      cases v2<;>(try rfl)
      rename_i r2
      cases r2<;>(try rfl)
      rename_i x2
      cases x2<;>rfl

end

def Pure (P:Program) (f:FuncId) (args:List AV) (v:AV):Prop:=∀ (B:Nat) (σ:Sto),ACalls P f args σ B [] (fun v' σ'=>v' = v ∧ σ' = σ)
def Purev (P:Program) (fv:AV) (args:List AV) (v:AV):Prop:=∀ (B:Nat) (σ:Sto),ACallv P fv args σ B [] (fun v' σ'=>v' = v ∧ σ' = σ)

def PureC (C:Sto → Prop) (P:Program) (f:FuncId) (args:List AV) (v:AV):Prop:=∀ (B:Nat) (σ:Sto),C σ → ACalls P f args σ B [] (fun v' σ'=>v' = v ∧ σ' = σ)
def PurevC (C:Sto → Prop) (P:Program) (fv:AV) (args:List AV) (v:AV):Prop:=∀ (B:Nat) (σ:Sto),C σ → ACallv P fv args σ B [] (fun v' σ'=>v' = v ∧ σ' = σ)
theorem Pure.c {C:Sto → Prop} {P:Program} {f:FuncId} {args:List AV} {v:AV} (h:Pure P f args v):PureC C P f args v:=fun B σ _=>h B σ
theorem PureC.clo {C:Sto → Prop} {P:Program} {f:FuncId} {first cap args:List AV} {v:AV} (he:enters P f = true) (h:PureC C P f (first ++ args ++ cap) v):PurevC C P (.clo (.func f) first cap) args v:=fun B σ hc=>⟨he,h B σ hc⟩

inductive Sized:RV → Prop
  | v {x:Value}:Sized (.v x)
  | ro {rows:List (List RV)}:rows.length ≤ 2 ^ 47 → (∀ r ∈ rows,∀ c ∈ r,Sized c) → Sized (.ro rows)
theorem RRep.sized {I:Nat → Prop} {w:World} {r:RV} {x:Value} (h:RRep I w r x):Sized r:=by
  induction h with
  | v=>exact .v
  | nil=>exact .ro (by simp) (by simp)
  | ro h1 h2 h3 h4 h5 h6 h7 h8 ih =>
    refine .ro h4 fun r hr c hc=>?_
    obtain ⟨i,hi⟩:=List.mem_iff_getElem?.1 hr
    obtain ⟨j,hj⟩:=List.mem_iff_getElem?.1 hc
    exact ih i j r c hi hj
theorem Sized.len {rows:List (List RV)} (h:Sized (.ro rows)):rows.length ≤ 2 ^ 47:=by cases h;assumption
theorem Sized.cell {rows:List (List RV)} (h:Sized (.ro rows)) {r:List RV} (hr:r ∈ rows) {c:RV} (hc:c ∈ r):Sized c:=by
  cases h with | ro _ h=>exact h r hr c hc
def AV.sz1:AV → Prop
  | .d r=>Sized r
  | _=>True
def AV.sz:AV → Prop
  | .d r=>Sized r
  | .agg cs=>∀ c ∈ cs,c.sz1
  | .rp cs=>∀ c ∈ cs,Sized c
  | _=>True
theorem Rep.sz {K:KS} {w:World} {v:AV} {x:Value} (h:Rep K w v x):v.sz:=by
  cases h<;>(try exact trivial)
  case d h=>exact h.sized
  case agg h1 h2 h3 =>
    intro c hc
    obtain ⟨i,hi⟩:=List.mem_iff_getElem?.1 hc
    have hlt:=(List.getElem?_eq_some_iff.1 hi).1
    obtain ⟨x,hx⟩:∃ x,Rep K w c x:=⟨_,h2 i c _ hi (List.getElem?_eq_getElem (by omega))⟩
    cases hx<;>(try exact trivial)
    rename_i h;exact h.sized
  case rp h1 h2 h3 =>
    intro c hc
    obtain ⟨i,hi⟩:=List.mem_iff_getElem?.1 hc
    exact (h3 i c hi).sized

theorem pure_of {fl:Bool} {P:Program} {f:FuncId} {fn:Func} {args:List AV} {v:AV} {sc:SC} {rs:List ResultVar} (hm:P.follows .mixedOrders = true) (hf:P.funcs[f]? = some fn) (hc:annB fl fn = some sc) (hr:fn.results.toList = rs) (hn:args.length ≤ fn.ntmps)
    (h:∀ B σ,ClosedS B σ → (∀ c ∈ args,c.sz) → SW P B [] σ sc (HQ (EndK P B σ rs fun v' σ'=>v' = v ∧ σ' = σ)) (entry 0 args) []):Pure P f args v:=fun B σ xs w ⟨K,hP⟩ =>
  ACalls_at (l0:=[]) hm hf hn (fun h=>h) (fun hcl=>by
    rw [hc,hr]
    refine h B σ hcl fun c hmem=>?_
    obtain ⟨i,hi⟩:=List.mem_iff_getElem?.1 hmem
    have hlt:i < xs.length:=by rw [← hP.2.2.1];exact (List.getElem?_eq_some_iff.1 hi).1
    exact (hP.2.2.2 i c _ hi (List.getElem?_eq_getElem hlt)).sz) xs w ⟨K,hP⟩

theorem pure_ofC {fl:Bool} {C:Sto → Prop} {P:Program} {f:FuncId} {fn:Func} {args:List AV} {v:AV} {sc:SC} {rs:List ResultVar} (hm:P.follows .mixedOrders = true) (hf:P.funcs[f]? = some fn) (hc:annB fl fn = some sc) (hr:fn.results.toList = rs) (hn:args.length ≤ fn.ntmps)
    (h:∀ B σ,C σ → ClosedS B σ → (∀ c ∈ args,c.sz) → SW P B [] σ sc (HQ (EndK P B σ rs fun v' σ'=>v' = v ∧ σ' = σ)) (entry 0 args) []):PureC C P f args v:=fun B σ hC xs w ⟨K,hP⟩ =>
  ACalls_at (l0:=[]) hm hf hn (fun h=>h) (fun hcl=>by
    rw [hc,hr]
    refine h B σ hC hcl fun c hmem=>?_
    obtain ⟨i,hi⟩:=List.mem_iff_getElem?.1 hmem
    have hlt:i < xs.length:=by rw [← hP.2.2.1];exact (List.getElem?_eq_some_iff.1 hi).1
    exact (hP.2.2.2 i c _ hi (List.getElem?_eq_getElem hlt)).sz) xs w ⟨K,hP⟩

section
variable {P:Program} {B:Nat} {T0:List Nat} {r:Sto} {a:Fr} {l nw l0:Loc} {C:List Nat} {σ0:Sto} {d:Option Nat} {K:Fr → Loc → Prop} {os:List SO} {kk:AV → Option AO → Prop} {f:FuncId} {x:Operand} {args:List Operand} {vs:List AV} {v fv:AV}

theorem call_ro (he:enters P f = true) (hC:Pure P f vs v) (hv:(args.map fun x=>(opd a x).2) = vs) (hp:allP (args.map fun x=>(opd a x).1)) (hF:Fr.below (B + 100000) a) (hL:Loc.below (B + 100000) l) (hk:K (putO d v a) l):SEcall P B T0 r d K a l f args:=by
  unfold SEcall
  exact ⟨[],fun v' σ'=>v' = v ∧ σ' = sto l r,a,l,Wk.refl _ _ _ _ _,he,by simp,by rw [hv];exact hC _ _,hp,hF,hL,fun v' σ' ⟨h1,h2⟩=>⟨l,h2,by rw [h1];exact hk⟩⟩
theorem call_roC {D:Sto → Prop} (he:enters P f = true) (hC:PureC D P f vs v) (hv:(args.map fun x=>(opd a x).2) = vs) (hc:D (sto l r)) (hp:allP (args.map fun x=>(opd a x).1)) (hF:Fr.below (B + 100000) a) (hL:Loc.below (B + 100000) l) (hk:K (putO d v a) l):SEcall P B T0 r d K a l f args:=by
  unfold SEcall
  exact ⟨[],fun v' σ'=>v' = v ∧ σ' = sto l r,a,l,Wk.refl _ _ _ _ _,he,by simp,by rw [hv];exact hC _ _ hc,hp,hF,hL,fun v' σ' ⟨h1,h2⟩=>⟨l,h2,by rw [h1];exact hk⟩⟩
theorem callv_roC {D:Sto → Prop} (hC:PurevC D P fv vs v) (hf:(opd a x).2 = fv) (hv:(args.map fun x=>(opd a x).2) = vs) (hc:D (sto l r)) (hx:(opd a x).1) (hp:allP (args.map fun x=>(opd a x).1)) (hF:Fr.below (B + 100000) a) (hL:Loc.below (B + 100000) l) (hk:K (putO d v a) l):SEcallv P B T0 r d K a l x args:=by
  unfold SEcallv
  exact ⟨[],fun v' σ'=>v' = v ∧ σ' = sto l r,a,l,Wk.refl _ _ _ _ _,by simp,by rw [hv,hf];exact hC _ _ hc,hx,hp,hF,hL,fun v' σ' ⟨h1,h2⟩=>⟨l,h2,by rw [h1];exact hk⟩⟩
theorem gcallv_roC {G:Prop} {D:Sto → Prop} {x:Operand} {fv:AV} (hC:PurevC D P fv vs v) (hf:(opd a x).2 = fv) (hv:(args.map fun x=>(opd a x).2) = vs) (hc:D (sto l r)) (hx:G → (opd a x).1) (hp:G → allP (args.map fun x=>(opd a x).1)) (hF:Fr.below (B + 100000) a) (hL:Loc.below (B + 100000) l) (hk:SWL P B T0 r os K (putO d (.gd G v) a) l):GCall P B T0 r a l G d (.callv x args) os K :=
  .inl ⟨v,fun hG=>by simp only [SE];exact callv_roC hC hf hv hc (hx hG) (hp hG) hF hL ⟨rfl,rfl⟩,hk⟩
theorem gcall_ro {G:Prop} (he:enters P f = true) (hC:Pure P f vs v) (hv:(args.map fun x=>(opd a x).2) = vs) (hp:G → allP (args.map fun x=>(opd a x).1)) (hF:Fr.below (B + 100000) a) (hL:Loc.below (B + 100000) l) (hk:SWL P B T0 r os K (putO d (.gd G v) a) l):GCall P B T0 r a l G d (.call f args) os K :=
  .inl ⟨v,fun hG=>by simp only [SE];exact call_ro he hC hv (hp hG) hF hL ⟨rfl,rfl⟩,hk⟩
theorem gcall_do {G:Prop} {op:SOp} (hG:G) (h:SE P B T0 r d (SWL P B T0 r os K) a l op):GCall P B T0 r a l G d op os K:=.inr ⟨hG,h⟩
theorem gcall_no {G:Prop} {op:SOp} (hG:¬ G) (hk:SWL P B T0 r os K (putO d (.gd G (.d (.v (.bool false)))) a) l):GCall P B T0 r a l G d op os K:=.inl ⟨.d (.v (.bool false)),fun h=>absurd h hG,hk⟩
theorem dcall_ro (he:enters P f = true) (hC:Pure P f vs v) (hv:(args.map fun x=>(opd a x).2) = vs) (hp:allP (args.map fun x=>(opd a x).1)) (hn:noN B C v) (hL:Loc.below (B + 100000) l0) (hk:kk v none):SDe P B a C σ0 l0 d (.call f args) kk :=
  ⟨v,he,by rw [hv];exact hC _ _,hp,hL,hn,hk⟩
theorem gdcall_ro {G:Prop} (hd:aev P σ0 a (.call f args) = none) (he:enters P f = true) (hC:Pure P f vs v) (hv:(args.map fun x=>(opd a x).2) = vs) (hp:G → allP (args.map fun x=>(opd a x).1)) (hn:noN B C v) (hL:Loc.below (B + 100000) l0) (hk:SWD P B C σ0 l0 os K (putO d (.gd G v) a) l):GDCall P B a l C σ0 l0 G d (.call f args) os K :=
  ⟨v,fun hG=>by rw [w_sdv,hd];exact dcall_ro he hC hv (hp hG) hn hL ⟨rfl,rfl⟩,hn,hk⟩
theorem gdcall_no {G:Prop} {op:SOp} (hG:¬ G) (hk:SWD P B C σ0 l0 os K (putO d (.gd G (.d (.v (.bool false)))) a) l):GDCall P B a l C σ0 l0 G d op os K:=⟨.d (.v (.bool false)),fun h=>absurd h hG,rfl,hk⟩
end

theorem Wk.frame {B:Nat} {T0:List Nat} {r:Sto} {a a':Fr} {l:Loc} (h:∀ p ∈ a',p.2 = a.get p.1):Wk B T0 r a l a' l:=fun t w K h1 h2=>by
  refine ⟨K,Ext.refl _ _ _ _ _,h1,fun s=>?_⟩
  have:a'.get s = a.get s ∨ a'.get s = .any:=by
    clear h2
    induction a' with
    | nil=>exact .inr rfl
    | cons p a' ih =>
      obtain ⟨u,v⟩:=p
      simp only [Fr.get]
      split
      · rename_i e;subst e;exact .inl (h (u,v) (by simp))
      · exact ih fun q hq=>h q (List.mem_cons_of_mem _ hq)
  rcases this with e | e<;>rw [e]
  · exact h2 s
  · exact .any

theorem Wk.keep {B:Nat} {T0:List Nat} {r:Sto} {a a':Fr} {l l':Loc} (hr:ClosedS B r) (h:∀ p ∈ a',p.2 = a.get p.1) (h1:∀ p ∈ l',sto l r p.1 = p.2) (h2:∀ p ∈ l,p.1 ∈ l'.map (·.1) ∨ B ≤ p.1):Wk B T0 r a l a' l':=by
  refine Wk.trans (Wk.frame h) fun t w K g1 g2=>?_
  have key:∀ n,sto l' r n = sto l r n ∨ sto l' r n = .dead:=fun n=>by
    by_cases hn:n ∈ l'.map (·.1)
    · left
      have:∀ l',(∀ p ∈ l',sto l r p.1 = p.2) → n ∈ List.map (·.1) l' → sto l' r n = sto l r n:=fun l'=>by
        induction l' with
        | nil=>intro _ hn;simp at hn
        | cons p l' ih =>
          intro h1 hn
          obtain ⟨m,o⟩:=p
          rw [sto_cons]
          split
          · rename_i e;subst e;exact (h1 (n,o) (by simp)).symm
          · rename_i e
            refine ih (fun q hq=>h1 q (List.mem_cons_of_mem _ hq)) ?_
            simp only [List.map_cons,List.mem_cons] at hn
            exact hn.resolve_left e
      exact this l' h1 hn
    · have e1:∀ l:Loc,n ∉ l.map (·.1) → sto l r n = r n:=fun l=>by
        induction l with
        | nil=>intro _;rfl
        | cons p l ih =>
          intro hn
          obtain ⟨m,o⟩:=p
          simp only [List.map_cons,List.mem_cons,not_or] at hn
          rw [sto_cons,if_neg hn.1];exact ih hn.2
      rw [e1 l' hn]
      by_cases hm:n ∈ l.map (·.1)
      · right
        obtain ⟨p,hp,rfl⟩:=List.mem_map.1 hm
        exact (hr p.1).2 ((h2 p hp).resolve_left hn)
      · left;rw [e1 l hm]
  have hlive:∀ n,(sto l' r n).live K n → (sto l r n).live K n:=fun n hl=>by
    rcases key n with e | e<;>rw [e] at hl
    · exact hl
    · exact hl.elim
  refine ⟨K,⟨fun _ _ _=>⟨rfl,rfl,rfl,rfl⟩,fun _ h=>h,Keep.refl _ _,fun b hb=>hb.elim .inl fun ⟨n,e1,e2⟩=>.inr (.inr ⟨n,hlive n e1,e2⟩)⟩,g1.sub fun n=>(key n),g2⟩

theorem loop_nat {P:Program} {B:Nat} {T0:List Nat} {r:Sto} {c:SC} {Q:Ex → Fr → Loc → Prop} {a:Fr} {l:Loc} (n:Nat) (F:Nat → Prop) (A:Nat → Fr) (L:Nat → Loc) (hF:F 0) (h0:Wk B T0 r a l (A 0) (L 0))
    (h:∀ k,k ≤ n → F k → SW P B T0 r c (HQ (thenK (fun a1 l1=>k < n ∧ F (k + 1) ∧ Wk B T0 r a1 l1 (A (k + 1)) (L (k + 1))) Q)) (A k) (L k)):SW P B T0 r (.loop c) Q a l:=by
  refine ⟨fun m a l=>∃ k,k ≤ n ∧ F k ∧ m = n - k ∧ a = A k ∧ l = L k,⟨n,A 0,L 0,h0,0,by omega,hF,by omega,rfl,rfl⟩,fun m a l ⟨k,hk,hFk,hm,ha,hl⟩=>?_⟩
  subst ha;subst hl
  refine SW_mono c (fun e a' l' h=>?_) (h k hk hFk)
  cases e
  · obtain ⟨h1,h2,h3⟩:=h
    exact ⟨n - (k + 1),_,_,h3,⟨k + 1,by omega,h2,rfl,rfl,rfl⟩,by omega⟩
  · exact h
  · exact h

theorem Wk.nameF {B:Nat} {T0:List Nat} {r:Sto} {a:Fr} {l:Loc} {s n k:Nat} {E:TypeId} (hs:a.get s = .d (.v (.slice none 0 0))) (hk:0 < k) (hn:B ≤ n ∨ n ∈ T0) (hr:∀ m,(r m).kill n = r m):Wk B T0 r a l ((s,.os n 0) :: newF n a) (newL n (.arr k E []) l):=fun t w K h1 h2=>by
  let K':KS:={ K with nl:=fun m=>if m = n then true else K.nl m,ad:=fun m=>if m = n then none else K.ad m }
  have hsame:∀ m,m ≠ n → K.same K' m:=fun m hm=>⟨rfl,rfl,if_neg hm,if_neg hm⟩
  have hσ:∀ m,sto (newL n (.arr k E []) l) r m = if m = n then .arr k E [] else (sto l r m).kill n:=fun m=>sto_newL _ _ _ _ hr m
  have hnl:K'.nl n = true:=if_pos rfl
  refine ⟨K',⟨fun m hm hT=>hsame m (fun e=>hn.elim (by omega) (fun h=>hT (e ▸ h))),fun b h=>h,Keep.refl _ _,fun b hb=>?_⟩,?_,?_⟩
  · rcases hb with hb | ⟨m,hl,rfl⟩
    · exact .inl hb
    · by_cases hm:m = n
      · subst hm;rw [hσ,if_pos rfl] at hl;simp only [AO.live,hnl] at hl;cases hl
      · rw [hσ,if_neg hm,AO.kill_live,live_same (hsame m hm)] at hl
        exact .inr (.inr ⟨m,hl,rfl⟩)
  · exact h1.bind (fun b=>Iff.rfl) (Keep.refl _ _) hsame (fun _ _ _=>rfl) (o:=.arr k E []) ⟨hk,.inl ⟨hnl,rfl⟩⟩ (fun m hm hl hl2=>by simp only [AO.live,hnl] at hl2;cases hl2) hσ
  · intro u
    simp only [Fr.get]
    split
    · rename_i e
      subst e
      have:=h2 s
      rw [hs] at this
      have hv:t.getD s undef = .slice none 0 0:=by cases this with | d h=>exact h.int
      rw [hv]
      have:Rep K' w (.os n 0) (K'.sl n 0):=.os
      simpa [KS.sl,K'] using this
    · have:=RepF.kill (K':=K') (n:=n) h2 (fun b h=>h) (Keep.refl _ _) hsame
      exact this u

attribute [irreducible] SK SDe GuardS GuardD GCall GDCall CondB HD DK HK HQ Pure Purev PureC PurevC
end Go.Proofs.Ytikgiadbkjmabaa

/- Own arrays handed back under names that the caller chose. No program in sight. -/
namespace Go.Proofs.Ytikgiadbkjmabaa
open Go.RowKit
set_option linter.unusedSimpArgs false
set_option linter.unusedVariables false

def AV.ren (n m:Nat) (v:AV):AV:=v.mapN (fun k l=>if k = m then .any else if k = n then .os m l else .os k l) (fun k o=>if k = m then .any else if k = n then .any else .lp k o) (fun k a b c=>if k = m then .any else if k = n then .any else .ap k a b c)

theorem sto_notin {l:Loc} {r:Sto} {n:Nat} (h:n ∉ l.map (·.1)):sto l r n = r n:=by
  induction l with
  | nil=>rfl
  | cons p l ih =>
    obtain ⟨m,o⟩:=p
    simp only [List.map_cons,List.mem_cons,not_or] at h
    rw [sto_cons,if_neg h.1];exact ih h.2
theorem sto_append (l l':Loc) (r:Sto):sto (l ++ l') r = sto l (sto l' r):=by
  funext n
  induction l with
  | nil=>rfl
  | cons p l ih =>
    obtain ⟨m,o⟩:=p
    simp only [List.cons_append,sto_cons,ih]
theorem sto_in {l l':Loc} {r r':Sto} {n:Nat} (h1:∀ p ∈ l',sto l r p.1 = p.2) (h:n ∈ l'.map (·.1)):sto l' r' n = sto l r n:=by
  induction l' with
  | nil=>simp at h
  | cons p l' ih =>
    obtain ⟨m,o⟩:=p
    rw [sto_cons]
    split
    · rename_i e;subst e;exact (h1 (n,o) (by simp)).symm
    · rename_i e
      refine ih (fun q hq=>h1 q (List.mem_cons_of_mem _ hq)) ?_
      simp only [List.map_cons,List.mem_cons] at h
      exact h.resolve_left e
theorem keep_key {B:Nat} {r:Sto} {l l':Loc} (hr:ClosedS B r) (h1:∀ p ∈ l',sto l r p.1 = p.2) (h2:∀ p ∈ l,p.1 ∈ l'.map (·.1) ∨ B ≤ p.1) (n:Nat):sto l' r n = sto l r n ∨ sto l' r n = .dead:=by
  by_cases hn:n ∈ l'.map (·.1)
  · exact .inl (sto_in h1 hn)
  · rw [sto_notin hn]
    by_cases hm:n ∈ l.map (·.1)
    · right
      obtain ⟨p,hp,rfl⟩:=List.mem_map.1 hm
      exact (hr p.1).2 ((h2 p hp).resolve_left hn)
    · left;rw [sto_notin hm]
theorem sto_all {l:Loc} {r:Sto} {q:AO → Prop} (h1:∀ p ∈ l,q p.2) (h2:∀ n,q (r n)) (n:Nat):q (sto l r n):=by
  induction l with
  | nil=>exact h2 n
  | cons p l ih =>
    obtain ⟨m,o⟩:=p
    rw [sto_cons]
    split
    · exact h1 (m,o) (by simp)
    · exact ih fun q hq=>h1 q (List.mem_cons_of_mem _ hq)

theorem Wk.ren {B:Nat} {T0:List Nat} {r:Sto} {a:Fr} {l l1:Loc} {n m k:Nat} {E:TypeId} {rows:List (List RV)} (hr:ClosedS B r) (hn:B ≤ n) (hnm:n ≠ m) (hm:B ≤ m ∨ m ∈ T0) (hrm:∀ x,(r x).kill m = r x)
    (ho:sto l r n = .arr k E rows) (h1:∀ p ∈ l1,sto l r p.1 = p.2 ∧ p.1 ≠ n ∧ p.2.kill m = p.2) (h2:∀ p ∈ l,p.1 ∈ l1.map (·.1) ∨ B ≤ p.1) :
    Wk B T0 r a l (Fr.map (AV.ren n m) a) ((m,.arr k E rows) :: l1):=fun t w K hS hF=>by
  let K':KS:={ K with blk:=fun x=>if x = m then K.blk n else K.blk x,cap:=fun x=>if x = m then K.cap n else K.cap x,nl:=fun x=>if x = m then K.nl n else K.nl x,ad:=fun x=>if x = m then K.ad n else K.ad x }
  have hsame:∀ x,x ≠ m → K.same K' x:=fun x hx=>⟨if_neg hx,if_neg hx,if_neg hx,if_neg hx⟩
  have hS1:RepS K (sto l1 r) w:=hS.sub (keep_key hr (fun p hp=>(h1 p hp).1) h2)
  have hkill:∀ x,(sto l1 r x).kill m = sto l1 r x:=sto_all (q:=fun o=>o.kill m = o) (fun p hp=>(h1 p hp).2.2) hrm
  have hσ:∀ x,sto ((m,.arr k E rows) :: l1) r x = if x = m then .arr k E rows else (sto l1 r x).kill m:=fun x=>by rw [hkill,sto_cons]
  have hdead:sto l1 r n = .dead:=by
    rw [sto_notin (fun h=>by obtain ⟨p,hp,e⟩:=List.mem_map.1 h;exact (h1 p hp).2.1 e)]
    exact (hr n).2 hn
  have hO:RepO K w n (.arr k E rows):=by rw [← ho];exact hS.obj n
  have hbm:K'.blk m = K.blk n:=if_pos rfl
  have hcm:K'.cap m = K.cap n:=if_pos rfl
  have hnm':K'.nl m = K.nl n:=if_pos rfl
  have ham:K'.ad m = K.ad n:=if_pos rfl
  have hsl:∀ l,K'.sl m l = K.sl n l:=fun l=>by simp only [KS.sl,hbm,hcm,hnm',ham]
  have hlive:∀ x,x ≠ m → (sto l1 r x).live K x → (sto l r x).live K x:=fun x _ hl=>by
    rcases keep_key hr (fun p hp=>(h1 p hp).1) h2 x with e | e<;>rw [e] at hl
    · exact hl
    · exact hl.elim
  refine ⟨K',⟨fun x hx hT=>hsame x (fun e=>hm.elim (by omega) (fun h=>hT (e ▸ h))),fun b h=>h,Keep.refl _ _,fun b hb=>?_⟩,?_,?_⟩
  · rcases hb with hb | ⟨x,hl,rfl⟩
    · exact .inl hb
    · by_cases hx:x = m
      · subst hx
        rw [hσ,if_pos rfl] at hl
        refine .inr (.inr ⟨n,?_,hbm.symm⟩)
        rw [ho];simp only [AO.live] at hl ⊢;rw [← hnm'];exact hl
      · rw [hσ,if_neg hx,hkill,live_same (hsame x hx)] at hl
        exact .inr (.inr ⟨x,hlive x hx hl,(hsame x hx).1.symm⟩)
  · refine hS1.bind (fun b=>Iff.rfl) (Keep.refl _ _) hsame (fun _ _ _=>rfl) (o:=.arr k E rows) ?_ (fun x hx hl hl2=>?_) hσ
    · simp only [RepO] at hO ⊢
      rw [hbm,hcm,hnm']
      exact hO
    · rw [hbm]
      intro e
      have hln:(sto l r n).live K n:=by rw [ho];simp only [AO.live] at hl2 ⊢;rw [← hnm'];exact hl2
      have:=hS.inj n x hln (hlive x hx hl) e
      subst this
      rw [hdead] at hl
      exact hl
  · intro s
    rw [Fr.get_map _ (by rfl)]
    refine Rep.map (K:=K) (K':=K') (w:=w) (q:=fun _=>true) (fun _ h=>h) (Keep.refl _ _) (fun x l _=>?_) (fun x o _=>?_) (fun x k i j _=>?_) (hF s) (AV.allN_true _)
    · split
      · exact .any
      · rename_i hx
        split
        · rename_i e;subst e;rw [← hsl];exact .os
        · rw [(hsame x hx).sl];exact .os
    · split
      · exact .any
      · rename_i hx
        split
        · exact .any
        · rw [← (hsame x hx).1];exact .lp
    · split
      · exact .any
      · rename_i hx
        split
        · exact .any
        · rw [← (hsame x hx).1];exact .ap

def EndX (P:Program) (B:Nat) (T:List Nat) (r:Sto) (rs:List ResultVar) (R:AV → Sto → Prop) (a:Fr) (l:Loc):Prop:=∃ a' l',Wk B T r a l a' l' ∧ EndV P B r rs R a' l'
theorem HQ_wn (P:Program) (B:Nat) (T:List Nat) (r:Sto) (a:Fr) (l:Loc) (rs:List ResultVar) (R:AV → Sto → Prop):HQ (EndW P B T r rs R) .normal a l = EndX P B T r rs R a l:=by unfold HQ;rfl
theorem HQ_wr (P:Program) (B:Nat) (T:List Nat) (r:Sto) (a:Fr) (l:Loc) (rs:List ResultVar) (R:AV → Sto → Prop):HQ (EndW P B T r rs R) .ret a l = EndX P B T r rs R a l:=by unfold HQ;rfl
theorem EndX.plain {P:Program} {B:Nat} {T:List Nat} {r:Sto} {rs:List ResultVar} {R:AV → Sto → Prop} {a:Fr} {l:Loc} (h:EndV P B r rs R a l):EndX P B T r rs R a l:=⟨a,l,Wk.refl _ _ _ _ _,h⟩

theorem own_of {fl:Bool} {P:Program} {f:FuncId} {fn:Func} {args:List AV} {sc:SC} {rs:List ResultVar} {B:Nat} {σ:Sto} {T:List Nat} {R:AV → Sto → Prop} (hm:P.follows .mixedOrders = true) (hf:P.funcs[f]? = some fn) (hc:annB fl fn = some sc) (hr:fn.results.toList = rs) (hn:args.length ≤ fn.ntmps)
    (h:ClosedS B σ → (∀ c ∈ args,c.sz) → SW P B T σ sc (HQ (EndW P B T σ rs R)) (entry 0 args) []):ACalls P f args σ B T R:=fun xs w ⟨K,hP⟩ =>
  ACalls_atw (l0:=[]) hm hf hn (fun h=>h) (fun hcl=>by
    rw [hc,hr]
    unfold HQ at h
    refine h hcl fun c hmem=>?_
    obtain ⟨i,hi⟩:=List.mem_iff_getElem?.1 hmem
    have hlt:i < xs.length:=by rw [← hP.2.2.1];exact (List.getElem?_eq_some_iff.1 hi).1
    exact (hP.2.2.2 i c _ hi (List.getElem?_eq_getElem hlt)).sz) xs w ⟨K,hP⟩

theorem call_own {P:Program} {B:Nat} {T0:List Nat} {r:Sto} {a:Fr} {l:Loc} {d:Option Nat} {K:Fr → Loc → Prop} {f:FuncId} {args:List Operand} {vs:List AV} {v:AV} (T:List Nat) (L:Loc) (he:enters P f = true) (hC:ACalls P f vs (sto l r) (B + 100000) T (fun v' σ'=>v' = v ∧ σ' = sto L (sto l r))) (hv:(args.map fun x=>(opd a x).2) = vs) (hT:∀ n ∈ T,n < B → n ∈ T0) (hp:allP (args.map fun x=>(opd a x).1)) (hF:Fr.below (B + 100000) (killT T a)) (hL:Loc.below (B + 100000) l) (hk:K (putO d v (killT T a)) (L ++ l)):SEcall P B T0 r d K a l f args:=by
  unfold SEcall
  exact ⟨T,fun v' σ'=>v' = v ∧ σ' = sto L (sto l r),a,l,Wk.refl _ _ _ _ _,he,hT,by rw [hv];exact hC,hp,hF,hL,fun v' σ' ⟨h1,h2⟩=>⟨L ++ l,by rw [h2,sto_append],by rw [h1];exact hk⟩⟩

theorem ACalls.frozen {P:Program} {f:FuncId} {args:List AV} {σ:Sto} {B n:Nat} {T:List Nat} {V:AV} {l:Loc} (h:ClosedS B σ → ACalls P f args σ (B + n) T (fun v σ'=>v = V ∧ σ' = sto l σ)) (hT:∀ m ∈ T,B ≤ m) (hl:∀ p ∈ l,B ≤ p.1):ACalls P f args σ B [] (fun v σ'=>v = frz B (sto l σ) V ∧ σ' = σ):=fun xs w ⟨K0,hP0⟩=>by
  have hcl:ClosedS B σ:=hP0.2.1
  have hcl':ClosedS (B + n) σ:=fun m=>⟨AO.allN_mono (fun x (hx:decide (x < B) = true)=>by simp only [decide_eq_true_eq] at hx ⊢;omega) (hcl m).1,fun hm=>(hcl m).2 (by omega)⟩
  have up:∀ K,Pre args σ B xs w K → Pre args σ (B + n) xs w K:=fun K hP=>⟨hP.1,hcl',hP.2.2⟩
  refine (h hcl xs w ⟨K0,up K0 hP0⟩).mono fun e w' ⟨x,v,σ',he,⟨hv,hσ⟩,hall⟩=>⟨x,_,_,he,⟨rfl,rfl⟩,fun K hK=>?_⟩
  subst hv;subst hσ
  obtain ⟨K',h1,h2,h3⟩:=hall K (up K hK)
  obtain ⟨K2,g1,g2,g3⟩:=frz_ok (T0:=[]) (N:=0) (a:=[]) (act:={ tmps:=#[],defers:=[] }) hcl ⟨h2,fun s=>.any,rfl,rfl⟩ h3
  have hd:dropL B l σ = σ:=by
    unfold dropL
    have:l.filter (fun p=>decide (p.1 < B)) = []:=by
      rw [List.filter_eq_nil_iff]
      intro p hp
      have:=hl p hp
      simp;omega
    rw [this];rfl
  rw [hd] at g1 g2
  refine ⟨K2,Ext.trans ⟨fun x hx _=>h1.same x (by omega) (fun hxT=>by have:=hT x hxT;omega),h1.sub,h1.keep,h1.orig⟩ g1,g2,g3⟩

mutual
def AV.nz:AV → AV
  | .d r=>.d r.nrm
  | .agg cs=>.agg (AV.nzL cs)
  | .tup cs=>.tup (AV.nzL cs)
  | v=>v
def AV.nzL:List AV → List AV
  | []=>[]
  | c :: cs=>AV.nz c :: AV.nzL cs
end
theorem AV.nzL_eq (cs:List AV):AV.nzL cs = cs.map AV.nz:=by
  induction cs with
  | nil=>simp [AV.nzL]
  | cons c cs ih=>simp [AV.nzL,ih]
theorem RRep.nrm {I:Nat → Prop} {w:World} {r:RV} {x:Value} (h:RRep I w r x):RRep I w r.nrm x:=by
  unfold RV.nrm
  split
  · cases h;exact .nil
  · exact h
theorem Rep.nz {K:KS} {w:World} {v:AV} {x:Value} (h:Rep K w v x):Rep K w v.nz x:=by
  have sub:∀ (cs:List AV) (xs:List Value),(∀ (i:Nat) (c:AV) (x:Value),cs[i]? = some c → xs[i]? = some x → Rep K w c.nz x) →
      ∀ (i:Nat) (c:AV) (x:Value),(AV.nzL cs)[i]? = some c → xs[i]? = some x → Rep K w c x:=fun cs xs ih i c x hc hx=>by
    rw [AV.nzL_eq,List.getElem?_map] at hc
    cases hci:cs[i]? with
    | none=>simp [hci] at hc
    | some c0 =>
      simp only [hci,Option.map_some,Option.some.injEq] at hc
      subst hc
      exact ih i c0 x hci hx
  induction h with
  | d h=>simp only [AV.nz];exact .d h.nrm
  | agg h1 h2 h3 ih=>simp only [AV.nz];exact .agg (by simpa [AV.nzL_eq] using h1) (sub _ _ ih) h3
  | tup h1 h2 ih=>simp only [AV.nz];exact .tup (by simpa [AV.nzL_eq] using h1) (sub _ _ ih)
  | any=>simp only [AV.nz];exact .any
  | emp=>simp only [AV.nz];exact .emp
  | os=>simp only [AV.nz];exact .os
  | lp=>simp only [AV.nz];exact .lp
  | mp=>simp only [AV.nz];exact .mp
  | sb h=>simp only [AV.nz];exact .sb h
  | ap=>simp only [AV.nz];exact .ap
  | gd h1 h2 ih=>simp only [AV.nz];exact .gd h1 h2
  | rp h1 h2 h3=>simp only [AV.nz];exact .rp h1 h2 h3
  | clo h1 h2 h3 h4 ih1 ih2=>simp only [AV.nz];exact .clo h1 h2 h3 h4
theorem Wk.nz (B:Nat) (T0:List Nat) (r:Sto) (a:Fr) (l:Loc):Wk B T0 r a l (Fr.map AV.nz a) l:=fun t w K h1 h2 =>
  ⟨K,Ext.refl _ _ _ _ _,h1,fun s=>by rw [Fr.get_map _ (by rfl)];exact (h2 s).nz⟩
def EndZ (P:Program) (B:Nat) (r:Sto) (rs:List ResultVar) (R:AV → Sto → Prop):Ex → Fr → Loc → Prop
  | .exit _,_,_=>False
  | _,a,l=>EndV P B r rs R (Fr.map AV.nz a) l
theorem HQ_zn (P:Program) (B:Nat) (r:Sto) (a:Fr) (l:Loc) (rs:List ResultVar) (R:AV → Sto → Prop):HQ (EndZ P B r rs R) .normal a l = EndV P B r rs R (Fr.map AV.nz a) l:=by unfold HQ;rfl
theorem HQ_zr (P:Program) (B:Nat) (r:Sto) (a:Fr) (l:Loc) (rs:List ResultVar) (R:AV → Sto → Prop):HQ (EndZ P B r rs R) .ret a l = EndV P B r rs R (Fr.map AV.nz a) l:=by unfold HQ;rfl
theorem EndX.nz {P:Program} {B:Nat} {T:List Nat} {r:Sto} {rs:List ResultVar} {R:AV → Sto → Prop} {a:Fr} {l:Loc} (h:EndV P B r rs R (Fr.map AV.nz a) l):EndX P B T r rs R a l:=⟨_,l,Wk.nz _ _ _ _ _,h⟩
theorem pureZ_of {fl:Bool} {P:Program} {f:FuncId} {fn:Func} {args:List AV} {v:AV} {sc:SC} {rs:List ResultVar} (hm:P.follows .mixedOrders = true) (hf:P.funcs[f]? = some fn) (hc:annB fl fn = some sc) (hr:fn.results.toList = rs) (hn:args.length ≤ fn.ntmps)
    (h:∀ B σ,ClosedS B σ → (∀ c ∈ args,c.sz) → SW P B [] σ sc (HQ (EndZ P B σ rs fun v' σ'=>v' = v ∧ σ' = σ)) (entry 0 args) []):Pure P f args v:=by
  unfold Pure
  intro B σ
  refine own_of hm hf hc hr hn fun hcl hsz=>?_
  unfold HQ
  refine SW_mono sc (fun e a l h=>?_) (h B σ hcl hsz)
  unfold HQ at h
  cases e
  · exact ⟨_,_,Wk.nz _ _ _ _ _,h⟩
  · exact ⟨_,_,Wk.nz _ _ _ _ _,h⟩
  · exact h
theorem ACalls.noT {P:Program} {f:FuncId} {args:List AV} {σ:Sto} {B:Nat} {T:List Nat} {R:AV → Sto → Prop} (h:ACalls P f args σ B T R) (hT:∀ m ∈ T,B ≤ m):ACalls P f args σ B [] R:=fun xs w hK =>
  (h xs w hK).mono fun e w' ⟨x,v,σ',he,hR,hall⟩=>⟨x,v,σ',he,hR,fun K hP =>
    let ⟨K',hE,h1,h2⟩:=hall K hP
    ⟨K',⟨fun n hn _=>hE.same n hn (fun hm=>absurd (hT n hm) (by omega)),hE.sub,hE.keep,hE.orig⟩,h1,h2⟩⟩
theorem pureH_of {fl:Bool} {P:Program} {f:FuncId} {fn:Func} {args:List AV} {v:AV} {sc:SC} {rs:List ResultVar} (hm:P.follows .mixedOrders = true) (hf:P.funcs[f]? = some fn) (hc:annB fl fn = some sc) (hr:fn.results.toList = rs) (hn:args.length ≤ fn.ntmps)
    (h:∀ B σ,ClosedS B σ → (∀ c ∈ args,c.sz) → SW P B [B + 95001,B + 95002,B + 95003,B + 95004,B + 95005,B + 95006,B + 95007,B + 95008,B + 95009] σ sc (HQ (EndW P B [B + 95001,B + 95002,B + 95003,B + 95004,B + 95005,B + 95006,B + 95007,B + 95008,B + 95009] σ rs fun v' σ'=>v' = v ∧ σ' = σ)) (entry 0 args) []):Pure P f args v:=by
  unfold Pure
  intro B σ
  exact ACalls.noT (T:=[B + 95001,B + 95002,B + 95003,B + 95004,B + 95005,B + 95006,B + 95007,B + 95008,B + 95009]) (own_of hm hf hc hr hn fun hcl hsz=>h B σ hcl hsz) (by simp)
theorem EndX.step {P:Program} {B:Nat} {T:List Nat} {r:Sto} {rs:List ResultVar} {R:AV → Sto → Prop} {a a':Fr} {l l':Loc} (h:Wk B T r a l a' l') (h2:EndX P B T r rs R a' l'):EndX P B T r rs R a l:=by
  unfold EndX at h2 ⊢
  obtain ⟨a2,l2,g1,g2⟩:=h2
  exact ⟨a2,l2,h.trans g1,g2⟩
theorem nil_split {N:Bool → Prop} {K:Bool → Prop} (h1:N true → K true) (h2:N false → K false):∀ b,N b → K b:=fun b=>match b with | true=>h1 | false=>h2
attribute [irreducible] EndX
theorem swc {c c':SC} (h:c = c') (P:Program) (B:Nat) (T0:List Nat) (r:Sto) (Q:Ex → Fr → Loc → Prop) (a:Fr) (l:Loc):SW P B T0 r c Q a l = SW P B T0 r c' Q a l:=by rw [h]
theorem swl {o o':List SO} (h:o = o') (P:Program) (B:Nat) (T0:List Nat) (r:Sto) (K:Fr → Loc → Prop) (a:Fr) (l:Loc):SWL P B T0 r o K a l = SWL P B T0 r o' K a l:=by rw [h]
theorem swd {o o':List SO} (h:o = o') (P:Program) (B:Nat) (C:List Nat) (σ0:Sto) (l0:Loc) (K:Fr → Loc → Prop) (a:Fr) (l:Loc):SWD P B C σ0 l0 o K a l = SWD P B C σ0 l0 o' K a l:=by rw [h]
attribute [mvcgen_simp] AV.fz1 AV.kill AV.lit AV.mapN AV.mapNL AV.nz AV.nzL AV.pick AV.rv Bool.false_eq_true Bool.false_or Bool.not_false Bool.not_true Bool.or_false Bool.or_true Bool.true_eq_false Bool.true_or CondB_false CondB_true DK_false DK_true EndV Fr.get Fr.map Fr.norm GuardD_false GuardD_true GuardS_false GuardS_true HD_app HK_app HO_app HQ_bn HQ_br HQ_bx HQ_en HQ_er HQ_ex HQ_n HQ_r HQ_wn HQ_wr HQ_x HQ_zn HQ_zr Int.cast_ofNat_Int Int.toNat_natCast List.append_assoc List.append_nil List.cons_append List.drop_succ_cons List.drop_zero List.filter_cons List.filter_nil List.foldl_cons List.foldl_nil List.getD_cons_succ List.getD_cons_zero List.length_append List.length_cons List.length_map List.length_nil List.map_append List.map_cons List.map_nil List.nil_append List.take_succ_cons List.take_zero Loc.kill Loc.set Nat.add_left_cancel_iff Nat.add_zero Nat.le_refl Nat.mul_one Nat.zero_add Nat.zero_lt_succ Option.bind_none Option.bind_some Option.map_none Option.map_some RV.nrm SDe_alloc SDe_app SDe_box SDe_bslice SE SEalloc SEapA SEapB SEbin SEbl SEbox SEbs0 SEclr SEconv SEfz SEmkmap SEmset SEnil SEstore SK_n SK_r SK_x SO1 addN aev afill allP and_false and_self and_true appName binV bsliceA bsliceV buildV cellsAV chunk cond_false cond_true contC contN decide_false decide_true dropL dstV entry false_and false_imp_iff fieldV frz fzName getM if_false if_true imp_self implies_true indexV killD killO killT kvOf le_self_add lenV loadV lt_self_add mgetV mkNames ne_eq newF newL nilIn nilIn.nilC nilK nilV not_false_eq_true not_true_eq_false onInt opd osOf putO repl resL resV retV rvs setM srcV sto true_and true_imp_iff tupV unV w_app w_block w_bs w_bsH w_cond w_cons w_consg w_dcons w_dconsg w_dnil w_dreg w_exit w_keep w_mk w_ncons w_nil w_nnil w_obr w_odone w_ofst w_onil w_oreg w_reg w_ret w_sdv w_seq w_skip with1 with2
end Go.Proofs.Ytikgiadbkjmabaa
