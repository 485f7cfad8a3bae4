/- The engine,piece EngB. -/
import Derived.Test.YtikgiadbkjmabaaEngA

/- Code without its places in the text,and what it makes of slots and names: a predicate transformer that is reckoned out. No program in sight. -/
namespace Go.Proofs.Ytikgiadbkjmabaa
open Go.RowKit
set_option linter.unusedSimpArgs false
set_option linter.unusedVariables false

structure SO where
  dst:Option Nat
  op:SOp
  guard:Option (Nat × Bool)

inductive OT where
  | done
  | nil
  | fst (o:SO) (t:OT)
  | br (o:SO) (t rest:OT)

inductive SC where
  | skip
  | ret
  | exit (id:Nat)
  | reg (ops:List SO)
  | dreg (fr:Bool) (ops tail:List SO)
  | oreg (t:OT)
  | seq (a b:SC)
  | cond (x:Operand) (a b:SC)
  | block (id:Nat) (a:SC)
  | loop (a:SC)
  | keep (slots:List Nat) (a:SC)

abbrev Loc:=List (Nat × AO)

def sto (l:Loc) (r:Sto):Sto:=fun n=>match l with
  | []=>r n
  | (m,o) :: l=>if n = m then o else sto l r n

def Loc.kill (n:Nat) (l:Loc):Loc:=(l.filter fun p=>p.1 ≠ n).map fun p=>(p.1,p.2.kill n)
def Loc.set (n:Nat) (o:AO):Loc → Loc
  | []=>[(n,o)]
  | (m,p) :: l=>if m = n then (m,o) :: l else (m,p) :: Loc.set n o l

def ClosedS (B:Nat) (σ:Sto):Prop:=∀ n,(σ n).allN (fun m=>decide (m < B)) = true ∧ (B ≤ n → σ n = .dead)
def Fr.below (B:Nat) (a:Fr):Prop:=a.allN (fun m=>decide (m < B)) = true
def Loc.below (B:Nat) (l:Loc):Prop:=l.all (fun p=>decide (p.1 < B) && p.2.allN fun m=>decide (m < B)) = true

structure Ext (B:Nat) (T:List Nat) (K:KS) (σ:Sto) (w:World) (K':KS) (σ':Sto) (w':World):Prop where
  same:∀ n,n < B → n ∉ T → K.same K' n
  sub:∀ b,K.I b → K'.I b
  keep:Keep K.I w w'
  orig:∀ b,(K'.I b ∨ ∃ n,(σ' n).live K' n ∧ K'.blk n = b) → (K.I b ∨ w.heap.size ≤ b ∨ ∃ n,(σ n).live K n ∧ K.blk n = b)

def Pre (args:List AV) (σ:Sto) (B:Nat) (xs:List Value) (w:World) (K:KS):Prop :=
  RepS K σ w ∧ ClosedS B σ ∧ args.length = xs.length ∧ ∀ (i:Nat) (c:AV) (x:Value),args[i]? = some c → xs[i]? = some x → Rep K w c x

def ACalls (P:Program) (f:FuncId) (args:List AV) (σ:Sto) (B:Nat) (T:List Nat) (R:AV → Sto → Prop):Prop :=
  ∀ (xs:List Value) (w:World),(∃ K,Pre args σ B xs w K) →
    Calls P f xs.toArray w fun e w'=>∃ x v σ',e = .returned x ∧ R v σ' ∧ ∀ K,Pre args σ B xs w K → ∃ K',Ext B T K σ w K' σ' w' ∧ RepS K' σ' w' ∧ Rep K' w' v x

def enters (P:Program) (f:FuncId):Bool:=match P.funcs[f]? with
  | some fn=>fn.body.isSome && !(fn.name == "runtime.NumGoroutine")
  | none=>false

def ACallv (P:Program) (fv:AV) (args:List AV) (σ:Sto) (B:Nat) (T:List Nat) (R:AV → Sto → Prop):Prop :=
  match fv with
  | .clo (.func f) first cap=>enters P f = true ∧ ACalls P f (first ++ args ++ cap) σ B T R
  | _=>False

inductive Ex where
  | normal
  | ret
  | exit (id:Nat)
  deriving DecidableEq

def thenK (k:Fr → Loc → Prop) (Q:Ex → Fr → Loc → Prop):Ex → Fr → Loc → Prop
  | .normal,a,l=>k a l
  | .ret,a,l=>Q .ret a l
  | .exit id,a,l=>Q (.exit id) a l
def blkK (id:Nat) (Q:Ex → Fr → Loc → Prop):Ex → Fr → Loc → Prop
  | .normal,a,l=>Q .normal a l
  | .ret,a,l=>Q .ret a l
  | .exit m,a,l=>if m = id then Q .normal a l else Q (.exit m) a l

def Fr.norm (s:List Nat) (a:Fr):Fr:=s.map fun t=>(t,a.get t)

def putO (d:Option Nat) (v:AV) (a:Fr):Fr:=match d with
  | some s=>(s,v) :: a
  | none=>a

def RV.nrm:RV → RV
  | .v (.slice none 0 0)=>.ro []
  | r=>r
def AV.rv:AV → Option RV
  | .d r=>some r.nrm
  | _=>none
def rvs:List AV → Option (List RV)
  | []=>some []
  | c :: cs=>match c.rv,rvs cs with
    | some r,some rs=>some (r :: rs)
    | _,_=>none

def repl {α:Type}:Nat → List α → List α
  | 0,_=>[]
  | n + 1,z=>z ++ repl n z
def chunk {α:Type} (k:Nat):Nat → List α → List (List α)
  | 0,_=>[]
  | n + 1,l=>l.take k :: chunk k n (l.drop k)

def bsliceV (P:Program) (t:TypeId) (n:Nat) (parts:List (Nat × AV)):Option (List (List RV)) :=
  match (tel P t),(tel P t).bind (tsz P),(tel P t).bind (tzero P) with
  | some _,some k,some z=>if z.length = k ∧ 0 < k ∧ n * k ≤ 2 ^ 24 then (afill (fun i=>some (i * k,k)) (repl n (z.map fun x=>.d (.v x))) parts).bind fun cs=>(rvs cs).map (chunk k n) else none
  | _,_,_=>none

def bsliceA (P:Program) (t:TypeId) (n:Nat) (parts:List (Nat × AV)):Option (List AV) :=
  match (tel P t),(tel P t).bind (tsz P),(tel P t).bind (tzero P) with
  | some _,some k,some z=>if z.length = k ∧ 0 < k ∧ n * k ≤ 2 ^ 24 then afill (fun i=>some (i * k,k)) (repl n (z.map fun x=>.d (.v x))) parts else none
  | _,_,_=>none

def tby (P:Program) (t:TypeId):Option Nat:=(P.info? t).map (·.bytes)

def srcV (P:Program) (σ:Sto) (u:TypeId) (z:List RV):AV → Option (Prop × List (List RV))
  | .d (.ro rows)=>(tel P u).map fun _=>(True,rows)
  | .emp=>(tel P u).map fun _=>(True,[])
  | .os n len=>match tel P u,σ n with | some _,.arr _ _ rows=>some (len ≤ rows.length,rows.take len) | _,_=>none
  | .d (.v x)=>match x with
    | .slice none 0 0=>(tel P u).map fun _=>(True,[])
    | .string s=>if tstr P u = true then some (True,s.data.toList.map fun b=>[.v (.int .u8 b.toNat)]) else none
    | .int .i64 n=>match tint P u with | some .i64=>some (0 ≤ n ∧ n ≤ 2 ^ 47,List.replicate n.toNat z) | _=>none
    | _=>none
  | _=>none
def dstV (σ:Sto) (k:Nat) (E:TypeId):AV → Option (Prop × List (List RV))
  | .d (.v (.slice none 0 0))=>some (True,[])
  | .emp=>some (True,[])
  | .os n len=>match σ n with | .arr k' E' rows=>some (k' = k ∧ E' = E ∧ len ≤ rows.length,rows.take len) | _=>none
  | _=>none

def appName (n:Nat):AV → Nat
  | .os m _=>m
  | _=>n

def newF (n:Nat) (a:Fr):Fr:=Fr.map (AV.kill n) a
def newL (n:Nat) (o:AO) (l:Loc):Loc:=(n,o) :: Loc.kill n l
def killT (T:List Nat) (a:Fr):Fr:=T.foldl (fun a n=>newF n a) a
def killO (T:List Nat) (l:Loc):Loc:=T.foldl (fun l n=>l.map fun p=>(p.1,p.2.kill n)) l

def osOf:List AV → Option Nat
  | []=>none
  | .os m _ :: _=>some m
  | _ :: cs=>osOf cs
def fzName:List AV → Option Nat
  | [.agg cs]=>osOf cs
  | _=>none
def AV.fz1 (n:Nat) (rows:List (List RV)) (v:AV):AV:=v.mapN (fun m len=>if m = n then (if len ≤ rows.length then .d (.ro (rows.take len)) else .any) else .os m len) (fun m o=>if m = n then .any else .lp m o) (fun m k i j=>if m = n then .any else .ap m k i j)

section
variable (P:Program) (B:Nat) (T0:List Nat) (r:Sto)

def SEalloc (d:Option Nat) (K:Fr → Loc → Prop) (a:Fr) (l:Loc) (t:TypeId):Prop :=
  match d,tzero P t with
    | some s,some z=>K ((s,.lp (B + s) 0) :: newF (B + s) a) (newL (B + s) (.box (z.map fun x=>.d (.v x))) l)
    | _,_=>False
def SEbox (d:Option Nat) (K:Fr → Loc → Prop) (a:Fr) (l:Loc) (t:TypeId) (x:Operand):Prop :=
  match d,cellsAV (opd a x).2 with
    | some s,some cs=>(opd a x).1 ∧ K ((s,.lp (B + s) 0) :: newF (B + s) a) (newL (B + s) (.box (cs.map (AV.kill (B + s)))) l)
    | _,_=>False
def SEstore (d:Option Nat) (K:Fr → Loc → Prop) (a:Fr) (l:Loc) (t:TypeId) (p x:Operand):Prop :=
  match opd a p,cellsAV (opd a x).2,tsz P t with
    | (q,.lp n off),some vs,some z=>match sto l r n with
      | .box cs=>q ∧ (opd a x).1 ∧ vs.length = z ∧ off + z ≤ cs.length ∧ K a (Loc.set n (.box (cs.take off ++ vs ++ cs.drop (off + z))) l)
      | _=>False
    | (q,.ap n k i j),some vs,some z=>match sto l r n,rvs vs with
      | .arr k' E rows,some rs=>q ∧ (opd a x).1 ∧ k' = k ∧ rs.length = z ∧ j + z ≤ k ∧ i < rows.length ∧ K a (Loc.set n (.arr k E (rows.set i ((rowOf rows i).take j ++ rs ++ (rowOf rows i).drop (j + z)))) l)
      | .arr k' E rows,none=>q ∧ (opd a x).1 ∧ k' = k ∧ vs.length = z ∧ j + z ≤ k ∧ i < rows.length ∧ K a (Loc.set n (.arh k E (rows.take i) (((rowOf rows i).map AV.d).take j ++ vs ++ ((rowOf rows i).map AV.d).drop (j + z)) (rows.drop (i + 1))) l)
      | .arh k' E p h t,_=>q ∧ (opd a x).1 ∧ k' = k ∧ vs.length = z ∧ j + z ≤ k ∧ i = p.length ∧ K a (Loc.set n (.arh k E p (h.take j ++ vs ++ h.drop (j + z)) t) l)
      | _,_=>False
    | _,_,_=>False
def SEbs0 (d:Option Nat) (K:Fr → Loc → Prop) (a:Fr) (l:Loc) (t:TypeId) (n:Nat) (parts:List (Nat × Operand)):Prop :=
  match bsliceV P t n (parts.map fun p=>(p.1,(opd a p.2).2)) with
    | some rows=>allP (parts.map fun p=>(opd a p.2).1) ∧ K (putO d (bif n == 0 then .emp else .d (.ro rows)) a) l
    | none=>False
def SEbsH (d:Option Nat) (K:Fr → Loc → Prop) (a:Fr) (l:Loc) (t:TypeId) (n:Nat) (parts:List (Nat × Operand)):Prop :=
  match d,(tel P t),(tel P t).bind (tsz P),bsliceA P t n (parts.map fun p=>(p.1,(opd a p.2).2)) with
    | some dd,some E,some kk,some cs=>n = 1 ∧ allP (parts.map fun p=>(opd a p.2).1) ∧ K ((dd,.os (B + dd) 1) :: newF (B + dd) a) (newL (B + dd) (.arh kk E [] (cs.map (AV.kill (B + dd))) []) l)
    | _,_,_,_=>False
def nilIn:List AV → Bool
  | []=>false
  | .d (.v (.slice none 0 0)) :: _=>true
  | .agg cs :: l=>nilC cs || nilIn l
  | _ :: l=>nilIn l
where nilC:List AV → Bool
  | []=>false
  | .d (.v (.slice none 0 0)) :: _=>true
  | _ :: l=>nilC l
def litH (T0:List Nat) (n:Nat) (vs:List AV):Bool:=bif decide (9 ≤ T0.length) then (bif n == 1 then nilIn vs else false) else false
def ownLit (T0:List Nat) (n:Nat):Bool:=decide (24 ≤ n) || decide (7 ≤ T0.length)
def SEbs (d:Option Nat) (K:Fr → Loc → Prop) (a:Fr) (l:Loc) (t:TypeId) (n:Nat) (parts:List (Nat × Operand)):Prop :=
  bif litH T0 n (parts.map fun p=>(opd a p.2).2) then SEbsH P B d K a l t n parts else bif ownLit T0 n then match d,(tel P t),(tel P t).bind (tsz P),bsliceV P t n (parts.map fun p=>(p.1,(opd a p.2).2)) with
    | some dd,some E,some kk,some rows=>allP (parts.map fun p=>(opd a p.2).1) ∧ K ((dd,.os (B + dd) n) :: newF (B + dd) a) (newL (B + dd) (.arr kk E rows) l)
    | _,_,_,_=>False
  else match bsliceV P t n (parts.map fun p=>(p.1,(opd a p.2).2)) with
    | some rows=>allP (parts.map fun p=>(opd a p.2).1) ∧ K (putO d (bif n == 0 then .emp else .d (.ro rows)) a) l
    | none=>match fzName (parts.map fun p=>(opd a p.2).2) with
      | some m=>match sto l r m with
        | .arr _ _ rows=>if B ≤ m then SEbs0 P d K (Fr.map (AV.fz1 m rows) a) (Loc.kill m l) t n parts else SEbsH P B d K a l t n parts
        | _=>False
      | none=>False
def SEapA (dd:Nat) (E:TypeId) (k by_:Nat) (z:List Value) (q':Prop) (rows:List (List RV)) (K:Fr → Loc → Prop) (a:Fr) (l:Loc) (u:TypeId) (s x:Operand):Prop:=match (opd a x).2,tel P u with
    | .os m 1,some _=>match sto l r m with
      | .arh k' _ [] h []=>(opd a x).1 ∧ (opd a s).1 ∧ q' ∧ k' = k ∧ z.length = k ∧ 0 < k ∧ (rows.length + 1) * by_ ≤ 2 ^ 47 ∧ rows.length + 1 ≤ 2 ^ 47 ∧
          (B ≤ appName (B + dd) (opd a s).2 ∨ (appName (B + dd) (opd a s).2 ∈ T0 ∧ ∀ m,(r m).kill (appName (B + dd) (opd a s).2) = r m)) ∧
          K ((dd,.os (appName (B + dd) (opd a s).2) (rows.length + 1)) :: newF (appName (B + dd) (opd a s).2) a) (newL (appName (B + dd) (opd a s).2) (.arh k E rows (h.map (AV.kill (appName (B + dd) (opd a s).2))) []) l)
      | _=>False
    | _,_=>False
def SEapB (dd:Nat) (E:TypeId) (k by_:Nat) (z:List Value) (q:Prop) (news:List (List RV)) (K:Fr → Loc → Prop) (a:Fr) (l:Loc) (s x:Operand):Prop:=match (opd a s).2 with
    | .os n len=>match sto l r n with
      | .arh k' E' p h t=>(opd a x).1 ∧ (opd a s).1 ∧ q ∧ k' = k ∧ E' = E ∧ len = p.length + 1 + t.length ∧ z.length = k ∧ 0 < k ∧ (∀ row ∈ news,row.length = k) ∧ (len + news.length) * by_ ≤ 2 ^ 47 ∧ len + news.length ≤ 2 ^ 47 ∧
          (B ≤ n ∨ (n ∈ T0 ∧ ∀ m,(r m).kill n = r m)) ∧ K ((dd,.os n (len + news.length)) :: newF n a) (newL n (.arh k E p (h.map (AV.kill n)) (t ++ news)) l)
      | _=>False
    | _=>False
def SEapp (d:Option Nat) (K:Fr → Loc → Prop) (a:Fr) (l:Loc) (t u:TypeId) (s x:Operand):Prop :=
  match d,(tel P t),(tel P t).bind (tsz P),(tel P t).bind (tby P),(tel P t).bind (tzero P) with
    | some dd,some E,some k,some by_,some z=>match srcV P (sto l r) u (z.map fun x=>(RV.v x).nrm) (opd a x).2,dstV (sto l r) k E (opd a s).2 with
      | some (q,news),some (q',rows)=>(opd a x).1 ∧ (opd a s).1 ∧ q ∧ q' ∧ z.length = k ∧ 0 < k ∧ (∀ row ∈ news,row.length = k) ∧ (rows.length + news.length) * by_ ≤ 2 ^ 47 ∧ rows.length + news.length ≤ 2 ^ 47 ∧
          (B ≤ appName (B + dd) (opd a s).2 ∨ (appName (B + dd) (opd a s).2 ∈ T0 ∧ ∀ m,(r m).kill (appName (B + dd) (opd a s).2) = r m)) ∧
          K ((dd,.os (appName (B + dd) (opd a s).2) (rows.length + news.length)) :: newF (appName (B + dd) (opd a s).2) a) (newL (appName (B + dd) (opd a s).2) (.arr k E (rows ++ news)) l)
      | some (q,news),none=>SEapB B T0 r dd E k by_ z q news K a l s x
      | none,some (q',rows)=>SEapA P B T0 r dd E k by_ z q' rows K a l u s x
      | none,none=>False
    | _,_,_,_,_=>False
def SEmk (d:Option Nat) (K:Fr → Loc → Prop) (a:Fr) (l:Loc) (t:TypeId) (ln c:Operand):Prop :=
  match d,(tel P t),(tel P t).bind (tsz P),(tel P t).bind (tby P),(tel P t).bind (tzero P),opd a ln,opd a c with
    | some dd,some E,some k,some by_,some z,(q1,.d (.v (.int _ n))),(q2,.d (.v (.int _ m))) =>
        q1 ∧ q2 ∧ n = m ∧ 0 ≤ n ∧ z.length = k ∧ 0 < k ∧ n * by_ ≤ 2 ^ 47 ∧ n ≤ 2 ^ 47 ∧
          K ((dd,.os (B + dd) n.toNat) :: newF (B + dd) a) (newL (B + dd) (.arr k E (List.replicate n.toNat (z.map fun x=>(RV.v x).nrm))) l)
    | _,_,_,_,_,_,_=>False
def Wk (a:Fr) (l:Loc) (a':Fr) (l':Loc):Prop:=∀ (t:Array Value) (w:World) (K:KS),RepS K (sto l r) w → RepF K w a t → ∃ K',Ext B T0 K (sto l r) w K' (sto l' r) w ∧ RepS K' (sto l' r) w ∧ RepF K' w a' t
def SEcall (d:Option Nat) (K:Fr → Loc → Prop) (a:Fr) (l:Loc) (f:FuncId) (args:List Operand):Prop :=
  ∃ T R a1 l1,Wk B T0 r a l a1 l1 ∧ enters P f = true ∧ (∀ n ∈ T,n < B → n ∈ T0) ∧ ACalls P f (args.map fun x=>(opd a1 x).2) (sto l1 r) (B + 100000) T R ∧ allP (args.map fun x=>(opd a1 x).1) ∧ Fr.below (B + 100000) (killT T a1) ∧ Loc.below (B + 100000) l1 ∧
      ∀ v σ',R v σ' → ∃ l',σ' = sto l' r ∧ K (putO d v (killT T a1)) l'
def SEcallv (d:Option Nat) (K:Fr → Loc → Prop) (a:Fr) (l:Loc) (x:Operand) (args:List Operand):Prop :=
  ∃ T R a1 l1,Wk B T0 r a l a1 l1 ∧ (∀ n ∈ T,n < B → n ∈ T0) ∧ ACallv P (opd a1 x).2 (args.map fun x=>(opd a1 x).2) (sto l1 r) (B + 100000) T R ∧ (opd a1 x).1 ∧ allP (args.map fun x=>(opd a1 x).1) ∧ Fr.below (B + 100000) (killT T a1) ∧ Loc.below (B + 100000) l1 ∧
      ∀ v σ',R v σ' → ∃ l',σ' = sto l' r ∧ K (putO d v (killT T a1)) l'

def SEcap (d:Option Nat) (K:Fr → Loc → Prop) (a:Fr) (l:Loc) (t:TypeId) (x:Operand):Prop :=
  match opd a x,tel P t with
    | (q,.os n len),some _=>match sto l r n with
      | .arr _ _ rows=>q ∧ len ≤ rows.length ∧ ∀ c:Nat,len ≤ c → K (putO d (.d (.v (.int .i64 c))) a) l
      | _=>False
    | (q,.d (.v (.slice none 0 0))),some _=>q ∧ K (putO d (.d (.v (.int .i64 0))) a) l
    | (q,.emp),some _=>q ∧ K (putO d (.d (.v (.int .i64 0))) a) l
    | (q,.d (.ro rows)),some _=>q ∧ ∀ c:Nat,rows.length ≤ c → K (putO d (.d (.v (.int .i64 c))) a) l
    | _,_=>False

def nilK (σ:Sto):AV → Option (Bool → Prop)
  | .d (.ro rows)=>some fun b=>b = true → rows = []
  | .d (.v (.slice none 0 0))=>some fun b=>b = true
  | .emp=>some fun _=>True
  | .os n len=>match σ n with
    | .arr _ _ rows=>some fun b=>b = true → rows = []
    | _=>none
  | _=>none
def SEnil (ng:Bool) (d:Option Nat) (K:Fr → Loc → Prop) (a:Fr) (l:Loc) (t:TypeId) (x y:Operand):Prop :=
  match tel P t,nilK (sto l r) (opd a x).2,opd a y with
    | some _,some N,(q,.d (.v (.slice none 0 0)))=>(opd a x).1 ∧ q ∧ ∀ b:Bool,N b → K (putO d (.d (.v (.bool (bif ng then !b else b)))) a) l
    | _,_,_=>False
def SEbin (op:BinOp) (d:Option Nat) (K:Fr → Loc → Prop) (a:Fr) (l:Loc) (t:TypeId) (x y:Operand):Prop:=match op with
  | .eql=>SEnil P r false d K a l t x y
  | .neq=>SEnil P r true d K a l t x y
  | _=>False

def SEmkmap (d:Option Nat) (K:Fr → Loc → Prop) (a:Fr) (l:Loc) (t:TypeId):Prop :=
  match d,tmapk P t with
    | some s,some b=>K ((s,.mp (B + s)) :: newF (B + s) a) (newL (B + s) (.mp b []) l)
    | _,_=>False
def SEmset (d:Option Nat) (K:Fr → Loc → Prop) (a:Fr) (l:Loc) (t:TypeId) (x y v:Operand):Prop :=
  match d,opd a x,kvOf (opd a y).2,opd a v with
    | none,(q,.mp n),some key,(q',.d (.v (.bool b)))=>match sto l r n with
      | .mp s es=>q ∧ (opd a y).1 ∧ q' ∧ MapT P t s ∧ key.ok s ∧ K a (Loc.set n (.mp s (setM es key b)) l)
      | _=>False
    | _,_,_,_=>False

def SEclr (d:Option Nat) (K:Fr → Loc → Prop) (a:Fr) (l:Loc) (t:TypeId) (x:Operand):Prop :=
  match d,opd a x,tel P t with
    | none,(q,.sb n k i len),some E=>match sto l r n,tsz P E,tzero P E with
      | .arr k' E' rows,some kk,some z=>q ∧ k' = k ∧ kk = k ∧ 0 < len ∧ i + len ≤ rows.length ∧ z.length = k ∧ K a (Loc.set n (.arr k E' (rows.take i ++ List.replicate len (z.map fun x=>(RV.v x).nrm) ++ rows.drop (i + len))) l)
      | _,_,_=>False
    | _,_,_=>False
def SEconv (d:Option Nat) (K:Fr → Loc → Prop) (a:Fr) (l:Loc) (s t:TypeId) (x:Operand):Prop:=match opd a x with
  | (q,.d (.v (.string u)))=>match (tel P t).bind (tint P),tstr P s with
    | some .u8,true=>q ∧ u.size ≤ 2 ^ 47 ∧ K (putO d (.d (.ro (u.data.toList.map fun b=>[.v (.int .u8 b.toNat)]))) a) l
    | _,_=>False
  | _=>False
def SE (d:Option Nat) (K:Fr → Loc → Prop) (a:Fr) (l:Loc):SOp → Prop
  | .alloc t=>SEalloc P B d K a l t
  | .box t x=>SEbox B d K a l t x
  | .store t p x=>SEstore P r d K a l t p x
  | .bslice t n parts=>SEbs P B T0 r d K a l t n parts
  | .app t u s x=>SEapp P B T0 r d K a l t u s x
  | .mkslice t ln c=>SEmk P B d K a l t ln c
  | .call f args=>SEcall P B T0 r d K a l f args
  | .callv x args=>SEcallv P B T0 r d K a l x args
  | .cap t x=>SEcap P r d K a l t x
  | .bin op t x y=>SEbin P r op d K a l t x y
  | .mkmap t=>SEmkmap P B d K a l t
  | .mset t x y v=>SEmset P r d K a l t x y v
  | .conv s t x=>SEconv P d K a l s t x
  | .clr t x=>SEclr P r d K a l t x
  | _=>False

def SO1 (o:SO) (K:Fr → Loc → Prop) (a:Fr) (l:Loc):Prop:=match aev P (sto l r) a o.op with
  | some (q,v)=>q ∧ K (putO o.dst v a) l
  | none=>SE P B T0 r o.dst K a l o.op

def SOg (o:SO) (s:Nat) (b:Bool) (K:Fr → Loc → Prop) (a:Fr) (l:Loc):Prop:=match opd a (.tmp s) with
  | (p,.d (.v (.bool c)))=>if c = b then match aev P (sto l r) a o.op with
    | some (q,v)=>(p ∧ c = b → q) ∧ K (putO o.dst (.gd (p ∧ c = b) v) a) l
    | none=>(∃ v,(p ∧ c = b → SE P B T0 r o.dst (fun a' l'=>l' = l ∧ a' = putO o.dst v a) a l o.op) ∧ K (putO o.dst (.gd (p ∧ c = b) v) a) l) ∨ ((p ∧ c = b) ∧ SE P B T0 r o.dst K a l o.op)
    else K (putO o.dst (.gd (p ∧ c = b) (.d (.v (.bool false)))) a) l
  | _=>False

def SWL:List SO → (Fr → Loc → Prop) → Fr → Loc → Prop
  | [],K,a,l=>K a l
  | o :: os,K,a,l=>match o.guard with
    | none=>SO1 P B T0 r o (SWL os K) a l
    | some (s,b)=>SOg P B T0 r o s b (SWL os K) a l

def SWLn (NR:List Nat):List SO → (Fr → Loc → Prop) → Fr → Loc → Prop
  | [],K,a,l=>K a l
  | o :: os,K,a,l=>match o.guard with
    | none=>match aev P (sto l r) a o.op with
      | some (q,v)=>q ∧ SWLn NR os K (putO o.dst v a) l
      | none=>match o.op with
        | .store t p x=>(match avName (opd a p).2 with | some n=>NR.contains n = false | none=>False) ∧ SEstore P r o.dst (SWLn NR os K) a l t p x
        | _=>False
    | some _=>False

def loadNames (ops:List SO) (a:Fr):List Nat:=ops.filterMap fun o=>match o.op with
  | .load _ x=>avName (opd a x).2
  | _=>none

def mkNames:List SO → List Nat
  | []=>[]
  | o :: os=>match o.op,o.dst with
    | .alloc _,some s=>(B + s) :: mkNames os
    | .box _ _,some s=>(B + s) :: mkNames os
    | .mkslice _ _ _,some s=>(B + s) :: mkNames os
    | _,_=>mkNames os

def noN (C:List Nat) (v:AV):Prop:=v.allN (fun m=>!C.contains m && decide (m < B + 100000)) = true
def killD (C:List Nat) (l:Loc):Loc:=killO C (C.map (fun n=>(n,AO.dead)) ++ l.filter fun p=>!C.contains p.1)

def SDv (C:List Nat) (σ0:Sto) (l0:Loc) (a:Fr) (o:SO) (k:AV → Option AO → Prop):Prop:=match aev P σ0 a o.op with
  | some (q,v)=>q ∧ noN B C v ∧ k v none
  | none=>match o.op with
    | .alloc t=>match o.dst,tzero P t with
      | some s,some z=>k (.lp (B + s) 0) (some (.box (z.map fun x=>.d (.v x))))
      | _,_=>False
    | .box t x=>match o.dst,cellsAV (opd a x).2 with
      | some s,some cs=>(opd a x).1 ∧ AV.allNL (fun m=>!C.contains m && decide (m < B + 100000)) cs = true ∧ k (.lp (B + s) 0) (some (.box cs))
      | _,_=>False
    | .bslice t n parts=>match bsliceV P t n (parts.map fun p=>(p.1,(opd a p.2).2)) with
      | some rows=>allP (parts.map fun p=>(opd a p.2).1) ∧ k (.d (.ro rows)) none
      | none=>False
    | .app t u s x=>match (opd a s).2,(tel P t),(tel P t).bind (tsz P),(tel P t).bind (tby P),(tel P t).bind (tzero P) with
      | .d (.v (.slice none 0 0)),some _,some kk,some by_,some z=>match srcV P σ0 u (z.map fun x=>(RV.v x).nrm) (opd a x).2 with
        | some (q,news)=>(opd a x).1 ∧ (opd a s).1 ∧ q ∧ z.length = kk ∧ 0 < kk ∧ (∀ row ∈ news,row.length = kk) ∧ news.length * by_ ≤ 2 ^ 47 ∧ news.length ≤ 2 ^ 47 ∧ k (.d (.ro news)) none
        | none=>False
      | _,_,_,_,_=>False
    | .call f args=>∃ v,enters P f = true ∧ ACalls P f (args.map fun x=>(opd a x).2) σ0 (B + 100000) [] (fun v' σ'=>v' = v ∧ σ' = σ0) ∧ allP (args.map fun x=>(opd a x).1) ∧ Loc.below (B + 100000) l0 ∧ noN B C v ∧ k v none
    | .callv x args=>∃ v,ACallv P (opd a x).2 (args.map fun x=>(opd a x).2) σ0 (B + 100000) [] (fun v' σ'=>v' = v ∧ σ' = σ0) ∧ (opd a x).1 ∧ allP (args.map fun x=>(opd a x).1) ∧ Loc.below (B + 100000) l0 ∧ noN B C v ∧ k v none
    | _=>False

def addN (d:Option Nat) (ob:Option AO) (nw:Loc):Loc:=match d,ob with
  | some s,some o=>(B + s,o) :: nw
  | _,_=>nw

def SWD (C:List Nat) (σ0:Sto) (l0:Loc):List SO → (Fr → Loc → Prop) → Fr → Loc → Prop
  | [],k,a,nw=>k a nw
  | o :: os,k,a,nw=>match o.guard with
    | none=>SDv P B C σ0 l0 a o fun v ob=>SWD C σ0 l0 os k (putO o.dst v a) (addN B o.dst ob nw)
    | some (s,b)=>match opd a (.tmp s) with
      | (p,.d (.v (.bool c)))=>if c = b then match aev P σ0 a o.op with
        | some (q,v)=>(p ∧ c = b → q) ∧ noN B C v ∧ SWD C σ0 l0 os k (putO o.dst (.gd (p ∧ c = b) v) a) nw
        | none=>∃ v,(p ∧ c = b → SDv P B C σ0 l0 a o fun v' ob=>v' = v ∧ ob = none) ∧ noN B C v ∧ SWD C σ0 l0 os k (putO o.dst (.gd (p ∧ c = b) v) a) nw
        else SWD C σ0 l0 os k (putO o.dst (.gd (p ∧ c = b) (.d (.v (.bool false)))) a) nw
      | _=>False

def OSW:OT → (Fr → Loc → Prop) → Fr → Loc → Prop
  | .done,k,a,l=>k a l
  | .nil,_,_,_=>True
  | .fst o t,k,a,l=>SWL P B T0 r [o] (OSW t k) a l
  | .br o t rest,k,a,l=>SWL P B T0 r [o] (OSW t k) a l ∧ OSW rest k a l

def SW:SC → (Ex → Fr → Loc → Prop) → Fr → Loc → Prop
  | .skip,Q,a,l=>Q .normal a l
  | .ret,Q,a,l=>Q .ret a l
  | .exit id,Q,a,l=>Q (.exit id) a l
  | .reg ops,Q,a,l=>SWL P B T0 r ops (Q .normal) a l
  | .dreg fr ops tl,Q,a,l=>Fr.below (B + 100000) (killT (mkNames B ops) a) ∧ Loc.below (B + 100000) (killD (mkNames B ops) l) ∧ SWD P B (mkNames B ops) (sto (killD (mkNames B ops) l) r) (killD (mkNames B ops) l) ops
      (fun a nw=>bif fr then SWLn P r (loadNames ops a) tl (Q .normal) a (nw ++ killD (mkNames B ops) l) else SWL P B T0 r tl (Q .normal) a (nw ++ killD (mkNames B ops) l)) (killT (mkNames B ops) a) []
  | .oreg t,Q,a,l=>OSW P B T0 r t (Q .normal) a l
  | .seq x y,Q,a,l=>SW x (thenK (SW y Q) Q) a l
  | .cond x c e,Q,a,l=>match opd a x with
    | (p,.d (.v (.bool b)))=>p ∧ (b = true → SW c Q a l) ∧ (b = false → SW e Q a l)
    | _=>False
  | .block id c,Q,a,l=>SW c (blkK id Q) a l
  | .loop c,Q,a,l=>∃ (J:Nat → Fr → Loc → Prop),(∃ n a' l',Wk B T0 r a l a' l' ∧ J n a' l') ∧ ∀ n a l,J n a l → SW c (thenK (fun a1 l1=>∃ m a' l',Wk B T0 r a1 l1 a' l' ∧ J m a' l' ∧ m < n) Q) a l
  | .keep s c,Q,a,l=>SW c Q (Fr.norm s a) l
end
end Go.Proofs.Ytikgiadbkjmabaa

/- What operations that make memory or write do to the store: as said. No program in sight. -/
namespace Go.Proofs.Ytikgiadbkjmabaa
open Go.RowKit
set_option linter.unusedSimpArgs false
set_option linter.unusedVariables false

theorem enters_run {P:Program} {f:FuncId} (h:enters P f = true) (args:Array Value) (w:World):(callFunc f args).run P w = .ok (.enter f args) w:=by
  unfold enters at h
  cases hf:P.funcs[f]? with
  | none=>simp [hf] at h
  | some fn =>
    simp only [hf,Bool.and_eq_true,Bool.not_eq_true',beq_eq_false_iff_ne,ne_eq] at h
    obtain ⟨h1,h2⟩:=h
    simp [callFunc,hf,h2]
    intro h3;simp [h3] at h1

theorem hpLt {w:World} {b:Nat} {x:Obj} (h:w.heap[b]? = some x):b < w.heap.size:=by
  rcases Nat.lt_or_ge b w.heap.size with h' | h'
  · exact h'
  · simp [Array.getElem?_eq_none h'] at h

/-! ### the store -/

theorem sto_cons (m:Nat) (o:AO) (l:Loc) (r:Sto) (n:Nat):sto ((m,o) :: l) r n = if n = m then o else sto l r n:=rfl
theorem sto_set (n:Nat) (o:AO):∀ (l:Loc) (r:Sto) (m:Nat),sto (Loc.set n o l) r m = if m = n then o else sto l r m
  | [],r,m=>rfl
  | (k,p) :: l,r,m=>by
    simp only [Loc.set]
    split
    · rename_i e;subst e;simp only [sto_cons];split<;>rfl
    · rename_i e
      simp only [sto_cons,sto_set n o l r m]
      split
      · rename_i e2;subst e2;simp [e]
      · rfl

theorem sto_kill (n:Nat) (r:Sto) (hr:∀ m,(r m).kill n = r m):∀ (l:Loc) (m:Nat),m ≠ n → sto (Loc.kill n l) r m = (sto l r m).kill n
  | [],m,_=>(hr m).symm
  | (k,p) :: l,m,hm=>by
    have ih:=sto_kill n r hr l m hm
    unfold Loc.kill at *
    by_cases hk:k = n
    · subst hk
      simp only [ne_eq,not_true_eq_false,decide_false,List.filter_cons,Bool.false_eq_true,if_false,sto_cons,if_neg hm]
      exact ih
    · simp only [List.filter_cons,ne_eq,hk,not_false_eq_true,decide_true,if_true,List.map_cons,sto_cons]
      split
      · rfl
      · exact ih

theorem sto_newL (n:Nat) (o:AO) (l:Loc) (r:Sto) (hr:∀ m,(r m).kill n = r m) (m:Nat):sto (newL n o l) r m = if m = n then o else (sto l r m).kill n:=by
  unfold newL
  rw [sto_cons]
  split
  · rfl
  · rename_i h;exact sto_kill n r hr l m h

mutual
theorem AV.kill_below {q:Nat → Bool} {n:Nat} (hn:q n = false):∀ v:AV,v.allN q = true → v.mapN (fun m l=>if m = n then .any else .os m l) (fun m o=>if m = n then .any else .lp m o) (fun m k i j=>if m = n then .any else .ap m k i j) = v
  | .any,_ | .d _,_ | .emp,_ | .rp _,_=>rfl
  | .gd p v,h=>by simp only [AV.mapN,AV.kill_below hn v h]
  | .agg cs,h=>by simp only [AV.mapN,AV.killL_below hn cs h]
  | .tup cs,h=>by simp only [AV.mapN,AV.killL_below hn cs h]
  | .clo f a b,h=>by simp only [AV.allN,Bool.and_eq_true] at h;simp only [AV.mapN,AV.killL_below hn a h.1,AV.killL_below hn b h.2]
  | .os m l,h=>by simp only [AV.allN] at h;simp only [AV.mapN];rw [if_neg (by intro e;rw [e,hn] at h;cases h)]
  | .lp m l,h=>by simp only [AV.allN] at h;simp only [AV.mapN];rw [if_neg (by intro e;rw [e,hn] at h;cases h)]
  | .ap m _ _ _,h=>by simp only [AV.allN] at h;simp only [AV.mapN];rw [if_neg (by intro e;rw [e,hn] at h;cases h)]
  | .mp m,h=>by simp only [AV.allN] at h;simp only [AV.mapN];rw [if_neg (by intro e;rw [e,hn] at h;cases h)]
  | .sb m _ _ _,h=>by simp only [AV.allN] at h;simp only [AV.mapN];rw [if_neg (by intro e;rw [e,hn] at h;cases h)]
theorem AV.killL_below {q:Nat → Bool} {n:Nat} (hn:q n = false):∀ cs:List AV,AV.allNL q cs = true → AV.mapNL (fun m l=>if m = n then .any else .os m l) (fun m o=>if m = n then .any else .lp m o) (fun m k i j=>if m = n then .any else .ap m k i j) cs = cs
  | [],_=>rfl
  | c :: cs,h=>by simp only [AV.allNL,Bool.and_eq_true] at h;simp only [AV.mapNL,AV.kill_below hn c h.1,AV.killL_below hn cs h.2]
end

theorem AO.kill_below {q:Nat → Bool} {n:Nat} (hn:q n = false) (o:AO) (h:o.allN q = true):o.kill n = o:=by
  cases o with
  | box cs =>
    have:=AV.killL_below hn cs h
    simp only [AO.kill,AO.box.injEq]
    rw [AV.mapNL_eq] at this
    exact this
  | arh k E p hh q =>
    have:=AV.killL_below hn hh h
    simp only [AO.kill,AO.arh.injEq,true_and,and_true]
    rw [AV.mapNL_eq] at this
    exact this
  | dead=>rfl
  | arr=>rfl
  | mp=>rfl

theorem closed_kill {B n:Nat} {r:Sto} (h:ClosedS B r) (hn:B ≤ n) (m:Nat):(r m).kill n = r m:=AO.kill_below (q:=fun m=>decide (m < B)) (by simp;omega) _ (h m).1

theorem RepO.kill {K K':KS} {w w':World} {n m:Nat} (hI:∀ b,K.I b → K'.I b) (hk:Keep K.I w w') (hs:∀ m,m ≠ n → K.same K' m) (hm:m ≠ n)
    (hnI:(¬ K.I (K.blk m)) → ¬ K'.I (K'.blk m)) {o:AO} (hb:o.live K m → w'.heap[K.blk m]? = w.heap[K.blk m]?) (h:RepO K w m o):RepO K' w' m (o.kill n):=by
  have hn:=hs m hm
  cases o with
  | dead=>trivial
  | box cs =>
    obtain ⟨h1,xs,T,h2,h3,h4,h5⟩:=h
    refine ⟨hnI h1,xs,T,by rw [hn.1,hb trivial];exact h2,by simpa using h3,fun i c x hc hx=>?_,h5⟩
    simp only [List.getElem?_map] at hc
    cases hc':cs[i]? with
    | none=>simp [hc'] at hc
    | some c'=>simp [hc'] at hc;subst hc;exact (h4 i c' x hc' hx).kill hI hk hs
  | arr k E rows=>exact RepO.up (q:=fun _=>false) hI hk (by simp) hn hnI hb rfl h
  | mp s es=>exact RepO.up (q:=fun _=>false) hI hk (by simp) hn hnI hb rfl h
  | arh k E p hh q=>exact ArvOk.map hn hI hk hnI (hb trivial) (by simp) (fun j c c' x hc hc' hx=>by
      rw [List.getElem?_map,hc] at hc'
      cases hc';exact hx.kill hI hk hs) h

theorem AO.kill_live {K:KS} {n m:Nat} {o:AO}:(o.kill n).live K m ↔ o.live K m:=by cases o<;>exact Iff.rfl

theorem RepO.lt {K:KS} {w:World} {n:Nat} {o:AO} (h:RepO K w n o) (hl:o.live K n):K.blk n < w.heap.size ∧ ¬ K.I (K.blk n):=by
  cases o with
  | dead=>exact hl.elim
  | box cs=>obtain ⟨h1,xs,T,h2,_⟩:=h;exact ⟨hpLt h2,h1⟩
  | arr k E rows =>
    obtain ⟨_,⟨h1,_⟩ | ⟨_,h1,xs,h2,_⟩⟩:=h
    · simp only [AO.live] at hl;rw [h1] at hl;cases hl
    · exact ⟨hpLt h2,h1⟩
  | mp s es=>obtain ⟨h1,_,_,xs,clock,h4,_⟩:=h;exact ⟨hpLt h4,h1⟩
  | arh k E p hh q=>obtain ⟨_,_,h1,xs,h2,_⟩:=h;exact ⟨hpLt h2,h1⟩

def KS.new (K:KS) (n b c:Nat):KS:={ K with blk:=fun m=>if m = n then b else K.blk m,cap:=fun m=>if m = n then c else K.cap m,nl:=fun m=>if m = n then false else K.nl m }

theorem KS.new_same (K:KS) (n b c m:Nat) (h:m ≠ n):K.same (K.new n b c) m:=⟨if_neg h,if_neg h,if_neg h,rfl⟩

theorem live_same {K K':KS} {n:Nat} (h:K.same K' n) {o:AO}:o.live K' n ↔ o.live K n:=by
  cases o<;>simp only [AO.live]
  rw [h.2.2.1]

theorem RepS.bind {K K':KS} {σ σ':Sto} {w w':World} {n:Nat} {o:AO} (hS:RepS K σ w) (hI:∀ b,K.I b ↔ K'.I b) (hk:Keep K.I w w') (hs:∀ m,m ≠ n → K.same K' m)
    (hb:∀ m,m ≠ n → (σ m).live K m → w'.heap[K.blk m]? = w.heap[K.blk m]?) (hO:RepO K' w' n o) (hne:∀ m,m ≠ n → (σ m).live K m → o.live K' n → K'.blk n ≠ K.blk m)
    (hσ:∀ m,σ' m = if m = n then o else (σ m).kill n):RepS K' σ' w':=by
  refine ⟨hS.gl.up (fun b h=>(hI b).1 h) hk,fun b hb=>Nat.lt_of_lt_of_le (hS.inI b ((hI b).2 hb)) hk.size,fun m=>?_,fun i j hi hj e=>?_⟩
  · rw [hσ]
    split
    · rename_i e;subst e;exact hO
    · rename_i hm
      exact (hS.obj m).kill (fun b h=>(hI b).1 h) hk hs hm (fun h h'=>h ((hI _).2 (by rw [← (hs m hm).1];exact h'))) (hb m hm)
  · rw [hσ] at hi hj
    by_cases h1:i = n
    · by_cases h2:j = n
      · rw [h1,h2]
      · rw [if_pos h1] at hi
        rw [if_neg h2] at hj
        rw [AO.kill_live,live_same (hs j h2)] at hj
        subst h1
        exact absurd (e.trans (hs j h2).1) (hne j h2 hj hi)
    · by_cases h2:j = n
      · rw [if_pos h2] at hj
        rw [if_neg h1] at hi
        rw [AO.kill_live,live_same (hs i h1)] at hi
        subst h2
        exact absurd (e.symm.trans (hs i h1).1) (hne i h1 hi hj)
      · rw [if_neg h1] at hi
        rw [if_neg h2] at hj
        rw [AO.kill_live,live_same (hs i h1)] at hi
        rw [AO.kill_live,live_same (hs j h2)] at hj
        exact hS.inj i j hi hj (by rw [← (hs i h1).1,← (hs j h2).1];exact e)

theorem Keep.alloc {I:Nat → Prop} {w:World} (hI:∀ b,I b → b < w.heap.size) (o:Obj):Keep I w (w.alloc o):=Keep.of_grow ((Grow.refl w).alloc o) hI
theorem Keep.drew {I:Nat → Prop} {w:World} (hI:∀ b,I b → b < w.heap.size):Keep I w w.drew:=Keep.of_grow (Grow.refl w).drew hI

theorem RepS.newBlock {K:KS} {σ σ':Sto} {w w':World} {n c:Nat} {o:AO} (hS:RepS K σ w) (hk:Grow w w') (hO:RepO (K.new n w.heap.size c) w' n o)
    (hσ:∀ m,σ' m = if m = n then o else (σ m).kill n):RepS (K.new n w.heap.size c) σ' w' :=
  hS.bind (fun b=>Iff.rfl) (Keep.of_grow hk hS.inI) (fun m hm=>KS.new_same K n _ c m hm) (fun m hm hl=>hk.heap ((hS.obj m).lt hl).1) hO
    (fun m hm hl _=>by have:=((hS.obj m).lt hl).1;simp only [KS.new,if_true];omega) hσ

/-! ### what stays between one operation and the next -/

structure Std (N:Nat) (r:Sto) (K:KS) (a:Fr) (l:Loc) (act:Act) (w:World):Prop where
  rs:RepS K (sto l r) w
  rf:RepF K w a act.tmps
  sz:act.tmps.size = N
  df:act.defers = []

def Post (N B:Nat) (T0:List Nat) (r:Sto) (K:KS) (l:Loc) (w:World) (k:Fr → Loc → Prop) (act':Act) (w':World):Prop :=
  ∃ K' a' l',Ext B T0 K (sto l r) w K' (sto l' r) w' ∧ Std N r K' a' l' act' w' ∧ k a' l'

theorem Ext.refl (B:Nat) (T:List Nat) (K:KS) (σ:Sto) (w:World):Ext B T K σ w K σ w:=⟨fun _ _ _=>⟨rfl,rfl,rfl,rfl⟩,fun _ h=>h,Keep.refl _ _,fun b h=>h.elim .inl fun h=>.inr (.inr h)⟩
theorem KS.same.trans {K K' K'':KS} {n:Nat} (h:K.same K' n) (h':K'.same K'' n):K.same K'' n:=⟨h'.1.trans h.1,h'.2.1.trans h.2.1,h'.2.2.1.trans h.2.2.1,h'.2.2.2.trans h.2.2.2⟩
theorem Ext.trans {B:Nat} {T:List Nat} {K K' K'':KS} {σ σ' σ'':Sto} {w w' w'':World} (h:Ext B T K σ w K' σ' w') (h':Ext B T K' σ' w' K'' σ'' w''):Ext B T K σ w K'' σ'' w'' :=
  ⟨fun n hn hT=>(h.same n hn hT).trans (h'.same n hn hT),fun b hb=>h'.sub b (h.sub b hb),h.keep.trans h'.keep h.sub,fun b hb=>by
    rcases h'.orig b hb with h1 | h1 | h1
    · exact h.orig b (.inl h1)
    · exact .inr (.inl (Nat.le_trans h.keep.size h1))
    · exact h.orig b (.inr h1)⟩
theorem Std.op {N:Nat} {r:Sto} {K:KS} {a:Fr} {l:Loc} {act:Act} {w:World} (h:Std N r K a l act w) (x:Operand):OpOk K w a act.eval x:=by
  intro hp
  cases x with
  | tmp t =>
    have:=h.rf t
    simp only [opd] at hp ⊢
    cases hv:a.get t<;>simp only [hv] at this hp ⊢<;>try exact this
    rename_i p v
    cases this with
    | gd h1 h2=>exact h1 hp
  | const v=>exact AV.lit_ok v
  | global g=>exact .d (.v rfl)
  | func f=>exact .clo (fs:=[]) (cs:=[]) rfl rfl (by simp) (by simp)

theorem Std.put {N:Nat} {r:Sto} {K:KS} {a:Fr} {l:Loc} {act:Act} {w:World} (h:Std N r K a l act w) {d:Option Nat} (hd:∀ s,d = some s → s < N) {v:AV} {x:Value} (hv:Rep K w v x):Std N r K (putO d v a) l (act.put d x) w:=by
  cases d with
  | none=>exact h
  | some s=>exact ⟨h.rs,h.rf.put s (by rw [h.sz];exact hd s rfl) hv,by simp [Act.put,h.sz],by simp [Act.put,h.df]⟩
end Go.Proofs.Ytikgiadbkjmabaa

/- What operations that make memory or write do to the store: as said (2): new blocks,stores. No program in sight. -/
namespace Go.Proofs.Ytikgiadbkjmabaa
open Go.RowKit
set_option linter.unusedSimpArgs false
set_option linter.unusedVariables false

section
variable {P:Program} {N B:Nat} {T0:List Nat} {r:Sto} {K:KS} {k:Fr → Loc → Prop} {a:Fr} {l:Loc} {act:Act} {w:World} {o:Oper} {Q:Exit → Act → World → Prop}

theorem wp_of_value {y:Value} {w':World} {nx:Act → World → Prop} (h:(execOp act.eval o).run P w = .ok (.value y) w') (hn:nx (act.put o.dst y) w'):o.wp P act w nx Q:=by
  unfold Oper.wp;rw [h];exact hn
theorem wp_of_skip {w':World} {nx:Act → World → Prop} (h:(execOp act.eval o).run P w = .ok .skip w') (hn:nx (act.put o.dst undef) w'):o.wp P act w nx Q:=by
  unfold Oper.wp;rw [h];exact hn

theorem alloc_at (w:World) (o:Obj):(w.alloc o).heap[w.heap.size]? = some o:=hp_new rfl

theorem newBox_ok (hB:ClosedS B r) (h:Std N r K a l act w) {s:Nat} (hs:s < N) {cs:List AV} {xs:List Value} {T:TypeId} (hC:RepC K w cs xs)
    (hk:k ((s,.lp (B + s) 0) :: newF (B + s) a) (newL (B + s) (.box (cs.map (AV.kill (B + s)))) l)) :
    Post N B T0 r K l w k (act.put (some s) (.pointer (some ⟨w.heap.size,0,none⟩))) (w.alloc (.cells xs.toArray T)):=by
  have hg:Grow w (w.alloc (.cells xs.toArray T)):=(Grow.refl w).alloc _
  have hkp:Keep K.I w (w.alloc (.cells xs.toArray T)):=Keep.of_grow hg h.rs.inI
  have hsame:∀ m,m ≠ B + s → K.same (K.new (B + s) w.heap.size 0) m:=fun m hm=>KS.new_same K (B + s) w.heap.size 0 m hm
  have hσ:∀ m,sto (newL (B + s) (.box (cs.map (AV.kill (B + s)))) l) r m = if m = B + s then .box (cs.map (AV.kill (B + s))) else (sto l r m).kill (B + s):=fun m=>sto_newL _ _ _ _ (closed_kill hB (by omega)) m
  refine ⟨K.new (B + s) w.heap.size 0,_,_,⟨fun m hm _=>KS.new_same K _ _ _ m (by omega),fun _ h=>h,hkp,fun b hb=>?_⟩,⟨?_,?_,by simp [Act.put,h.sz],by simp [Act.put,h.df]⟩,hk⟩
  · rcases hb with hb | ⟨n,hl,rfl⟩
    · exact .inl hb
    · by_cases hn:n = B + s
      · subst hn;simp [KS.new]
      · rw [hσ,if_neg hn,AO.kill_live,live_same (hsame n hn)] at hl
        exact .inr (.inr ⟨n,hl,(hsame n hn).1.symm⟩)
  · refine h.rs.newBlock (c:=0) (o:=.box (cs.map (AV.kill (B + s)))) hg ⟨fun hi=>?_,xs,T,?_,by simpa using hC.1,fun i c x hc hx=>?_,hC.2.2⟩ (fun m=>sto_newL _ _ _ _ (closed_kill hB (by omega)) m)
    · have:=h.rs.inI _ hi
      simp only [KS.new,if_true] at this;omega
    · simp only [KS.new,if_true];exact alloc_at _ _
    · simp only [List.getElem?_map] at hc
      cases hc':cs[i]? with
      | none=>simp [hc'] at hc
      | some c'=>simp [hc'] at hc;subst hc;exact Rep.kill (K:=K) (K':=K.new (B + s) w.heap.size 0) (n:=B + s) (fun _ h=>h) hkp hsame (hC.2.1 i c' x hc' hx)
  · refine RepF.put (h.rf.kill (K':=K.new (B + s) w.heap.size 0) (fun _ h=>h) hkp hsame) s (by rw [h.sz];exact hs) ?_
    have:Rep (K.new (B + s) w.heap.size 0) (w.alloc (.cells xs.toArray T)) (.lp (B + s) 0) (.pointer (some ⟨(K.new (B + s) w.heap.size 0).blk (B + s),0,none⟩)):=.lp
    simpa [KS.new] using this

theorem alloc_ok (hB:ClosedS B r) (h:Std N r K a l act w) {t:TypeId} (ho:o.op = .alloc t) (hd:∀ t,o.dst = some t → t < N) (hs:SEalloc P B o.dst k a l t):o.wp P act w (Post N B T0 r K l w k) Q:=by
  unfold SEalloc at hs
  split at hs
  · rename_i s z hdst hz
    obtain ⟨⟨v,hv,hvz⟩,h1⟩:=tzero_ok hz
    refine wp_of_value (y:=.pointer (some ⟨w.heap.size,0,none⟩)) (w':=w.alloc (.cells z.toArray t)) ?_ ?_
    · unfold execOp;rw [ho]
      exact run_val (by simp [Instr.alloc,hv,newVar,newRow,hvz])
    · rw [hdst]
      have hC:=repC_zero (K:=K) (w:=w) h1
      refine newBox_ok hB h (hd s hdst) hC ?_
      have:(z.map fun x=>AV.d (.v x)).map (AV.kill (B + s)) = z.map fun x=>AV.d (.v x):=by simp [AV.kill,AV.mapN]
      rw [this];exact hs
  · exact hs.elim

theorem box_ok (hB:ClosedS B r) (h:Std N r K a l act w) {t:TypeId} {x:Operand} (ho:o.op = .box t x) (hd:∀ t,o.dst = some t → t < N) (hs:SEbox B o.dst k a l t x):o.wp P act w (Post N B T0 r K l w k) Q:=by
  unfold SEbox at hs
  split at hs
  · rename_i s cs hdst hcs
    have hC:=cellsAV_ok (h.op x hs.1) hcs
    refine wp_of_value (y:=.pointer (some ⟨w.heap.size,0,none⟩)) (w':=w.alloc (.cells (act.eval x).cells.toList.toArray t)) ?_ ?_
    · unfold execOp;rw [ho]
      exact run_val (by simp [Instr.box,newVar,newRow])
    · rw [hdst]
      exact newBox_ok hB h (hd s hdst) hC hs.2
  · exact hs.elim

theorem setRow_grow_keep {K:KS} {w:World} {g:Nat} {cs:Array Value} (hg:¬ K.I g):Keep K.I w (w.setRow g cs) :=
  ⟨rfl,rfl,rfl,by simp,fun b hb=>setRow_other w g b cs (by intro e;subst e;exact hg hb),Nat.le_refl _⟩

/-! ### maps -/

theorem mkmap_ok (hB:ClosedS B r) (h:Std N r K a l act w) {t:TypeId} (ho:o.op = .makeMap t none) (hd:∀ t,o.dst = some t → t < N) (hs:SEmkmap P B o.dst k a l t):o.wp P act w (Post N B T0 r K l w k) Q:=by
  unfold SEmkmap at hs
  split at hs
  · rename_i s b hdst _
    refine wp_of_value (y:=.map (some w.heap.size)) (w':=w.alloc (.map #[] 0)) ?_ ?_
    · unfold execOp;rw [ho]
      exact run_val (by simp [Instr.makeMap,Result.andThen])
    · rw [hdst]
      have hg:Grow w (w.alloc (.map #[] 0)):=(Grow.refl w).alloc _
      have hkp:Keep K.I w (w.alloc (.map #[] 0)):=Keep.of_grow hg h.rs.inI
      have hsame:∀ m,m ≠ B + s → K.same (K.new (B + s) w.heap.size 0) m:=fun m hm=>KS.new_same K (B + s) w.heap.size 0 m hm
      have hσ:∀ m,sto (newL (B + s) (.mp b []) l) r m = if m = B + s then .mp b [] else (sto l r m).kill (B + s):=fun m=>sto_newL _ _ _ _ (closed_kill hB (by omega)) m
      refine ⟨K.new (B + s) w.heap.size 0,_,_,⟨fun m hm _=>KS.new_same K _ _ _ m (by omega),fun _ h=>h,hkp,fun b hb=>?_⟩,⟨?_,?_,by simp [Act.put,h.sz],by simp [Act.put,h.df]⟩,hs⟩
      · rcases hb with hb | ⟨n,hl,rfl⟩
        · exact .inl hb
        · by_cases hn:n = B + s
          · subst hn;simp [KS.new]
          · rw [hσ,if_neg hn,AO.kill_live,live_same (hsame n hn)] at hl
            exact .inr (.inr ⟨n,hl,(hsame n hn).1.symm⟩)
      · refine h.rs.newBlock (c:=0) (o:=.mp b []) hg ⟨fun hi=>?_,by simp,by simp,[],0,?_,rfl⟩ (fun m=>sto_newL _ _ _ _ (closed_kill hB (by omega)) m)
        · have:=h.rs.inI _ hi
          simp only [KS.new,if_true] at this;omega
        · simp only [KS.new,if_true];exact alloc_at _ _
      · refine RepF.put (h.rf.kill (K':=K.new (B + s) w.heap.size 0) (fun _ h=>h) hkp hsame) s (by rw [h.sz];exact hd s hdst) ?_
        have:Rep (K.new (B + s) w.heap.size 0) (w.alloc (.map #[] 0)) (.mp (B + s)) (.map (some ((K.new (B + s) w.heap.size 0).blk (B + s)))):=.mp
        simpa [KS.new] using this
  · exact hs.elim

def putB (w:World) (g:Nat) (x:Obj):World:={ w with heap:=w.heap.setIfInBounds g x }
theorem putB_other (w:World) (g:Nat) (x:Obj) (b:Nat) (h:b ≠ g):(putB w g x).heap[b]? = w.heap[b]?:=by
  simp [putB,Ne.symm h]
theorem putB_keep {I:Nat → Prop} {w:World} {g:Nat} {x:Obj} (hg:¬ I g):Keep I w (putB w g x) :=
  ⟨rfl,rfl,rfl,by simp [putB],fun b hb=>putB_other w g x b (by intro e;subst e;exact hg hb),Nat.le_refl _⟩

theorem putB_ok (h:Std N r K a l act w) {n:Nat} {o:AO} {x:Obj} (hl:(sto l r n).live K n) (hO:RepO K (putB w (K.blk n) x) n o) (hk:k a (Loc.set n o l)) :
    Post N B T0 r K l w k act (putB w (K.blk n) x):=by
  have hlt:=(h.rs.obj n).lt hl
  have hkp:Keep K.I w (putB w (K.blk n) x):=putB_keep hlt.2
  have conv:∀ m,(sto (Loc.set n o l) r m).live K m → (sto l r m).live K m:=fun m hm=>by
    rw [sto_set] at hm
    split at hm
    · rename_i e;subst e;exact hl
    · exact hm
  refine ⟨K,_,_,⟨fun _ _ _=>⟨rfl,rfl,rfl,rfl⟩,fun _ h=>h,hkp,fun b hb=>hb.elim .inl fun ⟨m,h1,h2⟩=>.inr (.inr ⟨m,conv m h1,h2⟩)⟩,⟨?_,h.rf.up (fun _ h=>h) hkp (fun _=>⟨rfl,rfl,rfl,rfl⟩),h.sz,h.df⟩,hk⟩
  refine ⟨h.rs.gl.up (fun _ h=>h) hkp,fun b hb=>by simpa [putB] using h.rs.inI b hb,fun m=>?_,fun i j hi hj e=>?_⟩
  · rw [sto_set]
    split
    · rename_i e;subst e;exact hO
    · rename_i hm
      refine (h.rs.obj m).up (q:=fun _=>true) (fun _ h=>h) hkp (fun _ _=>⟨rfl,rfl,rfl,rfl⟩) ⟨rfl,rfl,rfl,rfl⟩ (fun h=>h) (fun hlm=>putB_other w _ _ _ (fun e=>hm (h.rs.inj m n hlm hl e))) (AO.allN_true _)
  · exact h.rs.inj i j (conv i hi) (conv j hj) e

theorem setM_mem {es:List (KV × Bool)} {k:KV} {b:Bool}:∀ p ∈ setM es k b,p ∈ es ∨ p = (k,b):=by
  induction es with
  | nil=>intro p hp;simp [setM] at hp;exact .inr hp
  | cons q es ih =>
    intro p hp
    simp only [setM] at hp
    split at hp
    · rcases List.mem_cons.1 hp with rfl | hp
      · exact .inr rfl
      · exact .inl (by simp [hp])
    · rcases List.mem_cons.1 hp with rfl | hp
      · exact .inl (by simp)
      · exact (ih p hp).imp (fun h=>by simp [h]) _root_.id
theorem setM_keys:∀ {es:List (KV × Bool)} {k:KV} {b:Bool},k ∈ es.map (·.1) → (setM es k b).map (·.1) = es.map (·.1)
  | [],k,b,h=>by simp at h
  | p :: es,k,b,h=>by
    simp only [setM]
    split
    · rename_i e;simp [e]
    · rename_i e
      simp only [List.map_cons,List.mem_cons] at h ⊢
      rw [setM_keys (h.resolve_left fun e'=>e e'.symm)]
theorem setM_none:∀ {es:List (KV × Bool)} {k:KV} {b:Bool},(∀ p ∈ es,p.1 ≠ k) → setM es k b = es ++ [(k,b)]
  | [],k,b,h=>rfl
  | p :: es,k,b,h=>by
    simp only [setM]
    rw [if_neg (h p (by simp)),setM_none fun q hq=>h q (by simp [hq])];rfl
theorem setM_some:∀ {es:List (KV × Bool)} {xs:List MapEntry} {k:KV} {b:Bool} {j:Nat} {e:MapEntry},xs.map (fun e=>(e.key,e.val)) = es.map (fun p=>(p.1.val,.bool p.2)) → (es.map (·.1)).Nodup → xs[j]? = some e → e.key = k.val →
    (xs.modify j fun e=>{ e with key:=k.val,val:=.bool b }).map (fun e=>(e.key,e.val)) = (setM es k b).map (fun p=>(p.1.val,.bool p.2)) ∧ k ∈ es.map (·.1)
  | [],xs,k,b,j,e,h,_,hj,_=>by
    cases xs with
    | nil=>simp at hj
    | cons x xs=>cases h
  | p :: es,[],k,b,j,e,h,hn,hj,hk=>by cases h
  | p :: es,x :: xs,k,b,j,e,h,hn,hj,hk=>by
    simp only [List.map_cons,List.cons.injEq,Prod.mk.injEq] at h
    obtain ⟨⟨h1,h2⟩,h3⟩:=h
    rw [List.map_cons,List.nodup_cons] at hn
    simp only [setM]
    cases j with
    | zero =>
      simp only [List.getElem?_cons_zero,Option.some.injEq] at hj
      subst hj
      have:p.1 = k:=KV.val_inj (by rw [← h1,hk])
      rw [if_pos this]
      exact ⟨by simp [List.modify,h3],by simp [this]⟩
    | succ j =>
      simp only [List.getElem?_cons_succ] at hj
      obtain ⟨i1,i2⟩:=setM_some (b:=b) h3 hn.2 hj hk
      have hne:p.1 ≠ k:=fun e0=>hn.1 (by rw [e0];exact i2)
      rw [if_neg hne]
      exact ⟨by simp only [List.modify_succ_cons,List.map_cons,i1,h1,h2],by simp [i2]⟩

theorem mset_ok (h:Std N r K a l act w) {t:TypeId} {x y v:Operand} (ho:o.op = .mapUpdate t x y v) (hs:SEmset P r o.dst k a l t x y v):o.wp P act w (Post N B T0 r K l w k) Q:=by
  unfold SEmset at hs
  split at hs
  · rename_i hdst hx hk hv
    rename_i q n key q' b
    split at hs
    · rename_i s es hn
      obtain ⟨g1,g2,g3,⟨kt,et,hu,_,hc,hf,hst⟩,hok,hkk⟩:=hs
      have hxr:=h.op x
      have hyr:=h.op y
      have hvr:=h.op v
      unfold OpOk at hxr hyr hvr
      rw [hx] at hxr
      rw [hv] at hvr
      have ex:act.eval x = .map (some (K.blk n)):=by
        have:=hxr g1
        generalize act.eval x = z at this
        cases this;rfl
      have ev:act.eval v = .bool b:=by
        have:=hvr g3
        generalize act.eval v = z at this
        cases this with | d this=>cases this with | v=>rfl
      have ey:=kv_rep (hyr g2) hk
      have hO:=h.rs.obj n
      rw [hn] at hO
      obtain ⟨h1,h2,h3,xs,clock,h4,h5⟩:=hO
      have hlive:(sto l r n).live K n:=by rw [hn];trivial
      have hall:∀ e ∈ xs,∃ k':KV,k'.ok s ∧ e.key = k'.val:=fun e he=>by
        have hm:(e.key,e.val) ∈ es.map (fun p=>(p.1.val,Value.bool p.2)):=by rw [← h5];exact List.mem_map.2 ⟨e,he,rfl⟩
        obtain ⟨p,hp,hpe⟩:=List.mem_map.1 hm
        simp only [Prod.mk.injEq] at hpe
        exact ⟨p.1,h3 p hp,hpe.1.symm⟩
      have hgo:(getObj (K.blk n)).run P w = .ok (.map xs.toArray clock) w:=by simp [getObj,Sem.run,h4]
      have hso:∀ ob,(setObj (K.blk n) ob).run P w = .ok () (putB w (K.blk n) ob):=fun ob=>by simp [setObj,Sem.run,h4,putB]
      have hlt:K.blk n < w.heap.size:=hpLt h4
      have hat:∀ ob,(putB w (K.blk n) ob).heap[K.blk n]? = some ob:=fun ob=>by simp [putB,hlt]
      have fin:∀ {ob:Obj},(Instr.mapUpdate t (act.eval x) (act.eval y) (act.eval v)).run P w = .ok () (putB w (K.blk n) ob) → RepO K (putB w (K.blk n) ob) n (.mp s (setM es key b)) → o.wp P act w (Post N B T0 r K l w k) Q:=fun {ob} e1 e2=>by
        refine wp_of_skip (w':=putB w (K.blk n) ob) ?_ (by rw [hdst];exact putB_ok h hlive e2 hkk)
        unfold execOp;rw [ho]
        simp only [Sem.run_bind,e1,Result.andThen,Sem.run_pure]
      have hoks:∀ p ∈ setM es key b,p.1.ok s:=fun p hp=>(setM_mem p hp).elim (h3 p) fun e=>by rw [e];exact hok
      rcases hf w key xs hok hall with ⟨e1,e2⟩ | ⟨j,e,e1,e2,e3⟩
      · have hno:∀ p ∈ es,p.1 ≠ key:=fun p hp e0=>by
          have hm:(p.1.val,Value.bool p.2) ∈ xs.map (fun e=>(e.key,e.val)):=by rw [h5];exact List.mem_map.2 ⟨p,hp,rfl⟩
          obtain ⟨e,he,hee⟩:=List.mem_map.1 hm
          simp only [Prod.mk.injEq] at hee
          exact e2 e he (by rw [hee.1,e0])
        refine fin (ob:=.map (xs ++ [({ key:=key.val,val:=.bool b,born:=clock }:MapEntry)]).toArray (clock + 1)) ?_ ⟨h1,?_,hoks,_,_,hat _,?_⟩
        · rw [ex,ey,ev]
          simp only [Instr.mapUpdate,Sem.run_bind,run_underlying hu,Result.andThen,hgo,hc w _ key hok,e1]
          rw [hso];simp
        · rw [setM_none hno,List.map_append,List.nodup_append]
          exact ⟨h2,by simp,fun a ha b hb=>by
            obtain ⟨p,hp,rfl⟩:=List.mem_map.1 ha
            simp at hb;subst hb;exact hno p hp⟩
        · rw [setM_none hno];simp [h5]
      · obtain ⟨f1,f2⟩:=setM_some (b:=b) h5 h2 e2 e3
        refine fin (ob:=.map (xs.modify j fun (e:MapEntry)=>{ e with key:=key.val,val:=.bool b }).toArray clock) ?_ ⟨h1,by rw [setM_keys f2];exact h2,hoks,_,_,hat _,f1⟩
        rw [ex,ey,ev]
        have ekey:((xs.toArray[j]?).map (·.key)).getD key.val = key.val:=by simp [e2,e3]
        simp only [Instr.mapUpdate,Sem.run_bind,run_underlying hu,Result.andThen,hgo,hc w _ key hok,e1,ekey,hst w key hok]
        rw [hso];simp
    · exact hs.elim
  · exact hs.elim

def PostW (N B:Nat) (T0:List Nat) (r:Sto) (K:KS) (l:Loc) (w:World) (n:Nat) (k:Fr → Loc → Prop) (act':Act) (w':World):Prop :=
  ∃ a' l',Ext B T0 K (sto l r) w K (sto l' r) w' ∧ Std N r K a' l' act' w' ∧ k a' l' ∧ (sto l r n).live K n ∧ (∀ b,b ≠ K.blk n → w'.heap[b]? = w.heap[b]?) ∧ ∀ m,(sto l r m).live K m → (sto l' r m).live K m

theorem PostW.post {n:Nat} {act':Act} {w':World} (h:PostW N B T0 r K l w n k act' w'):Post N B T0 r K l w k act' w':=by
  obtain ⟨a',l',h1,h2,h3,_⟩:=h
  exact ⟨K,a',l',h1,h2,h3⟩

theorem write_ok (h:Std N r K a l act w) {n:Nat} {o:AO} {cells':Array Value} (hl:(sto l r n).live K n) (hlo:o.live K n) (hO:RepO K (w.setRow (K.blk n) cells') n o) (hk:k a (Loc.set n o l)) :
    PostW N B T0 r K l w n k act (w.setRow (K.blk n) cells'):=by
  have hlt:=(h.rs.obj n).lt hl
  have hkp:Keep K.I w (w.setRow (K.blk n) cells'):=setRow_grow_keep hlt.2
  have conv:∀ m,(sto (Loc.set n o l) r m).live K m → (sto l r m).live K m:=fun m hm=>by
    rw [sto_set] at hm
    split at hm
    · rename_i e;subst e;exact hl
    · exact hm
  refine ⟨_,_,⟨fun _ _ _=>⟨rfl,rfl,rfl,rfl⟩,fun _ h=>h,hkp,fun b hb=>hb.elim .inl fun ⟨m,h1,h2⟩=>.inr (.inr ⟨m,conv m h1,h2⟩)⟩,⟨?_,h.rf.up (fun _ h=>h) hkp (fun _=>⟨rfl,rfl,rfl,rfl⟩),h.sz,h.df⟩,hk,hl,fun b hb=>setRow_other w _ _ _ hb,fun m hm=>?_⟩
  · refine ⟨h.rs.gl.up (fun _ h=>h) hkp,fun b hb=>by simpa using h.rs.inI b hb,fun m=>?_,fun i j hi hj e=>?_⟩
    · rw [sto_set]
      split
      · rename_i e;subst e;exact hO
      · rename_i hm
        refine (h.rs.obj m).up (q:=fun _=>true) (fun _ h=>h) hkp (fun _ _=>⟨rfl,rfl,rfl,rfl⟩) ⟨rfl,rfl,rfl,rfl⟩ (fun h=>h) (fun hlm=>setRow_other w _ _ _ (fun e=>hm (h.rs.inj m n hlm hl e))) (AO.allN_true _)
    · exact h.rs.inj i j (conv i hi) (conv j hj) e
  · rw [sto_set]
    split
    · rename_i e;subst e;exact hlo
    · exact hm

theorem run_storeAt {P:Program} {w:World} {t:TypeId} {v:Value} {g off z:Nat} {cur:List Value} {T:TypeId} {vs:List Value} (hz:tsz P t = some z) (hv:v.cells.toList = vs) (hl:vs.length = z) (h1:∀ x ∈ vs,x.oneCell' = true) (hg:w.heap[g]? = some (.cells cur.toArray T (0,0))) (hfit:off + z ≤ cur.length) :
    (Instr.storeAt t (.pointer (some ⟨g,off,none⟩)) v).run P w = .ok () (w.setRow g (cur.take off ++ vs ++ cur.drop (off + z)).toArray):=by
  have hsz:v.cells.size = z:=by rw [← hl,← hv];simp
  have:=run_storeCells_at P g off T vs 0 cur.toArray w hg (by simp;omega) h1
  simp only [Nat.add_zero,hl] at this
  simp [Instr.storeAt,Instr.sureAddr,storeVar,run_sizeOf' hz,hsz,hv,this]

theorem rv_ok {I:Nat → Prop} {K:KS} {w:World} {c:AV} {r:RV} {x:Value} (h:Rep K w c x) (hr:c.rv = some r):RRep K.I w r x:=by
  unfold AV.rv at hr
  split at hr
  · cases hr
    cases h with | d h =>
    unfold RV.nrm
    split
    · cases h;exact .nil
    · exact h
  · cases hr

theorem rvs_ok:∀ {cs:List AV} {rs:List RV},rvs cs = some rs → rs.length = cs.length ∧ ∀ (i:Nat) (r:RV),rs[i]? = some r → ∃ c,cs[i]? = some c ∧ c.rv = some r
  | [],rs,h=>by simp only [rvs,Option.some.injEq] at h;subst h;simp
  | c :: cs,rs,h=>by
    simp only [rvs] at h
    split at h
    · rename_i r0 rs0 h1 h2
      cases h
      obtain ⟨g1,g2⟩:=rvs_ok h2
      refine ⟨by simp [g1],fun i r hr=>?_⟩
      cases i with
      | zero=>simp at hr;subst hr;exact ⟨c,rfl,h1⟩
      | succ i=>simpa using g2 i r (by simpa using hr)
    · cases h

theorem lp_val {K:KS} {w:World} {n off:Nat} {x:Value} (h:Rep K w (.lp n off) x):x = .pointer (some ⟨K.blk n,off,none⟩):=by cases h;rfl
theorem ap_val {K:KS} {w:World} {n k i j:Nat} {x:Value} (h:Rep K w (.ap n k i j) x):x = .pointer (some ⟨K.blk n,i * k + j,none⟩):=by cases h;rfl

theorem ArvOk.of_arr {K:KS} {w:World} {n k:Nat} {E:TypeId} {rows:List (List RV)} (h:RepO K w n (.arr k E rows)) (hnl:K.nl n = false):ArvOk K w n k E (rows.map (List.map .d)):=by
  obtain ⟨g0,⟨e,_⟩ | ⟨gnl,g1,xs,g2,g3,g4,g5,g6,g7,g8,g9⟩⟩:=h
  · rw [hnl] at e;cases e
  · refine ⟨g0,gnl,g1,xs,g2,g3,by simpa using g4,g5,by simpa using g6,fun i r hr=>?_,fun i j r c x hr hc hx=>?_,g9⟩
    · rw [List.getElem?_map] at hr
      cases hp:rows[i]? with
      | none=>simp [hp] at hr
      | some r'=>simp only [hp,Option.map_some,Option.some.injEq] at hr;subst hr;simpa using g7 i r' hp
    · rw [List.getElem?_map] at hr
      cases hp:rows[i]? with
      | none=>simp [hp] at hr
      | some r' =>
        simp only [hp,Option.map_some,Option.some.injEq] at hr;subst hr
        rw [List.getElem?_map] at hc
        cases hq:r'[j]? with
        | none=>simp [hq] at hc
        | some c'=>simp only [hq,Option.map_some,Option.some.injEq] at hc;subst hc;exact .d (g8 i j r' c' x hp hq hx)
theorem ArvOk.to_arr {K:KS} {w:World} {n k:Nat} {E:TypeId} {rows:List (List RV)} (h:ArvOk K w n k E (rows.map (List.map .d))):RepO K w n (.arr k E rows):=by
  obtain ⟨g0,gnl,g1,xs,g2,g3,g4,g5,g6,g7,g8,g9⟩:=h
  refine ⟨g0,.inr ⟨gnl,g1,xs,g2,g3,by simpa using g4,g5,by simpa using g6,fun i r hr=>?_,fun i j r c x hr hc hx=>?_,g9⟩⟩
  · have:=g7 i (r.map .d) (by rw [List.getElem?_map,hr];rfl)
    simpa using this
  · have:=g8 i j (r.map .d) (.d c) x (by rw [List.getElem?_map,hr];rfl) (by rw [List.getElem?_map,hc];rfl) hx
    cases this with | d h=>exact h
theorem ArvOk.store {K:KS} {w:World} {n k i j:Nat} {E:TypeId} {rows:List (List AV)} {row vs:List AV} {ys:List Value} (h:ArvOk K w n k E rows) (hi:rows[i]? = some row) (hj:j + vs.length ≤ k) (hC:RepC K w vs ys) :
    ∃ xs:List Value,w.heap[K.blk n]? = some (.cells xs.toArray E (0,0)) ∧ i * k + k ≤ xs.length ∧ ArvOk K (w.setRow (K.blk n) (xs.take (i * k + j) ++ ys ++ xs.drop (i * k + j + ys.length)).toArray) n k E (rows.set i (row.take j ++ vs ++ row.drop (j + vs.length))):=by
  obtain ⟨g0,gnl,g1,xs,g2,g3,g4,g5,g6,g7,g8,g9⟩:=h
  have hlt:i < rows.length:=(List.getElem?_eq_some_iff.1 hi).1
  have hik:i * k + k ≤ xs.length:=by
    have:(i + 1) * k ≤ K.cap n * k:=Nat.mul_le_mul_right k (by omega)
    rw [Nat.add_mul] at this;omega
  have hrow:=g7 _ _ hi
  have hl:ys.length = vs.length:=hC.1.symm
  refine ⟨xs,g2,hik,?_⟩
  have hkp:Keep K.I w (w.setRow (K.blk n) (xs.take (i * k + j) ++ ys ++ xs.drop (i * k + j + ys.length)).toArray):=setRow_grow_keep g1
  have hnewrow:(row.take j ++ vs ++ row.drop (j + vs.length)).length = k:=by simp only [List.length_append,List.length_take,List.length_drop,hrow];omega
  refine ⟨g0,gnl,g1,xs.take (i * k + j) ++ ys ++ xs.drop (i * k + j + ys.length),setRow_heap w _ _ _ E (0,0) g2,by simp only [List.length_append,List.length_take,List.length_drop];omega,by simpa using g4,g5,by simpa using g6,fun m rr hm=>?_,fun m jj rr c y hm hc hy=>?_,fun y hy=>?_⟩
  · rw [List.getElem?_set] at hm
    split at hm
    · cases hm;exact hnewrow
    · exact g7 _ _ hm
  · have hmr:rr.length = k:=by
      rw [List.getElem?_set] at hm
      split at hm
      · cases hm;exact hnewrow
      · exact g7 _ _ hm
    have hjj:jj < k:=by rw [← hmr];exact (List.getElem?_eq_some_iff.1 hc).1
    have a2:(xs.take (i * k + j)).length = i * k + j:=by simp;omega
    simp only [List.append_assoc] at hy
    have old:∀ {y},(¬ (m = i ∧ j ≤ jj ∧ jj < j + vs.length)) → (xs.take (i * k + j) ++ (ys ++ xs.drop (i * k + j + ys.length)))[m * k + jj]? = some y → xs[m * k + jj]? = some y:=fun {y} hno hy=>by
      have hor:m * k + jj < i * k + j ∨ i * k + j + vs.length ≤ m * k + jj:=by
        rcases Nat.lt_trichotomy m i with hlt | heq | hgt
        · left
          have:(m + 1) * k ≤ i * k:=Nat.mul_le_mul_right k hlt
          rw [Nat.add_mul] at this;omega
        · subst heq;omega
        · right
          have:(i + 1) * k ≤ m * k:=Nat.mul_le_mul_right k hgt
          rw [Nat.add_mul] at this;omega
      rcases hor with ho | ho
      · rw [List.getElem?_append_left (by omega),List.getElem?_take,if_pos ho] at hy;exact hy
      · rw [List.getElem?_append_right (by omega),List.getElem?_append_right (by omega),List.getElem?_drop] at hy
        rw [← hy];congr 1;omega
    rw [List.getElem?_set] at hm
    split at hm
    · rename_i e
      subst e
      cases hm
      simp only [List.append_assoc] at hc
      have b1:(row.take j).length = j:=by simp;omega
      by_cases m1:jj < j
      · rw [List.getElem?_append_left (by omega),List.getElem?_take,if_pos m1] at hc
        exact (g8 _ _ _ _ _ hi hc (old (by omega) hy)).world hkp
      · rw [List.getElem?_append_right (by omega),b1] at hc
        by_cases m2:jj - j < vs.length
        · rw [List.getElem?_append_left (by omega)] at hc
          rw [List.getElem?_append_right (by omega),a2,List.getElem?_append_left (by omega)] at hy
          have e2:i * k + jj - (i * k + j) = jj - j:=by omega
          rw [e2] at hy
          exact (hC.2.1 _ _ _ hc hy).world hkp
        · rw [List.getElem?_append_right (by omega),List.getElem?_drop] at hc
          have e3:j + vs.length + (jj - j - vs.length) = jj:=by omega
          rw [e3] at hc
          exact (g8 _ _ _ _ _ hi hc (old (by omega) hy)).world hkp
    · rename_i e
      exact (g8 _ _ _ _ _ hm hc (old (fun h=>e h.1.symm) hy)).world hkp
  · simp only [List.mem_append] at hy
    rcases hy with (hy | hy) | hy
    · exact g9 _ (List.mem_of_mem_take hy)
    · exact hC.2.2 _ hy
    · exact g9 _ (List.mem_of_mem_drop hy)
theorem hrows_set (p:List (List RV)) (h h':List AV) (t:List (List RV)):(hrows p h t).set p.length h' = hrows p h' t:=by simp [hrows]
theorem map_set_hrows (rows:List (List RV)) (i:Nat) (h':List AV) (hi:i < rows.length):(rows.map (List.map AV.d)).set i h' = hrows (rows.take i) h' (rows.drop (i + 1)):=by
  rw [hrows,List.set_eq_take_append_cons_drop,if_pos (by simpa using hi),List.map_take,List.map_drop]

theorem store_okW (h:Std N r K a l act w) {t:TypeId} {p x:Operand} (ho:o.op = .store t p x) (hnd:o.dst = none) (hs:SEstore P r o.dst k a l t p x):∃ n,avName (opd a p).2 = some n ∧ o.wp P act w (PostW N B T0 r K l w n k) Q:=by
  have fin:∀ {w' n},(Instr.storeAt t (act.eval p) (act.eval x)).run P w = .ok () w' → PostW N B T0 r K l w n k act w' → o.wp P act w (PostW N B T0 r K l w n k) Q:=fun {w' n} h1 h2=>by
    refine wp_of_skip (w':=w') ?_ (by rw [hnd];exact h2)
    unfold execOp;rw [ho]
    simp only [Sem.run_bind,h1,Result.andThen,Sem.run_pure]
  unfold SEstore at hs
  split at hs
  · rename_i q n off vs z hp hvs hz
    split at hs
    · rename_i cs hn
      obtain ⟨hq,hx,hl,hfit,hk⟩:=hs
      have hpr:=h.op p
      unfold OpOk at hpr
      rw [hp] at hpr
      have hpr:=hpr hq
      have hC:=cellsAV_ok (h.op x hx) hvs
      have hO:=h.rs.obj n
      rw [hn] at hO
      obtain ⟨g1,xs,T,g2,g3,g4,g5⟩:=hO
      have hpe:act.eval p = .pointer (some ⟨K.blk n,off,none⟩):=lp_val hpr
      have hlen:(act.eval x).cells.toList.length = z:=by rw [← hC.1];exact hl
      refine ⟨n,by rw [hp];rfl,fin (by rw [hpe];exact run_storeAt hz rfl hlen hC.2.2 g2 (by omega)) (write_ok h (by rw [hn];trivial) (show AO.live K n (.box _) from trivial) ?_ hk)⟩
      have hkp:Keep K.I w (w.setRow (K.blk n) (xs.take off ++ (act.eval x).cells.toList ++ xs.drop (off + z)).toArray):=setRow_grow_keep g1
      refine ⟨g1,xs.take off ++ (act.eval x).cells.toList ++ xs.drop (off + z),T,setRow_heap w _ _ _ T (0,0) g2,by simp only [List.length_append,List.length_take,List.length_drop,hlen,hl];omega,fun i c y hc hy=>?_,fun y hy=>?_⟩
      · simp only [List.append_assoc] at hc hy
        have a1:(cs.take off).length = off:=by simp;omega
        have a2:(xs.take off).length = off:=by simp;omega
        by_cases m1:i < off
        · rw [List.getElem?_append_left (by omega),List.getElem?_take,if_pos m1] at hc hy
          exact (g4 _ _ _ hc hy).world hkp
        · rw [List.getElem?_append_right (by omega)] at hc hy
          rw [a1] at hc;rw [a2] at hy
          by_cases m2:i - off < z
          · rw [List.getElem?_append_left (by omega)] at hc hy
            exact (hC.2.1 _ _ _ hc hy).world hkp
          · rw [List.getElem?_append_right (by omega),List.getElem?_drop] at hc hy
            rw [hl] at hc;rw [hlen] at hy
            exact (g4 _ _ _ hc hy).world hkp
      · simp only [List.mem_append] at hy
        rcases hy with (hy | hy) | hy
        · exact g5 _ (List.mem_of_mem_take hy)
        · exact hC.2.2 _ hy
        · exact g5 _ (List.mem_of_mem_drop hy)
    · exact hs.elim
  · rename_i q n kk i j vs z hp hvs hz
    split at hs
    · rename_i k' E rows rs hn hrs
      obtain ⟨hq,hx,hkk,hl,hj,hi,hk⟩:=hs
      subst hkk
      have hpr:=h.op p
      unfold OpOk at hpr
      rw [hp] at hpr
      have hpr:=hpr hq
      have hC:=cellsAV_ok (h.op x hx) hvs
      obtain ⟨r1,r2⟩:=rvs_ok hrs
      have hO:=h.rs.obj n
      rw [hn] at hO
      obtain ⟨g0,⟨_,hr⟩ | ⟨gnl,g1,xs,g2,g3,g4,g5,g6,g7,g8,g9⟩⟩:=hO
      · subst hr;simp at hi
      have hpe:act.eval p = .pointer (some ⟨K.blk n,i * k' + j,none⟩):=ap_val hpr
      have hlen:(act.eval x).cells.toList.length = z:=by rw [← hC.1,← r1];exact hl
      have hik:i * k' + k' ≤ xs.length:=by
        have:(i + 1) * k' ≤ K.cap n * k':=Nat.mul_le_mul_right k' (by omega)
        rw [Nat.add_mul] at this;omega
      have hrow:=g7 _ _ (rowOf_get hi)
      refine ⟨n,by rw [hp];rfl,fin (by rw [hpe];exact run_storeAt hz rfl hlen hC.2.2 g2 (by omega)) (write_ok h (by rw [hn];exact gnl) (show AO.live K n (.arr _ _ _) from gnl) ?_ hk)⟩
      have hkp:Keep K.I w (w.setRow (K.blk n) (xs.take (i * k' + j) ++ (act.eval x).cells.toList ++ xs.drop (i * k' + j + z)).toArray):=setRow_grow_keep g1
      have hnewrow:((rowOf rows i).take j ++ rs ++ (rowOf rows i).drop (j + z)).length = k':=by simp only [List.length_append,List.length_take,List.length_drop,hrow,hl];omega
      refine ⟨g0,.inr ⟨gnl,g1,xs.take (i * k' + j) ++ (act.eval x).cells.toList ++ xs.drop (i * k' + j + z),setRow_heap w _ _ _ E (0,0) g2,by simp only [List.length_append,List.length_take,List.length_drop,hlen];omega,by simpa using g4,g5,by simpa using g6,fun m rr hm=>?_,fun m jj rr c y hm hc hy=>?_,fun y hy=>?_⟩⟩
      · rw [List.getElem?_set] at hm
        split at hm
        · cases hm;exact hnewrow
        · exact g7 _ _ hm
      · have hmr:rr.length = k':=by
          rw [List.getElem?_set] at hm
          split at hm
          · cases hm;exact hnewrow
          · exact g7 _ _ hm
        have hjj:jj < k':=by rw [← hmr];exact (List.getElem?_eq_some_iff.1 hc).1
        have a2:(xs.take (i * k' + j)).length = i * k' + j:=by simp;omega
        simp only [List.append_assoc] at hy
        have old:∀ {y},(¬ (m = i ∧ j ≤ jj ∧ jj < j + z)) → (xs.take (i * k' + j) ++ ((act.eval x).cells.toList ++ xs.drop (i * k' + j + z)))[m * k' + jj]? = some y → xs[m * k' + jj]? = some y:=fun {y} hno hy=>by
          have hor:m * k' + jj < i * k' + j ∨ i * k' + j + z ≤ m * k' + jj:=by
            rcases Nat.lt_trichotomy m i with hlt | heq | hgt
            · left
              have:(m + 1) * k' ≤ i * k':=Nat.mul_le_mul_right k' hlt
              rw [Nat.add_mul] at this;omega
            · subst heq;omega
            · right
              have:(i + 1) * k' ≤ m * k':=Nat.mul_le_mul_right k' hgt
              rw [Nat.add_mul] at this;omega
          rcases hor with ho | ho
          · rw [List.getElem?_append_left (by omega),List.getElem?_take,if_pos ho] at hy;exact hy
          · rw [List.getElem?_append_right (by omega),List.getElem?_append_right (by omega),List.getElem?_drop] at hy
            rw [← hy];congr 1;omega
        rw [List.getElem?_set] at hm
        split at hm
        · rename_i e
          subst e
          cases hm
          simp only [List.append_assoc] at hc
          have b1:((rowOf rows i).take j).length = j:=by simp;omega
          by_cases m1:jj < j
          · rw [List.getElem?_append_left (by omega),List.getElem?_take,if_pos m1] at hc
            exact (g8 _ _ _ _ _ (rowOf_get hi) hc (old (by omega) hy)).up (fun _ h=>h) hkp
          · rw [List.getElem?_append_right (by omega),b1] at hc
            by_cases m2:jj - j < z
            · rw [List.getElem?_append_left (by omega)] at hc
              obtain ⟨c',hc1,hc2⟩:=r2 _ _ hc
              rw [List.getElem?_append_right (by omega),a2,List.getElem?_append_left (by omega)] at hy
              have e2:i * k' + jj - (i * k' + j) = jj - j:=by omega
              rw [e2] at hy
              exact (rv_ok (I:=K.I) (hC.2.1 _ _ _ hc1 hy) hc2).up (fun _ h=>h) hkp
            · rw [List.getElem?_append_right (by omega),List.getElem?_drop,hl] at hc
              have e3:j + z + (jj - j - z) = jj:=by omega
              rw [e3] at hc
              exact (g8 _ _ _ _ _ (rowOf_get hi) hc (old (by omega) hy)).up (fun _ h=>h) hkp
        · rename_i e
          exact (g8 _ _ _ _ _ hm hc (old (fun h=>e h.1.symm) hy)).up (fun _ h=>h) hkp
      · simp only [List.mem_append] at hy
        rcases hy with (hy | hy) | hy
        · exact g9 _ (List.mem_of_mem_take hy)
        · exact hC.2.2 _ hy
        · exact g9 _ (List.mem_of_mem_drop hy)
    · rename_i k' E rows hn hrs
      obtain ⟨hq,hx,hkk,hl,hj,hi,hk⟩:=hs
      subst hkk
      have hpr:=h.op p
      unfold OpOk at hpr
      rw [hp] at hpr
      have hpr:=hpr hq
      have hC:=cellsAV_ok (h.op x hx) hvs
      have hO:=h.rs.obj n
      rw [hn] at hO
      have gnl:K.nl n = false:=by
        obtain ⟨g0,⟨_,hr⟩ | ⟨gnl,_⟩⟩:=hO
        · subst hr;simp at hi
        · exact gnl
      have hpe:act.eval p = .pointer (some ⟨K.blk n,i * k' + j,none⟩):=ap_val hpr
      have hlen:(act.eval x).cells.toList.length = z:=by rw [← hC.1];exact hl
      obtain ⟨xs,g2,hik,hA⟩:=(ArvOk.of_arr hO gnl).store (i:=i) (j:=j) (row:=(rowOf rows i).map AV.d) (by rw [List.getElem?_map,rowOf_get hi];rfl) (by omega) hC
      rw [hlen,hl,map_set_hrows _ _ _ hi] at hA
      exact ⟨n,by rw [hp];rfl,fin (by rw [hpe];exact run_storeAt hz rfl hlen hC.2.2 g2 (by omega)) (write_ok h (by rw [hn];exact gnl) (show AO.live K n (.arh _ _ _ _ _) from trivial) hA hk)⟩
    · rename_i k' E pp hh tt hn
      obtain ⟨hq,hx,hkk,hl,hj,hi,hk⟩:=hs
      subst hkk;subst hi
      have hpr:=h.op p
      unfold OpOk at hpr
      rw [hp] at hpr
      have hpr:=hpr hq
      have hC:=cellsAV_ok (h.op x hx) hvs
      have hO:=h.rs.obj n
      rw [hn] at hO
      have hpe:act.eval p = .pointer (some ⟨K.blk n,pp.length * k' + j,none⟩):=ap_val hpr
      have hlen:(act.eval x).cells.toList.length = z:=by rw [← hC.1];exact hl
      obtain ⟨xs,g2,hik,hA⟩:=ArvOk.store (i:=pp.length) (j:=j) (row:=hh) hO (hrows_at _ _ _) (by omega) hC
      rw [hlen,hl,hrows_set] at hA
      exact ⟨n,by rw [hp];rfl,fin (by rw [hpe];exact run_storeAt hz rfl hlen hC.2.2 g2 (by omega)) (write_ok h (by rw [hn];trivial) (show AO.live K n (.arh _ _ _ _ _) from trivial) hA hk)⟩
    · exact hs.elim
  · exact hs.elim

theorem store_ok (h:Std N r K a l act w) {t:TypeId} {p x:Operand} (ho:o.op = .store t p x) (hnd:o.dst = none) (hs:SEstore P r o.dst k a l t p x):o.wp P act w (Post N B T0 r K l w k) Q:=by
  obtain ⟨n,_,h2⟩:=store_okW (B:=B) (T0:=T0) (Q:=Q) h ho hnd hs
  exact Oper.wp_mono (fun act' w' hP=>hP.post) h2
end
end Go.Proofs.Ytikgiadbkjmabaa

/- What operations that make memory or write do to the store: as said (3): append. No program in sight. -/
namespace Go.Proofs.Ytikgiadbkjmabaa
open Go.RowKit
set_option linter.unusedSimpArgs false
set_option linter.unusedVariables false

inductive SrcOk (P:Program) (k:Nat) (u:TypeId) (z:List Value) (w:World):Value → Nat → List Value → Prop
  | cells {x:Value} {m:Nat} {news:List Value} {d:TypeDesc}:P.underlying u = some d → ((∃ e,d = .slice e) ∨ d = .string) → (∀ w',(Builtin.lenOf x).run P w' = .ok m w') →
      (∀ w':World,w'.heap = w.heap → (Builtin.firstCells k m x).run P w' = .ok news.toArray w') → SrcOk P k u z w x m news
  | zeros {m:Nat}:P.underlying u = some (.int .i64) → m ≤ 2 ^ 47 → SrcOk P k u z w (.int .i64 m) m (Builtin.zeroCells z.toArray m).toList

section
variable {P:Program} {t u E ty:TypeId} {k by_ m:Nat} {z news:List Value} {x:Value} {w:World}

theorem info_of (hk:tsz P E = some k) (hb:tby P E = some by_) (hz:tzero P E = some z):∃ i v,P.info? E = some i ∧ i.size = k ∧ i.bytes = by_ ∧ i.zero = some v ∧ v.cells = z.toArray:=by
  unfold tsz at hk;unfold tby at hb;unfold tzero at hz
  cases hi:P.info? E with
  | none=>simp [hi] at hk
  | some i =>
    simp only [hi,Option.map_some,Option.some.injEq,Option.bind_some] at hk hb hz
    obtain ⟨v,hv,hz⟩:=Option.bind_eq_some_iff.1 hz
    refine ⟨i,v,rfl,hk,hb,hv,?_⟩
    cases hc:v.cells.toList.all (·.oneCell')
    · rw [hc] at hz;cases hz
    · rw [hc] at hz;simp at hz;subst hz;simp

set_option maxHeartbeats 1000000 in
theorem run_app_nothing {base:Option Addr} (ht:tel P t = some E) (hk:tsz P E = some k) (hb:tby P E = some by_) (hz:tzero P E = some z) (hs:SrcOk P k u z w x 0 news) (hn:news = []) :
    (Builtin.append_ #[t,u] ty #[.slice base 0 0,x]).run P w = .ok (.slice base 0 0) w:=by
  obtain ⟨i,v,hi,h1,h2,h3,h4⟩:=info_of hk hb hz
  have hu:=run_underlying_el ht
  cases hs with
  | cells a1 a2 a3 a4 =>
    rename_i d
    have hf:=a4 w rfl
    obtain ⟨e,rfl⟩ | rfl:=a2<;>cases base<;>simp [Builtin.append_,run_underlying hu,run_underlying a1,run_sizeOf' hk,a3,hf,hn,storeCells]
  | zeros a1 a2 =>
    cases base<;>simp [Builtin.append_,run_underlying hu,run_underlying a1,run_sizeOf' hk,asInt,asIntOf,typeInfo,hi,storeCells,IntKind.wrap_i64]

set_option maxHeartbeats 1000000 in
theorem run_app_room {g sLen sCap:Nat} {cur:List Value} (ht:tel P t = some E) (hk:tsz P E = some k) (hb:tby P E = some by_) (hz:tzero P E = some z) (hzl:z.length = k) (hs:SrcOk P k u z w x m news) (hl:news.length = m * k) (h1:∀ y ∈ news,y.oneCell' = true)
    (hby:m * by_ ≤ 2 ^ 47) (hg:w.heap[g]? = some (.cells cur.toArray E (0,0))) (hroom:sLen + m ≤ sCap) (hfit:sLen * k + news.length ≤ cur.length) :
    (Builtin.append_ #[t,u] ty #[.slice (some ⟨g,0,none⟩) sLen sCap,x]).run P w = .ok (.slice (some ⟨g,0,none⟩) (sLen + m) sCap) (w.setRow g (cur.take (sLen * k) ++ news ++ cur.drop (sLen * k + news.length)).toArray):=by
  obtain ⟨i,v,hi,e1,e2,e3,e4⟩:=info_of hk hb hz
  have hu:=run_underlying_el ht
  have hst:=run_storeCells_at P g (sLen * k) E news 0 cur.toArray w hg (by simpa using hfit) h1
  simp only [Nat.add_zero] at hst
  cases hs with
  | cells a1 a2 a3 a4 =>
    rename_i d
    have hf:=a4 w rfl
    obtain ⟨e,rfl⟩ | rfl:=a2<;>simp [Builtin.append_,run_underlying hu,run_underlying a1,run_sizeOf' hk,a3,hf,hroom,addr_add,hst]
  | zeros a1 a2 =>
    have w1:IntKind.i64.wrap (m:Int) = m:=by rw [IntKind.wrap_i64];omega
    have m0:¬ ((m:Int) < 0):=by omega
    have w2:¬ (281474976710656 < (m:Int) * (i.bytes:Int)):=by
      rw [e2]
      have:((m * by_:Nat):Int) ≤ 140737488355328:=by omega
      rw [Int.natCast_mul] at this;omega
    by_cases hm:m * k = 0
    · have hn:(Builtin.zeroCells z.toArray m) = #[]:=by simp [Builtin.zeroCells,hzl,hm]
      simp [hn] at hst
      simp [Builtin.append_,run_underlying hu,run_underlying a1,run_sizeOf' hk,asInt,asIntOf,typeInfo,hi,w1,w2,m0,hroom,hm,addr_add,hn,hst]
    · simp [Builtin.append_,run_underlying hu,run_underlying a1,run_sizeOf' hk,asInt,asIntOf,typeInfo,hi,w1,w2,m0,hroom,hm,addr_add,zeroValue,e3,e4,hst]

set_option maxHeartbeats 1000000 in
theorem run_app_grow {base:Option Addr} {sLen sCap:Nat} {olds:List Value} (ht:tel P t = some E) (hk:tsz P E = some k) (hb:tby P E = some by_) (hz:tzero P E = some z) (hzl:z.length = k) (hs:SrcOk P k u z w x m news)
    (hold:∀ w':World,w'.heap = w.heap → (Builtin.firstCells k sLen (.slice base sLen sCap)).run P w' = .ok olds.toArray w') (hby:(sLen + m) * by_ ≤ 2 ^ 47) (hle:sLen + m ≤ 2 ^ 47) (hno:sCap < sLen + m) :
    (Builtin.append_ #[t,u] ty #[.slice base sLen sCap,x]).run P w = .ok (.slice (some ⟨w.heap.size,0,none⟩) (sLen + m) (grownCap w (sLen + m) sCap E)) (w.drew.alloc (.cells (olds.toArray ++ news.toArray ++ Builtin.zeroCells z.toArray (grownCap w (sLen + m) sCap E - (sLen + m))) E)):=by
  obtain ⟨i,v,hi,e1,e2,e3,e4⟩:=info_of hk hb hz
  have hu:=run_underlying_el ht
  have hno':¬ (sLen + m ≤ sCap):=by omega
  have h63:¬ (9223372036854775807 < ((sLen:Int) + (m:Int))):=by omega
  have h48:¬ (281474976710656 < Builtin.nextslicecap (sLen + m) sCap * i.bytes):=by
    rw [e2]
    have:=growslice_fits (bytes:=by_) hno (by simpa using hby)
    omega
  have ho:=hold w.drew rfl
  have hmb:m * by_ ≤ 2 ^ 47:=by
    have:m * by_ ≤ (sLen + m) * by_:=Nat.mul_le_mul_right _ (by omega)
    omega
  cases hs with
  | cells a1 a2 a3 a4 =>
    rename_i d
    have hf:=a4 w.drew rfl
    obtain ⟨e,rfl⟩ | rfl:=a2<;>simp [Builtin.append_,run_underlying hu,run_underlying a1,run_sizeOf' hk,a3,hno',h63,h48,typeInfo,hi,zeroValue,e3,e4,Question.forced,ho,hf,newRow,grownCap]<;>exact congrArg (fun c=>w.drew.alloc (.cells c E)) (Array.toList_inj.1 (by simp))
  | zeros a1 a2 =>
    have w1:IntKind.i64.wrap (m:Int) = m:=by rw [IntKind.wrap_i64];omega
    have m0:¬ ((m:Int) < 0):=by omega
    have w2:¬ (281474976710656 < (m:Int) * (i.bytes:Int)):=by
      rw [e2]
      have:((m * by_:Nat):Int) ≤ 140737488355328:=by omega
      rw [Int.natCast_mul] at this;omega
    by_cases hm:m * k = 0
    · have hn:(Builtin.zeroCells z.toArray m) = #[]:=by simp [Builtin.zeroCells,hzl,hm]
      simp [Builtin.append_,run_underlying hu,run_underlying a1,run_sizeOf' hk,asInt,asIntOf,typeInfo,hi,w1,w2,m0,hno',h63,h48,hm,hn,zeroValue,e3,e4,Question.forced,ho,newRow,grownCap]
    · simp [Builtin.append_,run_underlying hu,run_underlying a1,run_sizeOf' hk,asInt,asIntOf,typeInfo,hi,w1,w2,m0,hno',h63,h48,hm,zeroValue,e3,e4,Question.forced,ho,newRow,grownCap]
end
end Go.Proofs.Ytikgiadbkjmabaa

/- What operations that make memory or write do to the store: as said (4): append,slices written out,make. No program in sight. -/
namespace Go.Proofs.Ytikgiadbkjmabaa
open Go.RowKit
set_option linter.unusedSimpArgs false
set_option linter.unusedVariables false

theorem cell_heap {w w':World} (h:w'.heap = w.heap) (a:Addr):w'.cell? a = w.cell? a:=by simp [World.cell?,h]

def CellsOk (I:Nat → Prop) (w:World) (k:Nat) (rows:List (List RV)) (cells:List Value):Prop :=
  cells.length = rows.length * k ∧ (∀ (i j:Nat) (r:List RV) (c:RV) (y:Value),rows[i]? = some r → r[j]? = some c → cells[i * k + j]? = some y → RRep I w c y) ∧ ∀ y ∈ cells,y.oneCell' = true

theorem firstCells_zero {P:Program} {w:World} {k:Nat} (a:Option Addr) (n c:Nat):(Builtin.firstCells k 0 (.slice a n c)).run P w = .ok ([]:List Value).toArray w:=by
  cases a<;>simp [Builtin.firstCells,loadCells,loadCellsFrom]

theorem divmod_row {k i j:Nat} (h:j < k):(i * k + j) / k = i ∧ (i * k + j) % k = j:=by
  have hk:0 < k:=by omega
  constructor
  · rw [Nat.mul_comm,Nat.mul_add_div hk,Nat.div_eq_of_lt h];omega
  · rw [Nat.mul_comm,Nat.mul_add_mod,Nat.mod_eq_of_lt h]

theorem slice_cells {P:Program} {I:Nat → Prop} {w:World} {k:Nat} {u:TypeId} {z:List Value} {rows:List (List RV)} {x:Value} (hu:∃ e,P.underlying u = some (.slice e)) (h:RRep I w (.ro rows) x) (hr:∀ row ∈ rows,row.length = k) :
    ∃ cells,SrcOk P k u z w x rows.length cells ∧ CellsOk I w k rows cells:=by
  obtain ⟨e,hu⟩:=hu
  cases h with
  | nil=>exact ⟨[],.cells hu (.inl ⟨e,rfl⟩) (fun w'=>by simp [Builtin.lenOf]) (fun w' _=>firstCells_zero _ _ _),by simp,fun i j r c y hr=>by simp at hr,by simp⟩
  | ro g1 g2 g3 g4 g5 g6 g7 g8 =>
    rename_i b o cap k' f
    have hkk:k' = k:=by
      cases rows with
      | nil=>exact absurd rfl g1
      | cons r rows=>rw [← g6 0 r rfl];exact hr r (by simp)
    subst hkk
    have hc:∀ p,p < rows.length * k' → ∃ i j r c,p = i * k' + j ∧ rows[i]? = some r ∧ r[j]? = some c ∧ w.cell? ⟨b,o + p,none⟩ = some (f i j):=fun p hp=>by
      have hd:p / k' < rows.length:=(Nat.div_lt_iff_lt_mul g5).2 hp
      have hm:p % k' < k':=Nat.mod_lt _ g5
      have hrow:=rowOf_get hd
      have hlen:=g6 _ _ hrow
      have hcj:(rowOf rows (p / k'))[p % k']? = some ((rowOf rows (p / k'))[p % k']'(by omega)):=List.getElem?_eq_getElem _
      have e:p / k' * k' + p % k' = p:=by rw [Nat.mul_comm];exact Nat.div_add_mod p k'
      refine ⟨p / k',p % k',_,_,e.symm,hrow,hcj,?_⟩
      have:=g7 _ _ _ _ hrow hcj
      rw [e] at this;exact this
    refine ⟨(List.range (rows.length * k')).map fun p=>(w.cell? ⟨b,o + p,none⟩).getD undef,.cells hu (.inl ⟨e,rfl⟩) (fun w'=>by simp [Builtin.lenOf]) (fun w' hw=>?_),by simp,fun i j r c y hri hcj hy=>?_,fun y hy=>?_⟩
    · refine run_firstCells_some w' k' rows.length _ _ _ _ (by simp) (fun j v hj=>?_)
      simp only [List.getElem?_map] at hj
      cases hz:(List.range (rows.length * k'))[j]? with
      | none=>simp [hz] at hj
      | some p =>
        obtain ⟨hp1,hp2⟩:=List.getElem?_eq_some_iff.1 hz
        simp at hp1 hp2
        subst hp2
        obtain ⟨i,j',r,c,he,_,_,hcell⟩:=hc j hp1
        simp [hz,hcell] at hj
        rw [addr_add,cell_heap hw,hcell,hj]
    · have hj:j < k':=by rw [← g6 i r hri];exact (List.getElem?_eq_some_iff.1 hcj).1
      have hi:i < rows.length:=(List.getElem?_eq_some_iff.1 hri).1
      have hlt:i * k' + j < rows.length * k':=by
        have:(i + 1) * k' ≤ rows.length * k':=Nat.mul_le_mul_right k' hi
        rw [Nat.add_mul] at this;omega
      have hcell:=g7 _ _ _ _ hri hcj
      simp [List.getElem?_range hlt,hcell] at hy
      subst hy
      exact g8 _ _ _ _ hri hcj
    · simp only [List.mem_map,List.mem_range] at hy
      obtain ⟨p,hp,rfl⟩:=hy
      obtain ⟨i,j,r,c,he,hri,hcj,hcell⟩:=hc p hp
      rw [hcell]
      exact (g8 _ _ _ _ hri hcj).one

theorem nrm_ok {I:Nat → Prop} {w:World} {y:Value} (h:y.oneCell' = true):RRep I w (RV.v y).nrm y:=by
  unfold RV.nrm
  split
  · rename_i e;cases e;exact .nil
  · exact .v h

theorem src_ok {P:Program} {K:KS} {σ:Sto} {w:World} {k:Nat} {u:TypeId} {z:List Value} {v:AV} {x:Value} {q:Prop} {news:List (List RV)} (hS:RepS K σ w) (h:Rep K w v x) (hzl:z.length = k) (hk0:0 < k) (hz1:∀ y ∈ z,y.oneCell' = true)
    (he:srcV P σ u (z.map fun x=>(RV.v x).nrm) v = some (q,news)) (hq:q) (hr:∀ row ∈ news,row.length = k) :
    ∃ cells,SrcOk P k u z w x news.length cells ∧ CellsOk K.I w k news cells:=by
  have sl:∀ {e},tel P u = some e → ∃ e,P.underlying u = some (.slice e):=fun h=>⟨_,run_underlying_el h⟩
  have empty:∀ {e},tel P u = some e → ∀ a n c,n = 0 → ∃ cells,SrcOk P k u z w (.slice a n c) ([]:List (List RV)).length cells ∧ CellsOk K.I w k [] cells:=fun h a n c hn=>by
    subst hn
    exact ⟨[],.cells (run_underlying_el h) (.inl ⟨_,rfl⟩) (fun w'=>by simp [Builtin.lenOf]) (fun w' _=>firstCells_zero _ _ _),by simp,fun i j r c y hr=>by simp at hr,by simp⟩
  unfold srcV at he
  split at he
  · simp only [Option.map_eq_some_iff,Prod.mk.injEq] at he
    obtain ⟨e,he,rfl,rfl⟩:=he
    cases h with | d h=>exact slice_cells (sl he) h hr
  · simp only [Option.map_eq_some_iff,Prod.mk.injEq] at he
    obtain ⟨e,he,rfl,rfl⟩:=he
    cases h
    exact empty he _ _ _ rfl
  · rename_i n len
    split at he
    · rename_i e k' E rows he' hn
      cases he
      have hO:=hS.obj n
      rw [hn] at hO
      cases h with | os =>
      obtain ⟨z0,⟨hnl,hrr⟩ | ⟨hnl,z1,xs,z2,z3,z4,z5,z6,z7,z8,z9⟩⟩:=hO
      · subst hrr
        have:len = 0:=by simpa using hq
        subst this
        simp only [KS.sl,hnl,cond_true,List.take_nil]
        exact empty he' _ _ _ rfl
      · simp only [KS.sl,hnl,cond_false]
        have hlen:(rows.take len).length = len:=by simp;omega
        by_cases hl0:len = 0
        · subst hl0
          simp only [List.take_zero]
          exact empty he' _ _ _ rfl
        have hkk:k' = k:=by
          have hrow:(rows.take len)[0]? = some (rowOf rows 0):=by rw [List.getElem?_take,if_pos (by omega)];exact rowOf_get (by omega)
          rw [← z7 0 _ (sub_rows hrow)];exact hr _ (List.mem_of_getElem? hrow)
        subst hkk
        have hfit:len * k' ≤ xs.length:=by rw [z3];exact Nat.mul_le_mul_right k' (by omega)
        rw [hlen]
        refine ⟨xs.take (len * k'),.cells (run_underlying_el he') (.inl ⟨_,rfl⟩) (fun w'=>by simp [Builtin.lenOf]) (fun w' hw=>?_),by rw [hlen,List.length_take];omega,fun i j r c y hri hcj hy=>?_,fun y hy=>z9 y (List.mem_of_mem_take hy)⟩
        · refine run_firstCells_some w' k' len _ _ _ _ (by rw [List.length_take];omega) (fun j v hj=>?_)
          rw [addr_add,cell_heap hw,Nat.zero_add,cells_at z2]
          rw [List.getElem?_take] at hj
          split at hj
          · exact hj
          · cases hj
        · rw [List.getElem?_take] at hy
          split at hy
          · exact z8 _ _ _ _ _ (sub_rows hri) hcj hy
          · cases hy
    · cases he
  · rename_i y0
    split at he
    · simp only [Option.map_eq_some_iff,Prod.mk.injEq] at he
      obtain ⟨e,he,rfl,rfl⟩:=he
      cases h with | d h=>cases h with | v h=>exact empty he _ _ _ rfl
    · rename_i s
      split at he
      · rename_i hst
        cases he
        cases h with | d h=>cases h with | v h =>
        have hk1:s.data.toList.length = s.data.toList.length * k:=by
          by_cases h0:s.data.toList = []
          · simp [h0]
          · obtain ⟨b,l,hb⟩:=List.exists_cons_of_ne_nil h0
            have:k = 1:=by
              have:=hr [.v (.int .u8 b.toNat)] (by rw [hb];simp)
              simpa using this.symm
            rw [this];omega
        refine ⟨s.data.toList.map fun b=>.int .u8 b.toNat,.cells (tstr_u hst) (.inr rfl) (fun w'=>by simp [Builtin.lenOf]) (fun w' _=>?_),by simpa using hk1,fun i j r c y hri hcj hy=>?_,fun y hy=>by simp only [List.mem_map] at hy;obtain ⟨b,_,rfl⟩:=hy;rfl⟩
        · have e1:s.extract 0 s.size = s:=by
            apply ByteArray.ext;simp
          have e2:(s.data.toList.map fun b=>([.v (.int .u8 b.toNat)]:List RV)).length = s.size:=by simp
          rw [e2]
          simp [Builtin.firstCells,e1]
          apply Array.toList_inj.1;simp
        · simp only [List.getElem?_map] at hri
          cases hb:s.data.toList[i]? with
          | none=>simp [hb] at hri
          | some b =>
            simp [hb] at hri
            subst hri
            have hj0:j = 0:=by
              rcases j with _ | j
              · rfl
              · simp at hcj
            subst hj0
            have hk1':k = 1:=by
              have:=hr [.v (.int .u8 b.toNat)] (by simp only [List.mem_map];exact ⟨b,List.mem_of_getElem? hb,rfl⟩)
              simpa using this.symm
            simp at hcj
            subst hcj
            subst hk1'
            simp only [Nat.mul_one,Nat.add_zero,List.getElem?_map,hb,Option.map_some,Option.some.injEq] at hy
            subst hy
            exact .v rfl
      · cases he
    · rename_i n
      split at he
      · rename_i hti
        cases he
        obtain ⟨h0,h1⟩:=hq
        cases h with | d h=>cases h with | v h =>
        have hn:n = (n.toNat:Int):=by omega
        have hzr:∀ i r,(List.replicate n.toNat (z.map fun x=>(RV.v x).nrm))[i]? = some r → i < n.toNat ∧ r = z.map fun x=>(RV.v x).nrm:=fun i r hi=>by
          have:=List.getElem?_eq_some_iff.1 hi
          obtain ⟨h1,h2⟩:=this
          simp at h1 h2
          exact ⟨by omega,h2.symm⟩
        have hlen:(List.replicate n.toNat (z.map fun x=>(RV.v x).nrm)).length = n.toNat:=by simp
        have hel:∀ p,p < n.toNat * k → (Builtin.zeroCells z.toArray n.toNat).toList[p]? = z[p % k]?:=fun p hp=>by
          have hpk:p % z.length < z.length:=by rw [hzl];exact Nat.mod_lt _ hk0
          subst hzl
          simp [Builtin.zeroCells,hp,List.getElem?_range,hpk]
        refine ⟨(Builtin.zeroCells z.toArray n.toNat).toList,?_,?_,fun i j r c y hri hcj hy=>?_,fun y hy=>?_⟩
        · rw [hlen];rw [hn];exact .zeros (tint_u hti) (by omega)
        · rw [hlen];simp [Builtin.zeroCells,hzl]
        · obtain ⟨hi,rfl⟩:=hzr i r hri
          simp only [List.getElem?_map] at hcj
          cases hb:z[j]? with
          | none=>simp [hb] at hcj
          | some b =>
            simp [hb] at hcj
            subst hcj
            have hj:j < k:=by rw [← hzl];exact (List.getElem?_eq_some_iff.1 hb).1
            have hlt:i * k + j < n.toNat * k:=by
              have:(i + 1) * k ≤ n.toNat * k:=Nat.mul_le_mul_right k hi
              rw [Nat.add_mul] at this;omega
            rw [hel _ hlt,(divmod_row hj).2,hb] at hy
            cases hy
            exact nrm_ok (hz1 _ (List.mem_of_getElem? hb))
        · obtain ⟨p,hp⟩:=List.mem_iff_getElem?.1 hy
          have hlt:p < n.toNat * k:=by
            have:=(List.getElem?_eq_some_iff.1 hp).1
            simpa [Builtin.zeroCells,hzl] using this
          rw [hel _ hlt] at hp
          exact hz1 _ (List.mem_of_getElem? hp)
      · cases he
    · cases he
  · cases he
end Go.Proofs.Ytikgiadbkjmabaa

/- What operations that make memory or write do to the store: as said (5): append. No program in sight. -/
namespace Go.Proofs.Ytikgiadbkjmabaa
open Go.RowKit
set_option linter.unusedSimpArgs false
set_option linter.unusedVariables false

section
variable {P:Program} {N B:Nat} {T0:List Nat} {r:Sto} {K:KS} {k:Fr → Loc → Prop} {a:Fr} {l:Loc} {act:Act} {w:World} {o:Oper} {Q:Exit → Act → World → Prop}

theorem bindArr_ok (h:Std N r K a l act w) {dd nm:Nat} (hdd:dd < N) {K':KS} {w':World} {obj:AO} {total:Nat} (hnm:B ≤ nm ∨ nm ∈ T0) (hkl:∀ m,(r m).kill nm = r m) (hI:K'.I = K.I) (hs:∀ m,m ≠ nm → K.same K' m) (hkp:Keep K.I w w')
    (hb:∀ m,m ≠ nm → (sto l r m).live K m → w'.heap[K.blk m]? = w.heap[K.blk m]?) (hO:RepO K' w' nm obj) (hne:∀ m,m ≠ nm → (sto l r m).live K m → obj.live K' nm → K'.blk nm ≠ K.blk m)
    (hor:obj.live K' nm → w.heap.size ≤ K'.blk nm ∨ ∃ n,(sto l r n).live K n ∧ K.blk n = K'.blk nm) (hk:k ((dd,.os nm total) :: newF nm a) (newL nm obj l)):Post N B T0 r K l w k (act.put (some dd) (K'.sl nm total)) w':=by
  have hσ:∀ m,sto (newL nm obj l) r m = if m = nm then obj else (sto l r m).kill nm:=fun m=>sto_newL _ _ _ _ hkl m
  refine ⟨K',_,_,⟨fun m hm hT=>hs m (fun e=>hnm.elim (by omega) (fun h=>hT (e ▸ h))),fun b hb=>by rw [hI];exact hb,hkp,fun b hb=>?_⟩,⟨?_,?_,by simp [Act.put,h.sz],by simp [Act.put,h.df]⟩,hk⟩
  · rcases hb with hb | ⟨n,hl,rfl⟩
    · rw [hI] at hb;exact .inl hb
    · by_cases hn:n = nm
      · subst hn
        rw [hσ,if_pos rfl] at hl
        exact .inr (hor hl)
      · rw [hσ,if_neg hn,AO.kill_live,live_same (hs n hn)] at hl
        exact .inr (.inr ⟨n,hl,(hs n hn).1.symm⟩)
  · exact h.rs.bind (fun b=>by rw [hI]) hkp hs hb hO hne hσ
  · exact RepF.put (h.rf.kill (fun b hb=>by rw [hI];exact hb) hkp hs) dd (by rw [h.sz];exact hdd) .os

theorem cells_append {I:Nat → Prop} {w:World} {kk:Nat} {rows news:List (List RV)} {c1 c2 rest:List Value} (h1:CellsOk I w kk rows c1) (h2:CellsOk I w kk news c2) (hrow:∀ r ∈ rows,r.length = kk) (hnew:∀ r ∈ news,r.length = kk) :
    ∀ (i j:Nat) (r:List RV) (c:RV) (x:Value),(rows ++ news)[i]? = some r → r[j]? = some c → (c1 ++ c2 ++ rest)[i * kk + j]? = some x → RRep I w c x:=by
  intro i j r c x hr hc hx
  obtain ⟨a1,a2,_⟩:=h1
  obtain ⟨b1,b2,_⟩:=h2
  have hkr:r.length = kk:=by
    have:=List.mem_of_getElem? hr
    rcases List.mem_append.1 this with hm | hm
    · exact hrow r hm
    · exact hnew r hm
  have hj:j < kk:=by rw [← hkr];exact (List.getElem?_eq_some_iff.1 hc).1
  have bd:∀ n i:Nat,i < n → i * kk + j < n * kk:=fun n i hi=>by
    have:(i + 1) * kk ≤ n * kk:=Nat.mul_le_mul_right kk hi
    rw [Nat.add_mul] at this;omega
  rw [List.append_assoc] at hx
  by_cases hi:i < rows.length
  · rw [List.getElem?_append_left hi] at hr
    rw [List.getElem?_append_left (by rw [a1];exact bd _ _ hi)] at hx
    exact a2 _ _ _ _ _ hr hc hx
  · have hge:rows.length * kk ≤ i * kk:=Nat.mul_le_mul_right kk (by omega)
    rw [List.getElem?_append_right (by omega)] at hr
    have hi2:i - rows.length < news.length:=(List.getElem?_eq_some_iff.1 hr).1
    have e:i * kk + j - c1.length = (i - rows.length) * kk + j:=by rw [a1,Nat.sub_mul];omega
    rw [List.getElem?_append_right (by rw [a1];omega),e,List.getElem?_append_left (by rw [b1];exact bd _ _ hi2)] at hx
    exact b2 _ _ _ _ _ hr hc hx

theorem CellsOk.up {I:Nat → Prop} {w w':World} {kk:Nat} {rows:List (List RV)} {c:List Value} (h:CellsOk I w kk rows c) (hk:Keep I w w'):CellsOk I w' kk rows c :=
  ⟨h.1,fun i j r c y h1 h2 h3=>(h.2.1 i j r c y h1 h2 h3).up (fun _ h=>h) hk,h.2.2⟩

theorem one_zero {z:List Value} {n:Nat} (hz:∀ y ∈ z,y.oneCell' = true):∀ y ∈ (Builtin.zeroCells z.toArray n).toList,y.oneCell' = true:=by
  intro y hy
  simp only [Builtin.zeroCells,Array.toList_map,List.mem_map,Array.toList_range,List.mem_range,List.size_toArray] at hy
  obtain ⟨i,hi,rfl⟩:=hy
  by_cases h0:z.length = 0
  · rw [h0] at hi;simp at hi
  · have:i % z.length < z.length:=Nat.mod_lt _ (by omega)
    have e:z.toArray[i % z.length]! = z[i % z.length]:=by simp [this]
    rw [e];exact hz _ (List.getElem_mem this)

def CellsOkA (K:KS) (w:World) (k:Nat) (rows:List (List AV)) (cells:List Value):Prop :=
  cells.length = rows.length * k ∧ (∀ (i j:Nat) (r:List AV) (c:AV) (y:Value),rows[i]? = some r → r[j]? = some c → cells[i * k + j]? = some y → Rep K w c y) ∧ ∀ y ∈ cells,y.oneCell' = true
theorem CellsOk.toA {K:KS} {w:World} {k:Nat} {rows:List (List RV)} {cells:List Value} (h:CellsOk K.I w k rows cells):CellsOkA K w k (rows.map (List.map .d)) cells:=by
  refine ⟨by simpa using h.1,fun i j r c y hr hc hy=>?_,h.2.2⟩
  rw [List.getElem?_map] at hr
  cases hp:rows[i]? with
  | none=>simp [hp] at hr
  | some r' =>
    simp only [hp,Option.map_some,Option.some.injEq] at hr;subst hr
    rw [List.getElem?_map] at hc
    cases hq:r'[j]? with
    | none=>simp [hq] at hc
    | some c'=>simp only [hq,Option.map_some,Option.some.injEq] at hc;subst hc;exact .d (h.2.1 i j r' c' y hp hq hy)
theorem CellsOkA.kill {K K':KS} {w w':World} {n k:Nat} {rows:List (List AV)} {cells:List Value} (h:CellsOkA K w k rows cells) (hI:∀ b,K.I b → K'.I b) (hk:Keep K.I w w') (hn:∀ m,m ≠ n → K.same K' m):CellsOkA K' w' k (rows.map (List.map (AV.kill n))) cells:=by
  refine ⟨by simpa using h.1,fun i j r c y hr hc hy=>?_,h.2.2⟩
  rw [List.getElem?_map] at hr
  cases hp:rows[i]? with
  | none=>simp [hp] at hr
  | some r' =>
    simp only [hp,Option.map_some,Option.some.injEq] at hr;subst hr
    rw [List.getElem?_map] at hc
    cases hq:r'[j]? with
    | none=>simp [hq] at hc
    | some c'=>simp only [hq,Option.map_some,Option.some.injEq] at hc;subst hc;exact (h.2.1 i j r' c' y hp hq hy).kill hI hk hn
theorem cellsA_append {K:KS} {w:World} {kk:Nat} {rows news:List (List AV)} {c1 c2 rest:List Value} (h1:CellsOkA K w kk rows c1) (h2:CellsOkA K w kk news c2) (hrow:∀ r ∈ rows,r.length = kk) (hnew:∀ r ∈ news,r.length = kk) :
    ∀ (i j:Nat) (r:List AV) (c:AV) (x:Value),(rows ++ news)[i]? = some r → r[j]? = some c → (c1 ++ c2 ++ rest)[i * kk + j]? = some x → Rep K w c x:=by
  intro i j r c x hr hc hx
  obtain ⟨a1,a2,_⟩:=h1
  obtain ⟨b1,b2,_⟩:=h2
  have hkr:r.length = kk:=by
    have:=List.mem_of_getElem? hr
    rcases List.mem_append.1 this with hm | hm
    · exact hrow r hm
    · exact hnew r hm
  have hj:j < kk:=by rw [← hkr];exact (List.getElem?_eq_some_iff.1 hc).1
  have bd:∀ n i:Nat,i < n → i * kk + j < n * kk:=fun n i hi=>by
    have:(i + 1) * kk ≤ n * kk:=Nat.mul_le_mul_right kk hi
    rw [Nat.add_mul] at this;omega
  rw [List.append_assoc] at hx
  by_cases hi:i < rows.length
  · rw [List.getElem?_append_left hi] at hr
    rw [List.getElem?_append_left (by rw [a1];exact bd _ _ hi)] at hx
    exact a2 _ _ _ _ _ hr hc hx
  · have hge:rows.length * kk ≤ i * kk:=Nat.mul_le_mul_right kk (by omega)
    rw [List.getElem?_append_right (by omega)] at hr
    have hi2:i - rows.length < news.length:=(List.getElem?_eq_some_iff.1 hr).1
    have e:i * kk + j - c1.length = (i - rows.length) * kk + j:=by rw [a1,Nat.sub_mul];omega
    rw [List.getElem?_append_right (by rw [a1];omega),e,List.getElem?_append_left (by rw [b1];exact bd _ _ hi2)] at hx
    exact b2 _ _ _ _ _ hr hc hx
def DstOk (K:KS) (w:World) (k:Nat) (E:TypeId) (σ:Sto) (nm:Nat) (rows:List (List AV)) (y:Value):Prop :=
  (∃ base,y = .slice base 0 0 ∧ rows = []) ∨ ((σ nm).live K nm ∧ y = .slice (some ⟨K.blk nm,0,none⟩) rows.length (K.cap nm) ∧ ∃ all,ArvOk K w nm k E all ∧ ∃ len,len ≤ all.length ∧ rows = all.take len)
theorem appA_ok (h:Std N r K a l act w) {t u:TypeId} {s x:Operand} {c:Call} (ho:o.op = .call c) (hc:c.callee = .builtin .append) (hargs:c.args = #[s,x]) (hts:c.argTypes = #[t,u]) {dd nm kk by_:Nat} {E:TypeId} {z:List Value} {rows news:List (List AV)} {obj:AO} {ncells:List Value} (hdst:o.dst = some dd) (hdl:dd < N)
    (ht:tel P t = some E) (hk:tsz P E = some kk) (hb:tby P E = some by_) (hz:tzero P E = some z) (hzl:z.length = kk) (hk0:0 < kk) (hsrcok:SrcOk P kk u z w (act.eval x) news.length ncells) (hnc:CellsOkA K w kk news ncells) (hrowd:∀ r ∈ rows,r.length = kk) (hnews:∀ r ∈ news,r.length = kk) (hpos:0 < rows.length + news.length)
    (hby:(rows.length + news.length) * by_ ≤ 2 ^ 47) (hle:rows.length + news.length ≤ 2 ^ 47) (hkl:∀ m,(r m).kill nm = r m) (hnm':B ≤ nm ∨ nm ∈ T0) (hD:DstOk K w kk E (sto l r) nm rows (act.eval s))
    (hobj:∀ K' w',ArvOk K' w' nm kk E ((rows ++ news).map (List.map (AV.kill nm))) → RepO K' w' nm obj) (hlo:∀ K',obj.live K' nm)
    (hK:k ((dd,.os nm (rows.length + news.length)) :: newF nm a) (newL nm obj l)):o.wp P act w (Post N B T0 r K l w k) Q:=by
  have hz1:=(tzero_ok hz).2
  have fin:∀ {y w'},(Builtin.append_ #[t,u] o.type #[act.eval s,act.eval x]).run P w = .ok y w' → Post N B T0 r K l w k (act.put (some dd) y) w' → o.wp P act w (Post N B T0 r K l w k) Q:=fun {y w'} h1 h2=>by
    refine wp_of_value (y:=y) (w':=w') ?_ (by rw [hdst];exact h2)
    unfold execOp;rw [ho]
    obtain ⟨cal,args,ats⟩:=c
    simp only at hc hargs hts
    subst hc;subst hargs;subst hts
    simp only [resolve,invoke,builtin,pure_bind]
    exact run_val (by simpa using h1)
  have hbm:news.length * by_ ≤ 2 ^ 47:=by
    have:news.length * by_ ≤ (rows.length + news.length) * by_:=Nat.mul_le_mul_right _ (by omega)
    omega
  have kl:∀ r ∈ (rows ++ news).map (List.map (AV.kill nm)),r.length = kk:=fun r hr=>by
    obtain ⟨r',hr',rfl⟩:=List.mem_map.1 hr
    rcases List.mem_append.1 hr' with hm | hm
    · simpa using hrowd r' hm
    · simpa using hnews r' hm
  have grow:∀ (base:Option Addr) (sCap:Nat) (olds:List Value),act.eval s = .slice base rows.length sCap → (∀ w':World,w'.heap = w.heap → (Builtin.firstCells kk rows.length (.slice base rows.length sCap)).run P w' = .ok olds.toArray w') → CellsOkA K w kk rows olds →
      sCap < rows.length + news.length → o.wp P act w (Post N B T0 r K l w k) Q:=fun base sCap olds hse hold hoc hno=>by
    have hrun:=run_app_grow (ty:=o.type) ht hk hb hz hzl hsrcok hold hby hle hno
    rw [← hse] at hrun
    refine fin hrun ?_
    have hg:Grow w (w.drew.alloc (.cells (olds.toArray ++ ncells.toArray ++ Builtin.zeroCells z.toArray (grownCap w (rows.length + news.length) sCap E - (rows.length + news.length))) E)):=((Grow.refl w).drew).alloc _
    have hkp:=Keep.of_grow hg h.rs.inI
    have hcap:=grownCap_ge w (rows.length + news.length) sCap E
    have hcm:=grownCap_le_maxLen w (rows.length + news.length) sCap E (by simp [maxLen];omega)
    generalize hcc:grownCap w (rows.length + news.length) sCap E = cc at *
    have:=bindArr_ok (T0:=T0) (k:=k) (obj:=obj) (K':=K.new nm w.heap.size cc) (w':=w.drew.alloc (.cells (olds.toArray ++ ncells.toArray ++ Builtin.zeroCells z.toArray (cc - (rows.length + news.length))) E)) (total:=rows.length + news.length) h hdl hnm' hkl rfl (fun m hm=>KS.new_same K _ _ _ m hm) hkp
      (fun m hm hl=>hg.heap ((h.rs.obj m).lt hl).1) ?_ (fun m hm hl _=>by have:=((h.rs.obj m).lt hl).1;simp only [KS.new,if_true];omega) (fun _=>.inl (by simp [KS.new])) hK
    · simpa [KS.sl,KS.new] using this
    · refine hobj _ _ ⟨hk0,by simp [KS.new],fun hi=>?_,olds ++ ncells ++ (Builtin.zeroCells z.toArray (cc - (rows.length + news.length))).toList,?_,?_,?_,?_,by simpa using hle,fun i r hr=>kl r (List.mem_of_getElem? hr),?_,fun y hy=>?_⟩
      · have:=h.rs.inI _ hi
        simp [KS.new] at this
      · simp only [KS.new,if_true]
        rw [show (w.drew.alloc (.cells (olds.toArray ++ ncells.toArray ++ Builtin.zeroCells z.toArray (cc - (rows.length + news.length))) E)).heap[w.heap.size]? = _ from hp_new (w:=w.drew) rfl]
        simp
      · simp only [KS.new,if_true,List.length_append,hoc.1,hnc.1,Array.length_toList,size_zeroCells,List.size_toArray,hzl,← Nat.add_mul]
        congr 1;omega
      · simp [KS.new];exact hcap
      · simp [KS.new];exact hcm
      · rw [List.map_append]
        exact cellsA_append (hoc.kill (fun _ h=>h) hkp fun m hm=>KS.new_same K _ _ _ m hm) (hnc.kill (fun _ h=>h) hkp fun m hm=>KS.new_same K _ _ _ m hm) (fun r hr=>kl r (by rw [List.map_append];exact List.mem_append_left _ hr)) (fun r hr=>kl r (by rw [List.map_append];exact List.mem_append_right _ hr))
      · simp only [List.mem_append] at hy
        rcases hy with (hy | hy) | hy
        · exact hoc.2.2 y hy
        · exact hnc.2.2 y hy
        · exact one_zero hz1 y hy
  rcases hD with ⟨base,hse,hrows⟩ | ⟨hlive,hse,all,hA,len,hlen,hrows⟩
  · subst hrows
    exact grow base 0 [] hse (fun w' _=>firstCells_zero _ _ _) ⟨by simp,fun i j r c y hr=>by simp at hr,by simp⟩ (by simpa using hpos)
  · obtain ⟨_,hnl,z1,xs,z2,z3,z4',z5,z6,z7,z8',z9⟩:=hA
    have hsub:∀ {i:Nat} {r:List AV},rows[i]? = some r → all[i]? = some r:=fun {i r} h=>by
      rw [hrows,List.getElem?_take] at h
      split at h
      · exact h
      · cases h
    have z8:∀ (i j:Nat) (r:List AV) (c:AV) (x:Value),rows[i]? = some r → r[j]? = some c → xs[i * kk + j]? = some x → Rep K w c x:=fun i j r c x hr hc hx=>z8' i j r c x (hsub hr) hc hx
    have hll:rows.length ≤ all.length:=by rw [hrows];simp;omega
    have z4:rows.length ≤ K.cap nm:=by omega
    have hfit0:rows.length * kk ≤ xs.length:=by rw [z3];exact Nat.mul_le_mul_right kk z4
    have hoc:CellsOkA K w kk rows (xs.take (rows.length * kk)):=by
      refine ⟨by rw [List.length_take];omega,fun i j r c y hr hc hy=>?_,fun y hy=>z9 y (List.mem_of_mem_take hy)⟩
      rw [List.getElem?_take] at hy
      split at hy
      · exact z8 _ _ _ _ _ hr hc hy
      · cases hy
    by_cases hroom:rows.length + news.length ≤ K.cap nm
    · have hfit:rows.length * kk + ncells.length ≤ xs.length:=by rw [hnc.1,z3,← Nat.add_mul];exact Nat.mul_le_mul_right _ hroom
      have hrun:=run_app_room (ty:=o.type) (cur:=xs) ht hk hb hz hzl hsrcok hnc.1 hnc.2.2 hbm z2 hroom hfit
      rw [← hse] at hrun
      refine fin hrun ?_
      have hkp:Keep K.I w (w.setRow (K.blk nm) (xs.take (rows.length * kk) ++ ncells ++ xs.drop (rows.length * kk + ncells.length)).toArray):=setRow_grow_keep z1
      have:=bindArr_ok (T0:=T0) (k:=k) (obj:=obj) (K':=K.new nm (K.blk nm) (K.cap nm)) (w':=w.setRow (K.blk nm) (xs.take (rows.length * kk) ++ ncells ++ xs.drop (rows.length * kk + ncells.length)).toArray) (total:=rows.length + news.length) h hdl hnm' hkl rfl (fun m hm=>KS.new_same K _ _ _ m hm) hkp
        (fun m hm hl=>setRow_other w _ _ _ (fun e2=>hm (by rw [h.rs.inj m nm hl hlive e2]))) ?_ (fun m hm hl _ e2=>hm (by rw [h.rs.inj m nm hl hlive (by simpa [KS.new] using e2.symm)])) (fun _=>.inr ⟨nm,hlive,by simp [KS.new]⟩) hK
      · simpa [KS.sl,KS.new] using this
      · refine hobj _ _ ⟨hk0,by simp [KS.new],by simpa [KS.new] using z1,xs.take (rows.length * kk) ++ ncells ++ xs.drop (rows.length * kk + ncells.length),?_,?_,?_,?_,by simpa using hle,fun i r hr=>kl r (List.mem_of_getElem? hr),?_,fun y hy=>?_⟩
        · simp only [KS.new,if_true];exact setRow_heap w _ _ _ E (0,0) z2
        · simp only [KS.new,if_true,List.length_append,List.length_take,List.length_drop];rw [← z3];omega
        · simp [KS.new];exact hroom
        · simpa [KS.new] using z5
        · rw [List.map_append]
          exact cellsA_append (hoc.kill (fun _ h=>h) hkp fun m hm=>KS.new_same K _ _ _ m hm) (hnc.kill (fun _ h=>h) hkp fun m hm=>KS.new_same K _ _ _ m hm) (fun r hr=>kl r (by rw [List.map_append];exact List.mem_append_left _ hr)) (fun r hr=>kl r (by rw [List.map_append];exact List.mem_append_right _ hr))
        · simp only [List.mem_append] at hy
          rcases hy with (hy | hy) | hy
          · exact z9 y (List.mem_of_mem_take hy)
          · exact hnc.2.2 y hy
          · exact z9 y (List.mem_of_mem_drop hy)
    · refine grow _ _ (xs.take (rows.length * kk)) hse (fun w' hw=>?_) hoc (by omega)
      refine run_firstCells_some w' kk rows.length _ _ _ _ (by rw [List.length_take];omega) (fun j v hj=>?_)
      rw [addr_add,cell_heap hw,Nat.zero_add,cells_at z2]
      rw [List.getElem?_take] at hj
      split at hj
      · exact hj
      · cases hj
theorem map_kill_d (n:Nat) (rows:List (List RV)):(rows.map (List.map AV.d)).map (List.map (AV.kill n)) = rows.map (List.map AV.d):=by
  rw [List.map_map]
  refine List.map_congr_left fun r _=>?_
  simp only [Function.comp,List.map_map]
  exact List.map_congr_left fun c _=>by simp [AV.kill,AV.mapN]
theorem hrows_kill (n:Nat) (p:List (List RV)) (h:List AV) (t:List (List RV)):(hrows p h t).map (List.map (AV.kill n)) = hrows p (h.map (AV.kill n)) t:=by
  simp only [hrows,List.map_append,List.map_cons,map_kill_d]
theorem dst_ok (h:Std N r K a l act w) {s:Operand} {k dd:Nat} {E:TypeId} {q':Prop} {rows:List (List RV)} (hs1:(opd a s).1) (hd:dstV (sto l r) k E (opd a s).2 = some (q',rows)) (hq:q'):DstOk K w k E (sto l r) (appName dd (opd a s).2) (rows.map (List.map .d)) (act.eval s) ∧ ∀ row ∈ rows,row.length = k:=by
  have hss:=h.op s hs1
  unfold dstV at hd
  split at hd
  · rename_i e
    cases hd
    rw [e] at hss
    exact ⟨.inl ⟨none,by cases hss with | d h=>exact h.int,rfl⟩,by simp⟩
  · rename_i e
    cases hd
    rw [e] at hss
    have:∃ ad,act.eval s = .slice ad 0 0:=by
      generalize act.eval s = y at hss
      cases hss;exact ⟨_,rfl⟩
    exact ⟨.inl ⟨this.choose,this.choose_spec,rfl⟩,by simp⟩
  · rename_i n len e
    rw [e] at hss ⊢
    split at hd
    · rename_i k' E' rows' hn
      cases hd
      obtain ⟨hkk,hEE,hlen⟩:=hq
      subst hkk;subst hEE
      have hse0:act.eval s = K.sl n len:=by
        generalize act.eval s = y at hss
        cases hss;rfl
      have hO:=h.rs.obj n
      rw [hn] at hO
      have hl0:(rows'.take len).length = len:=by simp;omega
      cases hnl:K.nl n
      · refine ⟨.inr ⟨by show (sto l r n).live K n;rw [hn];exact hnl,by rw [hse0];simp [appName,KS.sl,hnl];omega,_,ArvOk.of_arr hO hnl,len,by simpa using hlen,by rw [List.map_take]⟩,fun row hr=>?_⟩
        obtain ⟨_,_,_,_,_,_,_,_,_,h7,_⟩:=ArvOk.of_arr hO hnl
        obtain ⟨i,hi⟩:=List.mem_iff_getElem?.1 (List.mem_of_mem_take hr)
        simpa using h7 i (row.map .d) (by rw [List.getElem?_map,hi];rfl)
      · obtain ⟨_,⟨_,hr0⟩ | ⟨h2,_⟩⟩:=hO
        · subst hr0
          have:len = 0:=by simpa using hlen
          subst this
          exact ⟨.inl ⟨K.ad n,by rw [hse0];simp [KS.sl,hnl],by simp⟩,by simp⟩
        · rw [hnl] at h2;cases h2
    · cases hd
  · cases hd

theorem app_ok (hB:ClosedS B r) (h:Std N r K a l act w) {t u:TypeId} {s x:Operand} {c:Call} (ho:o.op = .call c) (hc:c.callee = .builtin .append) (hargs:c.args = #[s,x]) (hts:c.argTypes = #[t,u]) (hd:∀ t,o.dst = some t → t < N) (hs:SEapp P B T0 r o.dst k a l t u s x):o.wp P act w (Post N B T0 r K l w k) Q:=by
  unfold SEapp at hs
  split at hs
  · rename_i dd E kk by_ z hdst ht hk' hb' hz'
    have hk:tsz P E = some kk:=by rw [ht] at hk';exact hk'
    have hb:tby P E = some by_:=by rw [ht] at hb';exact hb'
    have hz:tzero P E = some z:=by rw [ht] at hz';exact hz'
    split at hs
    · rename_i q news q' rows hsrc hdstv
      obtain ⟨hx1,hs1,hq,hq',hzl,hk0,hnews,hby,hle,hnm,hK⟩:=hs
      have hkl:∀ m,(r m).kill (appName (B + dd) (opd a s).2) = r m:=hnm.elim (fun h=>closed_kill hB h) (fun h=>h.2)
      have hnm':=hnm.imp _root_.id And.left
      generalize hnmE:appName (B + dd) (opd a s).2 = nm at *
      have hz1:=(tzero_ok hz).2
      obtain ⟨ncells,hsrcok,hnc⟩:=src_ok h.rs (h.op x hx1) hzl hk0 hz1 hsrc hq hnews
      have hdl:=hd dd hdst
      have fin:∀ {y w'},(Builtin.append_ #[t,u] o.type #[act.eval s,act.eval x]).run P w = .ok y w' → Post N B T0 r K l w k (act.put (some dd) y) w' → o.wp P act w (Post N B T0 r K l w k) Q:=fun {y w'} h1 h2=>by
        refine wp_of_value (y:=y) (w':=w') ?_ (by rw [hdst];exact h2)
        unfold execOp;rw [ho]
        obtain ⟨cal,args,ats⟩:=c
        simp only at hc hargs hts
        subst hc;subst hargs;subst hts
        simp only [resolve,invoke,builtin,pure_bind]
        exact run_val (by simpa using h1)
      have hss:=h.op s hs1
      have hbm:news.length * by_ ≤ 2 ^ 47:=by
        have:news.length * by_ ≤ (rows.length + news.length) * by_:=Nat.mul_le_mul_right _ (by omega)
        omega
      -- in a new block
      have grow:∀ (base:Option Addr) (sCap:Nat) (olds:List Value),act.eval s = .slice base rows.length sCap → (∀ w':World,w'.heap = w.heap → (Builtin.firstCells kk rows.length (.slice base rows.length sCap)).run P w' = .ok olds.toArray w') → CellsOk K.I w kk rows olds → (∀ r ∈ rows,r.length = kk) →
          sCap < rows.length + news.length → o.wp P act w (Post N B T0 r K l w k) Q:=fun base sCap olds hse hold hoc hrow hno=>by
        have hrun:=run_app_grow (ty:=o.type) ht hk hb hz hzl hsrcok hold hby hle hno
        rw [← hse] at hrun
        refine fin hrun ?_
        have hg:Grow w (w.drew.alloc (.cells (olds.toArray ++ ncells.toArray ++ Builtin.zeroCells z.toArray (grownCap w (rows.length + news.length) sCap E - (rows.length + news.length))) E)):=((Grow.refl w).drew).alloc _
        have hkp:=Keep.of_grow hg h.rs.inI
        have hcap:=grownCap_ge w (rows.length + news.length) sCap E
        have hcm:=grownCap_le_maxLen w (rows.length + news.length) sCap E (by simp [maxLen];omega)
        generalize hcc:grownCap w (rows.length + news.length) sCap E = cc at *
        have:=bindArr_ok (T0:=T0) (k:=k) (obj:=.arr kk E (rows ++ news)) (K':=K.new nm w.heap.size cc) (w':=w.drew.alloc (.cells (olds.toArray ++ ncells.toArray ++ Builtin.zeroCells z.toArray (cc - (rows.length + news.length))) E)) (total:=rows.length + news.length) h hdl hnm' hkl rfl (fun m hm=>KS.new_same K _ _ _ m hm) hkp
          (fun m hm hl=>hg.heap ((h.rs.obj m).lt hl).1) ?_ (fun m hm hl _=>by have:=((h.rs.obj m).lt hl).1;simp only [KS.new,if_true];omega) (fun _=>.inl (by simp [KS.new])) hK
        · simpa [KS.sl,KS.new] using this
        · refine ⟨hk0,.inr ⟨by simp [KS.new],fun hi=>?_,olds ++ ncells ++ (Builtin.zeroCells z.toArray (cc - (rows.length + news.length))).toList,?_,?_,?_,?_,by simpa using hle,fun i r hr=>?_,?_,fun y hy=>?_⟩⟩
          · have:=h.rs.inI _ hi
            simp [KS.new] at this
          · simp only [KS.new,if_true]
            rw [show (w.drew.alloc (.cells (olds.toArray ++ ncells.toArray ++ Builtin.zeroCells z.toArray (cc - (rows.length + news.length))) E)).heap[w.heap.size]? = _ from hp_new (w:=w.drew) rfl]
            simp
          · simp only [KS.new,if_true,List.length_append,hoc.1,hnc.1,Array.length_toList,size_zeroCells,List.size_toArray,hzl,← Nat.add_mul]
            congr 1;omega
          · simp [KS.new];exact hcap
          · simp [KS.new];exact hcm
          · have:=List.mem_of_getElem? hr
            rcases List.mem_append.1 this with hm | hm
            · exact hrow r hm
            · exact hnews r hm
          · exact cells_append (hoc.up hkp) (hnc.up hkp) hrow hnews
          · simp only [List.mem_append] at hy
            rcases hy with (hy | hy) | hy
            · exact hoc.2.2 y hy
            · exact hnc.2.2 y hy
            · exact one_zero hz1 y hy
      -- where there is nothing yet
      have bare:∀ (base:Option Addr),act.eval s = .slice base 0 0 → rows = [] → o.wp P act w (Post N B T0 r K l w k) Q:=fun base hse hrows=>by
        subst hrows
        by_cases hn0:news = []
        · subst hn0
          have hnl:ncells = []:=List.eq_nil_of_length_eq_zero (by simpa using hnc.1)
          have hrun:=run_app_nothing (ty:=o.type) (base:=base) ht hk hb hz hsrcok hnl
          rw [← hse] at hrun
          refine fin hrun ?_
          have:=bindArr_ok (T0:=T0) (k:=k) (obj:=.arr kk E ([] ++ [])) (K':={ K with nl:=fun m=>if m = nm then true else K.nl m,ad:=fun m=>if m = nm then base else K.ad m }) (w':=w) (total:=0 + 0) h hdl hnm' hkl rfl
            (fun m hm=>⟨rfl,rfl,if_neg hm,if_neg hm⟩) (Keep.refl _ _) (fun m hm hl=>rfl) ⟨hk0,.inl ⟨by simp,rfl⟩⟩ (fun m hm hl hl2=>by simp [AO.live] at hl2) (fun hl2=>by simp [AO.live] at hl2) hK
          rw [hse]
          simpa [KS.sl] using this
        · have hpos:0 < news.length:=List.length_pos_iff.2 hn0
          exact grow base 0 [] hse (fun w' _=>firstCells_zero _ _ _) ⟨by simp,fun i j r c y hr=>by simp at hr,by simp⟩ (by simp) (by simpa using hpos)
      unfold dstV at hdstv
      split at hdstv
      · rename_i e
        cases hdstv
        rw [e] at hss
        exact bare none (by cases hss with | d h=>exact h.int) rfl
      · rename_i e
        cases hdstv
        rw [e] at hss
        have:∃ ad,act.eval s = .slice ad 0 0:=by
          generalize act.eval s = y at hss
          cases hss;exact ⟨_,rfl⟩
        obtain ⟨ad,hse⟩:=this
        exact bare ad hse rfl
      · rename_i n len e
        rw [e] at hss
        split at hdstv
        · rename_i k' E' rows' hn
          cases hdstv
          obtain ⟨hkk,hEE,hlen⟩:=hq'
          subst hkk;subst hEE
          have hse0:act.eval s = K.sl n len:=by
            generalize act.eval s = y at hss
            cases hss;rfl
          have hO:=h.rs.obj n
          rw [hn] at hO
          have hl0:(rows'.take len).length = len:=by simp;omega
          have hsub:∀ {i:Nat} {r:List RV},(rows'.take len)[i]? = some r → rows'[i]? = some r:=fun h=>sub_rows h
          generalize hR:rows'.take len = rows at *
          subst hl0
          have hse:=hse0
          obtain ⟨_,⟨hnl,hr0⟩ | ⟨hnl,z1,xs,z2,z3,z4',z5,z6,z7',z8',z9⟩⟩:=hO
          · subst hr0
            exact bare (K.ad n) (by rw [hse];simp [KS.sl,hnl]) (by rw [← hR];simp)
          · have z4:rows.length ≤ K.cap n:=by omega
            have z7:∀ (i:Nat) (r:List RV),rows[i]? = some r → r.length = k':=fun i r hr=>z7' i r (hsub hr)
            have z8:∀ (i j:Nat) (r:List RV) (c:RV) (x:Value),rows[i]? = some r → r[j]? = some c → xs[i * k' + j]? = some x → RRep K.I w c x:=fun i j r c x hr hc hx=>z8' i j r c x (hsub hr) hc hx
            have hse2:act.eval s = .slice (some ⟨K.blk n,0,none⟩) rows.length (K.cap n):=by rw [hse];simp [KS.sl,hnl]
            have hrow:∀ r ∈ rows,r.length = k':=fun r hr=>by
              obtain ⟨i,hi⟩:=List.mem_iff_getElem?.1 hr
              exact z7 i r hi
            have hfit0:rows.length * k' ≤ xs.length:=by rw [z3];exact Nat.mul_le_mul_right k' z4
            have hoc:CellsOk K.I w k' rows (xs.take (rows.length * k')):=by
              refine ⟨by rw [List.length_take];omega,fun i j r c y hr hc hy=>?_,fun y hy=>z9 y (List.mem_of_mem_take hy)⟩
              rw [List.getElem?_take] at hy
              split at hy
              · exact z8 _ _ _ _ _ hr hc hy
              · cases hy
            by_cases hroom:rows.length + news.length ≤ K.cap n
            · have hfit:rows.length * k' + ncells.length ≤ xs.length:=by rw [hnc.1,z3,← Nat.add_mul];exact Nat.mul_le_mul_right _ hroom
              have hrun:=run_app_room (ty:=o.type) (cur:=xs) ht hk hb hz hzl hsrcok hnc.1 hnc.2.2 hbm z2 hroom hfit
              rw [← hse2] at hrun
              refine fin hrun ?_
              have hkp:Keep K.I w (w.setRow (K.blk n) (xs.take (rows.length * k') ++ ncells ++ xs.drop (rows.length * k' + ncells.length)).toArray):=setRow_grow_keep z1
              have hos:nm = n:=by rw [← hnmE,e];rfl
              have hlive:(sto l r n).live K n:=by rw [hn];exact hnl
              have:=bindArr_ok (T0:=T0) (k:=k) (obj:=.arr k' E' (rows ++ news)) (K':=K.new nm (K.blk n) (K.cap n)) (w':=w.setRow (K.blk n) (xs.take (rows.length * k') ++ ncells ++ xs.drop (rows.length * k' + ncells.length)).toArray) (total:=rows.length + news.length) h hdl hnm' hkl rfl (fun m hm=>KS.new_same K _ _ _ m hm) hkp
                (fun m hm hl=>setRow_other w _ _ _ (fun e2=>hm (by rw [hos,h.rs.inj m n hl hlive e2]))) ?_ (fun m hm hl _ e2=>hm (by rw [hos,h.rs.inj m n hl hlive (by simpa [KS.new] using e2.symm)])) (fun _=>.inr ⟨n,hlive,by simp [KS.new]⟩) hK
              · simpa [KS.sl,KS.new] using this
              · refine ⟨hk0,.inr ⟨by simp [KS.new],by simpa [KS.new] using z1,xs.take (rows.length * k') ++ ncells ++ xs.drop (rows.length * k' + ncells.length),?_,?_,?_,?_,by simpa using hle,fun i r hr=>?_,?_,fun y hy=>?_⟩⟩
                · simp only [KS.new,if_true];exact setRow_heap w _ _ _ E' (0,0) z2
                · simp only [KS.new,if_true,List.length_append,List.length_take,List.length_drop];rw [← z3];omega
                · simp [KS.new];exact hroom
                · simpa [KS.new] using z5
                · have:=List.mem_of_getElem? hr
                  rcases List.mem_append.1 this with hm | hm
                  · exact hrow r hm
                  · exact hnews r hm
                · exact cells_append (hoc.up hkp) (hnc.up hkp) hrow hnews
                · simp only [List.mem_append] at hy
                  rcases hy with (hy | hy) | hy
                  · exact z9 y (List.mem_of_mem_take hy)
                  · exact hnc.2.2 y hy
                  · exact z9 y (List.mem_of_mem_drop hy)
            · refine grow _ _ (xs.take (rows.length * k')) hse2 (fun w' hw=>?_) hoc hrow (by omega)
              refine run_firstCells_some w' k' rows.length _ _ _ _ (by rw [List.length_take];omega) (fun j v hj=>?_)
              rw [addr_add,cell_heap hw,Nat.zero_add,cells_at z2]
              rw [List.getElem?_take] at hj
              split at hj
              · exact hj
              · cases hj
        · cases hdstv
      · cases hdstv
    · rename_i q news hsrc hdstv
      unfold SEapB at hs
      split at hs
      · rename_i n len e
        split at hs
        · rename_i k' E' p hh t' hn
          obtain ⟨hx1,hs1,hq,hkk,hEE,hlen,hzl,hk0,hnews,hby,hle,hnm,hK⟩:=hs
          subst hkk;subst hEE
          have hkl:∀ m,(r m).kill n = r m:=hnm.elim (fun h=>closed_kill hB h) (fun h=>h.2)
          have hz1:=(tzero_ok hz).2
          obtain ⟨ncells,hsrcok,hnc⟩:=src_ok h.rs (h.op x hx1) hzl hk0 hz1 hsrc hq hnews
          have hss:=h.op s hs1
          rw [e] at hss
          have hO:=h.rs.obj n
          rw [hn] at hO
          have hse:act.eval s = .slice (some ⟨K.blk n,0,none⟩) (hrows p hh t').length (K.cap n):=by
            have:act.eval s = K.sl n len:=by
              generalize act.eval s = y at hss
              cases hss;rfl
            rw [this,hrows_len,← hlen];simp [KS.sl,hO.2.1]
          have h7:∀ row ∈ hrows p hh t',row.length = k':=fun row hr=>by
            obtain ⟨i,hi⟩:=List.mem_iff_getElem?.1 hr
            obtain ⟨_,_,_,_,_,_,_,_,_,h7,_⟩:=hO
            exact h7 i row hi
          refine appA_ok (T0:=T0) (B:=B) (obj:=.arh k' E' p (hh.map (AV.kill n)) (t' ++ news)) (nm:=n) h ho hc hargs hts hdst (hd dd hdst) ht hk hb hz hzl hk0 (news:=news.map (List.map .d)) (rows:=hrows p hh t') (by simpa using hsrcok) hnc.toA h7 (by simpa using hnews) (by rw [hrows_len];omega)
            (by rw [hrows_len,List.length_map,← hlen];exact hby) (by rw [hrows_len,List.length_map,← hlen];exact hle) hkl (hnm.imp _root_.id And.left) (.inr ⟨by rw [hn];trivial,hse,_,hO,(hrows p hh t').length,Nat.le_refl _,(List.take_length).symm⟩) (fun K' w' hA=>?_) (fun _=>trivial) (by rw [hrows_len,List.length_map,← hlen];exact hK)
          rw [List.map_append,hrows_kill,map_kill_d] at hA
          show ArvOk _ _ _ _ _ _
          have:hrows p (hh.map (AV.kill n)) t' ++ news.map (List.map .d) = hrows p (hh.map (AV.kill n)) (t' ++ news):=by simp [hrows]
          rw [← this];exact hA
        · exact hs.elim
      · exact hs.elim
    · rename_i q' rows hsrc hdstv
      unfold SEapA at hs
      split at hs
      · rename_i m e hx2 htu
        split at hs
        · rename_i k' E' hh hm
          obtain ⟨hx1,hs1,hq',hkk,hzl,hk0,hby,hle,hnm,hK⟩:=hs
          subst hkk
          have hkl:∀ m,(r m).kill (appName (B + dd) (opd a s).2) = r m:=hnm.elim (fun h=>closed_kill hB h) (fun h=>h.2)
          obtain ⟨hD,hrow⟩:=dst_ok (dd:=B + dd) h hs1 hdstv hq'
          have hxx:=h.op x hx1
          rw [hx2] at hxx
          have hO:=h.rs.obj m
          rw [hm] at hO
          obtain ⟨_,gnl,g1,xs,g2,g3,g4,g5,g6,g7,g8,g9⟩:=hO
          have hxe:act.eval x = .slice (some ⟨K.blk m,0,none⟩) 1 (K.cap m):=by
            have:act.eval x = K.sl m 1:=by
              generalize act.eval x = y at hxx
              cases hxx;rfl
            rw [this];simp [KS.sl,gnl]
          have h1:1 ≤ K.cap m:=by simpa [hrows] using g4
          have hfit:1 * k' ≤ xs.length:=by rw [g3];exact Nat.mul_le_mul_right k' h1
          have hhl:hh.length = k':=g7 0 hh (by simp [hrows])
          have hnc:CellsOkA K w k' [hh] (xs.take (1 * k')):=by
            refine ⟨by rw [List.length_take];simp;omega,fun i j r c y hr hc hy=>?_,fun y hy=>g9 y (List.mem_of_mem_take hy)⟩
            rw [List.getElem?_take] at hy
            split at hy
            · exact g8 i j r c y (by simpa [hrows] using hr) hc hy
            · cases hy
          have hsrcok:SrcOk P k' u z w (act.eval x) [hh].length (xs.take (1 * k')):=by
            rw [hxe]
            refine .cells (run_underlying_el htu) (.inl ⟨_,rfl⟩) (fun w'=>by simp [Builtin.lenOf]) (fun w' hw=>?_)
            refine run_firstCells_some w' k' 1 _ _ _ _ (by rw [List.length_take];omega) (fun j v hj=>?_)
            rw [addr_add,cell_heap hw,Nat.zero_add,cells_at g2]
            rw [List.getElem?_take] at hj
            split at hj
            · exact hj
            · cases hj
          refine appA_ok (T0:=T0) (B:=B) (obj:=.arh k' E rows (hh.map (AV.kill (appName (B + dd) (opd a s).2))) []) h ho hc hargs hts hdst (hd dd hdst) ht hk hb hz hzl hk0 (news:=[hh]) (rows:=rows.map (List.map .d)) hsrcok hnc (by simpa using hrow) (by simpa using hhl) (by simp)
            (by simpa using hby) (by simpa using hle) hkl (hnm.imp _root_.id And.left) hD (fun K' w' hA=>?_) (fun _=>trivial) (by simpa using hK)
          rw [List.map_append,map_kill_d] at hA
          exact hA
        · exact hs.elim
      · exact hs.elim
    · exact hs.elim
  · exact hs.elim
end
end Go.Proofs.Ytikgiadbkjmabaa

/- What operations that make memory or write do to the store: as said (6): slices written out,make,calls;all in one. No program in sight. -/
namespace Go.Proofs.Ytikgiadbkjmabaa
open Go.RowKit
set_option linter.unusedSimpArgs false
set_option linter.unusedVariables false

theorem RepS.more {K:KS} {σ:Sto} {w w':World} {J:Nat → Prop} (h:RepS K σ w) (hg:Grow w w') (hJ:∀ b,J b → w.heap.size ≤ b ∧ b < w'.heap.size):RepS { K with I:=fun b=>K.I b ∨ J b } σ w':=by
  have hk:Keep K.I w w':=Keep.of_grow hg h.inI
  refine ⟨h.gl.up (fun b hb=>.inl hb) hk,fun b hb=>hb.elim (fun hb=>Nat.lt_of_lt_of_le (h.inI b hb) hg.size) (fun hb=>(hJ b hb).2),fun n=>?_,fun i j hi hj e=>h.inj i j ((live_same (K:=K) (K':={ K with I:=fun b=>K.I b ∨ J b }) (n:=i) ⟨rfl,rfl,rfl,rfl⟩).1 hi) ((live_same (K:=K) (K':={ K with I:=fun b=>K.I b ∨ J b }) (n:=j) ⟨rfl,rfl,rfl,rfl⟩).1 hj) e⟩
  by_cases hl:(σ n).live K n
  · have hlt:=((h.obj n).lt hl).1
    exact (h.obj n).up (q:=fun _=>true) (K':={ K with I:=fun b=>K.I b ∨ J b }) (fun b hb=>.inl hb) hk (fun _ _=>⟨rfl,rfl,rfl,rfl⟩) ⟨rfl,rfl,rfl,rfl⟩ (fun hn hi=>hi.elim hn fun hj=>by have:=(hJ _ hj).1;simp only at this;omega) (fun _=>hg.heap hlt) (AO.allN_true _)
  · have hO:=h.obj n
    cases hσ:σ n with
    | dead=>trivial
    | box cs=>rw [hσ] at hl;exact absurd trivial hl
    | mp _ _=>rw [hσ] at hl;exact absurd trivial hl
    | arh _ _ _ _ _=>rw [hσ] at hl;exact absurd trivial hl
    | arr k E rows =>
      rw [hσ] at hl hO
      obtain ⟨h0,h1 | ⟨h1,_⟩⟩:=hO
      · exact ⟨h0,.inl h1⟩
      · exact absurd h1 hl

theorem repl_get {α:Type} {z:List α} {k:Nat} (hz:z.length = k) (hk:0 < k):∀ (n i:Nat),(repl n z)[i]? = if i < n * k then z[i % k]? else none
  | 0,i=>by simp [repl]
  | n + 1,i=>by
    simp only [repl]
    by_cases hi:i < k
    · rw [List.getElem?_append_left (by omega),if_pos (by rw [Nat.add_mul];omega),Nat.mod_eq_of_lt hi]
    · rw [List.getElem?_append_right (by omega),hz,repl_get hz hk n (i - k)]
      have e:(i - k) % k = i % k:=by
        conv=>rhs;rw [show i = (i - k) + k by omega]
        rw [Nat.add_mod_right]
      rw [e]
      by_cases h2:i - k < n * k
      · rw [if_pos h2,if_pos (by rw [Nat.add_mul];omega)]
      · rw [if_neg h2,if_neg (by rw [Nat.add_mul];omega)]

theorem repl_length {α:Type} {z:List α} {k:Nat} (hz:z.length = k):∀ (n:Nat),(repl n z).length = n * k
  | 0=>by simp [repl]
  | n + 1=>by simp only [repl,List.length_append,hz,repl_length hz n,Nat.add_mul];omega

theorem chunk_get {α:Type} {k:Nat}:∀ (n:Nat) (l:List α) (i:Nat),(chunk k n l)[i]? = if i < n then some ((l.drop (i * k)).take k) else none
  | 0,l,i=>by simp [chunk]
  | n + 1,l,0=>by simp [chunk]
  | n + 1,l,i + 1=>by
    simp only [chunk,List.getElem?_cons_succ,chunk_get n (l.drop k) i,List.drop_drop]
    have:k + i * k = (i + 1) * k:=by rw [Nat.add_mul];omega
    rw [this]
    by_cases h:i < n
    · rw [if_pos h,if_pos (by omega)]
    · rw [if_neg h,if_neg (by omega)]
theorem chunk_length {α:Type} {k:Nat}:∀ (n:Nat) (l:List α),(chunk k n l).length = n
  | 0,_=>rfl
  | n + 1,l=>by simp [chunk,chunk_length n]

theorem afill_length {place:Nat → Option (Nat × Nat)}:∀ {parts:List (Nat × AV)} {cs cs':List AV},afill place cs parts = some cs' → cs'.length = cs.length
  | [],cs,cs',h=>by simp only [afill,Option.some.injEq] at h;subst h;rfl
  | (i,v) :: parts,cs,cs',h=>by
    simp only [afill] at h
    split at h
    · split at h
      · rename_i hf
        rw [afill_length h];simp only [List.length_append,List.length_take,List.length_drop,hf.1];omega
      · cases h
    · cases h

section
variable {P:Program} {N B:Nat} {T0:List Nat} {r:Sto} {K:KS} {k:Fr → Loc → Prop} {a:Fr} {l:Loc} {act:Act} {w:World} {o:Oper} {Q:Exit → Act → World → Prop}

theorem bs_core2 {σ:Sto} {t:TypeId} {n:Nat} {parts:Array (Nat × Operand)} {rows:List (List RV)} (ho:o.op = .buildSlice t n parts) (hop:∀ p ∈ parts.toList,OpOk K w a act.eval p.2) (hrows:bsliceV P t n (parts.toList.map fun p=>(p.1,(opd a p.2).2)) = some rows) (hp:allP (parts.toList.map fun p=>(opd a p.2).1)) :
    ∃ cells E kk,(execOp act.eval o).run P w = .ok (.value (.slice (some ⟨w.heap.size,0,none⟩) n n)) (w.alloc (.cells cells E)) ∧ ((∀ b,K.I b → b < w.heap.size) → Rep { K with I:=fun b=>K.I b ∨ b = w.heap.size } (w.alloc (.cells cells E)) (.d (.ro rows)) (.slice (some ⟨w.heap.size,0,none⟩) n n)) ∧
      tel P t = some E ∧ (tel P t).bind (tsz P) = some kk ∧ 0 < kk ∧ n ≤ 2 ^ 24 ∧ rows.length = n ∧ (∀ (i:Nat) (r:List RV),rows[i]? = some r → r.length = kk) ∧ cells.toList.length = n * kk ∧ (∀ (i j:Nat) (r:List RV) (c:RV) (x:Value),rows[i]? = some r → r[j]? = some c → cells.toList[i * kk + j]? = some x → RRep K.I w c x) ∧ ∀ x ∈ cells.toList,x.oneCell' = true:=by
  have hdone:True:=trivial
  cases hdone with | intro =>
    unfold bsliceV at hrows
    split at hrows
    · rename_i E kk z ht hk' hz'
      have hk:tsz P E = some kk:=by rw [ht] at hk';exact hk'
      have hz:tzero P E = some z:=by rw [ht] at hz';exact hz'
      split at hrows
      · rename_i hc
        obtain ⟨hzl,hk0,h24⟩:=hc
        obtain ⟨cs,hfill,hrows⟩:=Option.bind_eq_some_iff.1 hrows
        simp only [Option.map_eq_some_iff] at hrows
        obtain ⟨rs,hrs,rfl⟩:=hrows
        obtain ⟨⟨zv,hz1,hz2⟩,hz3⟩:=tzero_ok hz
        have hzlen:(z.map fun x=>AV.d (.v x)).length = kk:=by simpa using hzl
        -- the zeros
        have hC0:RepC K w (repl n (z.map fun x=>.d (.v x))) ((Array.range (n * kk)).map (fun i=>z.toArray[i % z.toArray.size]!)).toList:=by
          refine ⟨by rw [repl_length hzlen];simp,fun i c x hc hx=>?_,fun x hx=>?_⟩
          · rw [repl_get hzlen hk0] at hc
            split at hc
            · rename_i hi
              have hm:i % kk < z.length:=by rw [hzl];exact Nat.mod_lt _ hk0
              simp only [List.getElem?_map,List.getElem?_eq_getElem hm,Option.map_some,Option.some.injEq] at hc
              subst hc
              have hxe:x = z[i % kk]:=by
                simp only [Array.toList_map,Array.toList_range,List.getElem?_map,List.getElem?_range hi,Option.map_some,Option.some.injEq,List.size_toArray,hzl] at hx
                rw [← hx];simp [hm]
              rw [hxe];exact .d (.v (hz3 _ (List.getElem_mem hm)))
            · cases hc
          · simp only [Array.toList_map,List.mem_map,Array.toList_range,List.mem_range,List.size_toArray,hzl] at hx
            obtain ⟨i,hi,rfl⟩:=hx
            have hm:i % kk < z.length:=by rw [hzl];exact Nat.mod_lt _ hk0
            have e:z.toArray[i % kk]! = z[i % kk]:=by simp [hm]
            rw [e];exact hz3 _ (List.getElem_mem hm)
        obtain ⟨cells,hf1,hf2⟩:=afill_ok (vals:=parts.toList.map fun p=>(p.1,act.eval p.2)) hC0 (by simp) (fun m p q h1 h2=>by
          simp only [List.getElem?_map] at h1 h2
          cases hzz:parts.toList[m]? with
          | none=>simp [hzz] at h1
          | some zz =>
            simp [hzz] at h1 h2
            subst h1;subst h2
            have hm:=List.mem_of_getElem? hzz
            exact ⟨rfl,hop zz hm (allP_mem hp _ (List.mem_map.2 ⟨zz,hm,rfl⟩))⟩) hfill
        have hcl:cs.length = n * kk:=by rw [afill_length hfill,repl_length hzlen]
        obtain ⟨hr1,hr2⟩:=rvs_ok hrs
        have hcells:cells.toList.length = n * kk:=by rw [← hf2.1];exact hcl
        have hrun:(Instr.buildSlice t n (parts.toList.map fun p=>(p.1,act.eval p.2)).toArray).run P w = .ok (.slice (some ⟨w.heap.size,0,none⟩) n n) (w.alloc (.cells cells E)):=by
          unfold Instr.buildSlice
          simp only [Sem.run_bind,run_underlying (run_underlying_el ht),Result.andThen,run_sizeOf' hk]
          rw [if_neg (by omega)]
          by_cases h0:n * kk = 0
          · rw [if_pos h0]
            simp only [pure_bind]
            have e0:((Array.range (n * kk)).map fun x=>(#[]:Array Value)[x % (#[]:Array Value).size]!) = ((Array.range (n * kk)).map (fun i=>z.toArray[i % z.toArray.size]!)):=by rw [h0];simp
            rw [e0,hf1]
            simp [newRow]
          · rw [if_neg h0]
            simp only [Sem.run_bind,hz1,Result.andThen,pure_bind,hz2,hf1]
            simp [newRow]
        have e1:(parts.map fun (p:Nat × Operand)=>(p.1,act.eval p.2)) = (parts.toList.map fun p=>(p.1,act.eval p.2)).toArray:=(map_list _ _).symm
        have hlt:n ≤ 2 ^ 24:=by
          have:n * 1 ≤ n * kk:=Nat.mul_le_mul_left n hk0
          omega
        have hlen:=chunk_length (k:=kk) n rs
        have hrsl:rs.length = n * kk:=by rw [hr1,hcl]
        have hrow:∀ i,i < n → ((rs.drop (i * kk)).take kk).length = kk:=fun i hi=>by
          have:(i + 1) * kk ≤ n * kk:=Nat.mul_le_mul_right kk hi
          rw [Nat.add_mul] at this
          rw [List.length_take,List.length_drop,hrsl];omega
        have hdata:∀ (i j:Nat) (row:List RV) (c:RV),(chunk kk n rs)[i]? = some row → row[j]? = some c → i * kk + j < cells.toList.length ∧ ∃ c',cs[i * kk + j]? = some c' ∧ c'.rv = some c:=fun i j row c hr hc=>by
          rw [chunk_get] at hr
          split at hr
          · rename_i hi
            cases hr
            have hj:j < kk:=by rw [← hrow i hi];exact (List.getElem?_eq_some_iff.1 hc).1
            rw [List.getElem?_take,if_pos hj,List.getElem?_drop] at hc
            have:(i + 1) * kk ≤ n * kk:=Nat.mul_le_mul_right kk hi
            rw [Nat.add_mul] at this
            exact ⟨by omega,hr2 _ _ hc⟩
          · cases hr
        refine ⟨cells,E,kk,?_,fun hI=>?_,ht,hk',hk0,hlt,hlen,(fun i row hr=>by rw [chunk_get] at hr;split at hr<;>cases hr;rename_i hi;exact hrow i hi),hcells,(fun i j row c x hr hc hx=>by
          obtain ⟨h1,c',h2,h3⟩:=hdata i j row c hr hc
          exact rv_ok (I:=K.I) (hf2.2.1 _ _ _ h2 hx) h3),hf2.2.2⟩
        · unfold execOp;rw [ho]
          exact run_val (by rw [← e1] at hrun;exact hrun)
        · have hg:Grow w (w.alloc (.cells cells E)):=(Grow.refl w).alloc _
          have hkp:Keep K.I w (w.alloc (.cells cells E)):=Keep.of_grow hg hI
          refine .d ?_
          by_cases hn0:n = 0
          · subst hn0;simp only [chunk];exact .nil
          have:=RRep.ro (I:=fun b=>K.I b ∨ b = w.heap.size) (w:=w.alloc (.cells cells E)) (rows:=chunk kk n rs) (b:=w.heap.size) (o:=0) (cap:=n) (k:=kk) (f:=fun i j=>cells.toList.getD (i * kk + j) undef) (by intro e;rw [e] at hlen;simp at hlen;omega) (.inr rfl) (by omega) (by omega) hk0
            (fun i row hr=>by rw [chunk_get] at hr;split at hr<;>cases hr;rename_i hi;exact hrow i hi) (fun i j row c hr hc=>?_) (fun i j row c hr hc=>?_)
          · rw [hlen] at this;exact this
          · obtain ⟨h1,c',h2,h3⟩:=hdata i j row c hr hc
            have:=cell_of_block (w:=w.alloc (.cells cells E)) (b:=w.heap.size) (cs:=cells) (T:=E) (fr:=(0,0)) (alloc_at w _) (0 + (i * kk + j))
            rw [this,Nat.zero_add]
            have h1':i * kk + j < cells.size:=by simpa using h1
            simp [List.getD,h1']
          · obtain ⟨h1,c',h2,h3⟩:=hdata i j row c hr hc
            have hx:cells.toList[i * kk + j]? = some (cells.toList.getD (i * kk + j) undef):=by
              have h1':i * kk + j < cells.size:=by simpa using h1
              simp [List.getD,h1']
            exact (rv_ok (I:=K.I) (hf2.2.1 _ _ _ h2 hx) h3).up (fun b hb=>.inl hb) hkp
      · cases hrows
    · cases hrows

theorem bs_core {σ:Sto} {t:TypeId} {n:Nat} {parts:Array (Nat × Operand)} {rows:List (List RV)} (ho:o.op = .buildSlice t n parts) (hop:∀ p ∈ parts.toList,OpOk K w a act.eval p.2) (hrows:bsliceV P t n (parts.toList.map fun p=>(p.1,(opd a p.2).2)) = some rows) (hp:allP (parts.toList.map fun p=>(opd a p.2).1)) :
    ∃ cells E,(execOp act.eval o).run P w = .ok (.value (.slice (some ⟨w.heap.size,0,none⟩) n n)) (w.alloc (.cells cells E)) ∧ ((∀ b,K.I b → b < w.heap.size) → Rep { K with I:=fun b=>K.I b ∨ b = w.heap.size } (w.alloc (.cells cells E)) (.d (.ro rows)) (.slice (some ⟨w.heap.size,0,none⟩) n n)):=by
  obtain ⟨cells,E,kk,h1,h2,_⟩:=bs_core2 (σ:=σ) (act:=act) (w:=w) ho hop hrows hp
  exact ⟨cells,E,h1,h2⟩

theorem bs0_ok (h:Std N r K a l act w) {t:TypeId} {n:Nat} {parts:Array (Nat × Operand)} (ho:o.op = .buildSlice t n parts) (hd:∀ t,o.dst = some t → t < N) (hs:SEbs0 P o.dst k a l t n parts.toList):o.wp P act w (Post N B T0 r K l w k) Q:=by
  unfold SEbs0 at hs
  split at hs
  · rename_i rows hrows
    obtain ⟨hp,hK⟩:=hs
    obtain ⟨cells,E,h1,h2⟩:=bs_core (σ:=sto l r) (act:=act) (w:=w) ho (fun p _=>h.op p.2) hrows hp
    refine wp_of_value h1 ?_
    have hg:Grow w (w.alloc (.cells cells E)):=(Grow.refl w).alloc _
    have hkp:=Keep.of_grow hg h.rs.inI
    have hsame:∀ m,K.same { K with I:=fun b=>K.I b ∨ b = w.heap.size } m:=fun m=>⟨rfl,rfl,rfl,rfl⟩
    have hrs':=h.rs.more (J:=fun b=>b = w.heap.size) hg (fun b hb=>by subst hb;simp)
    have hStd:Std N r { K with I:=fun b=>K.I b ∨ b = w.heap.size } a l act (w.alloc (.cells cells E)):=⟨hrs',h.rf.up (K':={ K with I:=fun b=>K.I b ∨ b = w.heap.size }) (fun b hb=>.inl hb) hkp hsame,h.sz,h.df⟩
    have hrep:Rep { K with I:=fun b=>K.I b ∨ b = w.heap.size } (w.alloc (.cells cells E)) (bif n == 0 then .emp else .d (.ro rows)) (.slice (some ⟨w.heap.size,0,none⟩) n n):=by
      cases hn:n == 0
      · exact h2 h.rs.inI
      · have:n = 0:=by simpa using hn
        subst this;exact .emp
    refine ⟨_,_,_,⟨fun m _ _=>hsame m,fun b hb=>.inl hb,hkp,fun b hb=>?_⟩,hStd.put hd hrep,hK⟩
    rcases hb with (hb | rfl) | ⟨m,h1,h2⟩
    · exact .inl hb
    · exact .inr (.inl (Nat.le_refl _))
    · exact .inr (.inr ⟨m,(live_same (hsame m)).1 h1,h2⟩)
  · exact hs.elim

theorem conv_ok (h:Std N r K a l act w) {s t:TypeId} {x:Operand} (ho:o.op = .convert s t x) (hd:∀ t,o.dst = some t → t < N) (hs:SEconv P o.dst k a l s t x):o.wp P act w (Post N B T0 r K l w k) Q:=by
  unfold SEconv at hs
  split at hs
  · rename_i q u hx
    split at hs
    · rename_i he1 hs1
      obtain ⟨hq,hu,hK⟩:=hs
      have hop:=h.op x
      unfold OpOk at hop
      rw [hx] at hop
      have hv:act.eval x = .string u:=by cases hop hq with | d h=>exact h.int
      obtain ⟨e,he,hk⟩:=Option.bind_eq_some_iff.1 he1
      have hrun:=run_bytes_of_string (P:=P) w s t e u (tstr_u hs1) (run_underlying_el he) (tint_u hk)
      rw [← hv] at hrun
      have h1:(execOp act.eval o).run P w = .ok (.value (.slice (some ⟨w.heap.size,0,none⟩) u.size (grownCap w u.size 0 e))) (w.drew.alloc (.cells (bytesRow u (grownCap w u.size 0 e)) e ((bytesRow u (grownCap w u.size 0 e)).size,(bytesRow u (grownCap w u.size 0 e)).size + 1))):=by
        unfold execOp;rw [ho];exact run_val hrun
      generalize hob:Obj.cells (bytesRow u (grownCap w u.size 0 e)) e ((bytesRow u (grownCap w u.size 0 e)).size,(bytesRow u (grownCap w u.size 0 e)).size + 1) = ob at h1
      refine wp_of_value h1 ?_
      have hsz:w.drew.heap.size = w.heap.size:=rfl
      have hg:Grow w (w.drew.alloc ob):=(Grow.refl w).drew.alloc _
      have hkp:=Keep.of_grow hg h.rs.inI
      have hsame:∀ m,K.same { K with I:=fun b=>K.I b ∨ b = w.heap.size } m:=fun m=>⟨rfl,rfl,rfl,rfl⟩
      have hat:(w.drew.alloc ob).heap[w.heap.size]? = some ob:=alloc_at w.drew _
      have hrs':=h.rs.more (J:=fun b=>b = w.heap.size) hg (fun b hb=>by subst hb;exact ⟨Nat.le_refl _,(Array.getElem?_eq_some_iff.1 hat).1⟩)
      have hStd:Std N r { K with I:=fun b=>K.I b ∨ b = w.heap.size } a l act (w.drew.alloc ob):=⟨hrs',h.rf.up (K':={ K with I:=fun b=>K.I b ∨ b = w.heap.size }) (fun b hb=>.inl hb) hkp hsame,h.sz,h.df⟩
      have hrep:Rep { K with I:=fun b=>K.I b ∨ b = w.heap.size } (w.drew.alloc ob) (.d (.ro (u.data.toList.map fun b=>[.v (.int .u8 b.toNat)]))) (.slice (some ⟨w.heap.size,0,none⟩) u.size (grownCap w u.size 0 e)):=by
        refine .d ?_
        by_cases hn0:u.data.toList = []
        · have h0:u.size = 0:=by
            have:u.data.toList.length = 0:=by rw [hn0];rfl
            rw [Array.length_toList] at this;exact this
          rw [hn0,h0];exact .nil
        · have hlen:(u.data.toList.map fun b=>[RV.v (.int .u8 b.toNat)]).length = u.size:=by rw [List.length_map,Array.length_toList];rfl
          have:=RRep.ro (I:=fun b=>K.I b ∨ b = w.heap.size) (w:=w.drew.alloc ob) (rows:=u.data.toList.map fun b=>[RV.v (.int .u8 b.toNat)]) (b:=w.heap.size) (o:=0) (cap:=grownCap w u.size 0 e) (k:=1) (f:=fun i j=>.int .u8 (u.data.toList.getD i 0).toNat) (by simpa using hn0) (.inr rfl) (by rw [hlen];exact grownCap_ge w u.size 0 e) (by rw [hlen];exact hu) (Nat.le_refl 1)
            (fun i row hr=>by simp only [List.getElem?_map,Option.map_eq_some_iff] at hr;obtain ⟨_,_,rfl⟩:=hr;rfl) (fun i j row c hr hc=>?_) (fun i j row c hr hc=>?_)
          · rw [hlen] at this;exact this
          · have hi:i < u.data.toList.length:=by have:=(List.getElem?_eq_some_iff.1 hr).1;simpa using this
            simp only [List.getElem?_map,Option.map_eq_some_iff] at hr
            obtain ⟨b,hb,rfl⟩:=hr
            have hj:j = 0:=by
              have:=(List.getElem?_eq_some_iff.1 hc).1;simp at this;exact this
            subst hj
            subst hob
            rw [cell_of_block hat (0 + (i * 1 + 0))]
            have hi':i < u.data.size:=by simpa using hi
            rw [Nat.zero_add,Nat.mul_one,Nat.add_zero]
            unfold bytesRow
            rw [Array.getElem?_append_left (by rw [Array.size_map];exact hi'),Array.getElem?_map,← Array.getElem?_toList,hb]
            simp [List.getD,hb]
          · simp only [List.getElem?_map,Option.map_eq_some_iff] at hr
            obtain ⟨b,hb,rfl⟩:=hr
            have hj:j = 0:=by
              have:=(List.getElem?_eq_some_iff.1 hc).1;simp at this;exact this
            subst hj
            simp only [List.getElem?_cons_zero,Option.some.injEq] at hc
            subst hc
            rw [show u.data.toList.getD i 0 = b by simp [List.getD,hb]]
            exact .v rfl
      refine ⟨_,_,_,⟨fun m _ _=>hsame m,fun b hb=>.inl hb,hkp,fun b hb=>?_⟩,hStd.put hd hrep,hK⟩
      rcases hb with (hb | rfl) | ⟨m,h1,h2⟩
      · exact .inl hb
      · exact .inr (.inl (Nat.le_refl _))
      · exact .inr (.inr ⟨m,(live_same (hsame m)).1 h1,h2⟩)
    · exact hs.elim
  · exact hs.elim

theorem freeze_ok (hB:ClosedS B r) (h:Std N r K a l act w) {m k:Nat} {E:TypeId} {rows:List (List RV)} (hm:B ≤ m) (ho:sto l r m = .arr k E rows) :
    ∃ K',Ext B T0 K (sto l r) w K' (sto (Loc.kill m l) r) w ∧ Std N r K' (Fr.map (AV.fz1 m rows) a) (Loc.kill m l) act w:=by
  have hrk:∀ x,(r x).kill m = r x:=fun x=>closed_kill hB hm x
  have hσ:∀ x,sto (Loc.kill m l) r x = .dead ∧ x = m ∨ x ≠ m ∧ sto (Loc.kill m l) r x = (sto l r x).kill m:=fun x=>by
    by_cases hx:x = m
    · subst hx
      refine .inl ⟨?_,rfl⟩
      have:∀ l:Loc,sto (Loc.kill x l) r x = r x:=fun l=>by
        induction l with
        | nil=>rfl
        | cons p l ih =>
          obtain ⟨y,o⟩:=p
          unfold Loc.kill at ih ⊢
          rw [List.filter_cons]
          split
          · rename_i hy
            simp only [ne_eq,decide_not,Bool.not_eq_true',decide_eq_false_iff_not] at hy
            rw [List.map_cons,sto_cons,if_neg (fun e=>hy e.symm)]
            exact ih
          · exact ih
      rw [this];exact (hB x).2 hm
    · exact .inr ⟨hx,sto_kill m r hrk l x hx⟩
  let J:Nat → Prop:=fun b=>(sto l r m).live K m ∧ b = K.blk m
  have hI:∀ b,K.I b → ({ K with I:=fun b=>K.I b ∨ J b }:KS).I b:=fun b hb=>.inl hb
  have hsame:∀ x,K.same ({ K with I:=fun b=>K.I b ∨ J b }:KS) x:=fun x=>⟨rfl,rfl,rfl,rfl⟩
  have hlive:∀ x,(sto (Loc.kill m l) r x).live K x → x ≠ m ∧ (sto l r x).live K x:=fun x hl=>by
    rcases hσ x with ⟨e,_⟩ | ⟨hx,e⟩
    · rw [e] at hl;exact hl.elim
    · rw [e,AO.kill_live] at hl;exact ⟨hx,hl⟩
  refine ⟨{ K with I:=fun b=>K.I b ∨ J b },⟨fun x _ _=>hsame x,hI,Keep.refl _ _,fun b hb=>?_⟩,⟨⟨h.rs.gl.up hI (Keep.refl _ _),fun b hb=>?_,fun x=>?_,fun i j hi hj e=>?_⟩,fun s=>?_,h.sz,h.df⟩⟩
  · rcases hb with (hb | ⟨hl,rfl⟩) | ⟨x,hl,rfl⟩
    · exact .inl hb
    · exact .inr (.inr ⟨m,hl,rfl⟩)
    · exact .inr (.inr ⟨x,(hlive x ((live_same (hsame x)).1 hl)).2,rfl⟩)
  · rcases hb with hb | ⟨hl,rfl⟩
    · exact h.rs.inI b hb
    · exact ((h.rs.obj m).lt hl).1
  · rcases hσ x with ⟨e,_⟩ | ⟨hx,e⟩
    · rw [e];trivial
    · rw [e]
      by_cases hl:(sto l r x).live K x
      · refine RepO.kill (K:=K) (n:=m) hI (Keep.refl _ _) (fun y _=>hsame y) hx (fun hn hi=>hi.elim hn fun ⟨hlm,e⟩=>hx (h.rs.inj x m hl hlm e)) (fun _=>rfl) (h.rs.obj x)
      · have hO:=h.rs.obj x
        cases hs:sto l r x with
        | dead=>trivial
        | box cs=>rw [hs] at hl;exact absurd trivial hl
        | mp _ _=>rw [hs] at hl;exact absurd trivial hl
        | arh _ _ _ _ _=>rw [hs] at hl;exact absurd trivial hl
        | arr k E rows =>
          rw [hs] at hl hO
          obtain ⟨h0,h1 | ⟨h1,_⟩⟩:=hO
          · exact ⟨h0,.inl h1⟩
          · exact absurd h1 hl
  · have h1:=hlive i ((live_same (hsame i)).1 hi)
    have h2:=hlive j ((live_same (hsame j)).1 hj)
    exact h.rs.inj i j h1.2 h2.2 e
  · rw [Fr.get_map _ (by rfl)]
    refine Rep.map (K:=K) (K':={ K with I:=fun b=>K.I b ∨ J b }) (w:=w) (q:=fun _=>true) hI (Keep.refl _ _) (fun n len _=>?_) (fun n o _=>?_) (fun n k i j _=>?_) (h.rf s) (AV.allN_true _)
    · have hos:Rep ({ K with I:=fun b=>K.I b ∨ J b }:KS) w (.os n len) (K.sl n len):=by
        have:K.sl n len = ({ K with I:=fun b=>K.I b ∨ J b }:KS).sl n len:=rfl
        rw [this];exact .os
      split
      · rename_i e
        subst e
        split
        · rename_i hc
          refine .d ?_
          cases hnl:K.nl n
          · refine (h.rs.own_ro ho hc).up (fun b hb=>?_) (Keep.refl _ _)
            rcases hb with hb | rfl
            · exact .inl hb
            · exact .inr ⟨by rw [ho];exact hnl,rfl⟩
          · have hO:=h.rs.obj n
            rw [ho] at hO
            obtain ⟨_,⟨_,hr⟩ | ⟨h2,_⟩⟩:=hO
            · subst hr
              simp only [KS.sl,hnl,cond_true,List.take_nil]
              exact .nil
            · rw [hnl] at h2;cases h2
        · exact .any
      · exact hos
    · split
      · exact .any
      · exact .lp
    · split
      · exact .any
      · exact .ap

theorem bsH_ok (hB:ClosedS B r) (h:Std N r K a l act w) {t:TypeId} {n:Nat} {parts:Array (Nat × Operand)} (ho:o.op = .buildSlice t n parts) (hd:∀ t,o.dst = some t → t < N) (hs:SEbsH P B o.dst k a l t n parts.toList):o.wp P act w (Post N B T0 r K l w k) Q:=by
  unfold SEbsH at hs
  split at hs
  · rename_i dd E kk cs hdst ht hk' hcs
    obtain ⟨hn1,hp,hK⟩:=hs
    subst hn1
    have hk:tsz P E = some kk:=by rw [ht] at hk';exact hk'
    unfold bsliceA at hcs
    split at hcs
    · rename_i E' kk' z ht2 hk2 hz'
      rw [ht] at ht2;cases ht2
      rw [hk'] at hk2;cases hk2
      have hz:tzero P E = some z:=by rw [ht] at hz';exact hz'
      split at hcs
      · rename_i hc
        obtain ⟨hzl,hk0,h24⟩:=hc
        obtain ⟨⟨zv,hz1,hz2⟩,hz3⟩:=tzero_ok hz
        have hzlen:(z.map fun x=>AV.d (.v x)).length = kk:=by simpa using hzl
        have hC0:RepC K w (repl 1 (z.map fun x=>.d (.v x))) ((Array.range (1 * kk)).map (fun i=>z.toArray[i % z.toArray.size]!)).toList:=by
          refine ⟨by rw [repl_length hzlen];simp,fun i c x hc hx=>?_,fun x hx=>?_⟩
          · rw [repl_get hzlen hk0] at hc
            split at hc
            · rename_i hi
              have hm:i % kk < z.length:=by rw [hzl];exact Nat.mod_lt _ hk0
              simp only [List.getElem?_map,List.getElem?_eq_getElem hm,Option.map_some,Option.some.injEq] at hc
              subst hc
              have hxe:x = z[i % kk]:=by
                simp only [Array.toList_map,Array.toList_range,List.getElem?_map,List.getElem?_range hi,Option.map_some,Option.some.injEq,List.size_toArray,hzl] at hx
                rw [← hx];simp [hm]
              rw [hxe];exact .d (.v (hz3 _ (List.getElem_mem hm)))
            · cases hc
          · simp only [Array.toList_map,List.mem_map,Array.toList_range,List.mem_range,List.size_toArray,hzl] at hx
            obtain ⟨i,hi,rfl⟩:=hx
            have hm:i % kk < z.length:=by rw [hzl];exact Nat.mod_lt _ hk0
            have e:z.toArray[i % kk]! = z[i % kk]:=by simp [hm]
            rw [e];exact hz3 _ (List.getElem_mem hm)
        obtain ⟨cells,hf1,hf2⟩:=afill_ok (vals:=parts.toList.map fun p=>(p.1,act.eval p.2)) hC0 (by simp) (fun m p q h1 h2=>by
          simp only [List.getElem?_map] at h1 h2
          cases hzz:parts.toList[m]? with
          | none=>simp [hzz] at h1
          | some zz =>
            simp [hzz] at h1 h2
            subst h1;subst h2
            have hm:=List.mem_of_getElem? hzz
            exact ⟨rfl,h.op zz.2 (allP_mem hp _ (List.mem_map.2 ⟨zz,hm,rfl⟩))⟩) hcs
        have hcl:cs.length = kk:=by rw [afill_length hcs,repl_length hzlen];omega
        have hcells:cells.toList.length = kk:=by rw [← hf2.1];exact hcl
        have hrun:(Instr.buildSlice t 1 (parts.toList.map fun p=>(p.1,act.eval p.2)).toArray).run P w = .ok (.slice (some ⟨w.heap.size,0,none⟩) 1 1) (w.alloc (.cells cells E)):=by
          unfold Instr.buildSlice
          simp only [Sem.run_bind,run_underlying (run_underlying_el ht),Result.andThen,run_sizeOf' hk]
          rw [if_neg (by omega)]
          rw [if_neg (by omega)]
          simp only [Sem.run_bind,hz1,Result.andThen,pure_bind,hz2,hf1]
          simp [newRow]
        have e1:(parts.map fun (p:Nat × Operand)=>(p.1,act.eval p.2)) = (parts.toList.map fun p=>(p.1,act.eval p.2)).toArray:=(map_list _ _).symm
        refine wp_of_value (y:=.slice (some ⟨w.heap.size,0,none⟩) 1 1) (w':=w.alloc (.cells cells E)) ?_ ?_
        · unfold execOp;rw [ho]
          exact run_val (by rw [← e1] at hrun;exact hrun)
        rw [hdst]
        have hdl:=hd dd hdst
        have hg:Grow w (w.alloc (.cells cells E)):=(Grow.refl w).alloc _
        have hkp:=Keep.of_grow hg h.rs.inI
        have:=bindArr_ok (T0:=T0) (k:=k) (nm:=B + dd) (obj:=.arh kk E [] (cs.map (AV.kill (B + dd))) []) (K':=K.new (B + dd) w.heap.size 1) (w':=w.alloc (.cells cells E)) (total:=1) h hdl (.inl (Nat.le_add_right B dd)) (fun m=>closed_kill hB (Nat.le_add_right B dd) m) rfl (fun m hm=>KS.new_same K _ _ _ m hm) hkp
          (fun m hm hl=>hg.heap ((h.rs.obj m).lt hl).1) ?_ (fun m hm hl _=>by have:=((h.rs.obj m).lt hl).1;simp only [KS.new,if_true];omega) (fun _=>.inl (by simp [KS.new])) hK
        · simpa [KS.sl,KS.new] using this
        · refine ⟨hk0,by simp [KS.new],fun hi=>?_,cells.toList,?_,?_,by simp [KS.new,hrows],by simp [KS.new,maxLen],by simp [hrows],fun i r hr=>?_,fun i j r c x hr hc hx=>?_,hf2.2.2⟩
          · have:=h.rs.inI _ hi
            simp [KS.new] at this
          · simp only [KS.new,if_true];exact alloc_at _ _
          · simp only [KS.new,if_true,Nat.one_mul];exact hcells
          · rcases hrows_mem hr with ⟨rfl,_⟩ | ⟨hne,r',rfl⟩
            · simpa using hcl
            · have:i < 1:=(List.getElem?_eq_some_iff.1 hr).1
              simp at hne;omega
          · have hi:i < 1:=(List.getElem?_eq_some_iff.1 hr).1
            have hi0:i = 0:=by omega
            subst hi0
            simp only [hrows,List.map_nil,List.nil_append,List.getElem?_cons_zero,Option.some.injEq] at hr
            subst hr
            rw [List.getElem?_map] at hc
            cases hq:cs[j]? with
            | none=>simp [hq] at hc
            | some c' =>
              simp only [hq,Option.map_some,Option.some.injEq] at hc;subst hc
              exact Rep.kill (K:=K) (K':=K.new (B + dd) w.heap.size 1) (n:=B + dd) (fun _ h=>h) hkp (fun m hm=>KS.new_same K _ _ _ m hm) (hf2.2.1 j c' x hq (by simpa using hx))
      · cases hcs
    · cases hcs
  · exact hs.elim

theorem bs_ok (hB:ClosedS B r) (h:Std N r K a l act w) {t:TypeId} {n:Nat} {parts:Array (Nat × Operand)} (ho:o.op = .buildSlice t n parts) (hd:∀ t,o.dst = some t → t < N) (hs:SEbs P B T0 r o.dst k a l t n parts.toList):o.wp P act w (Post N B T0 r K l w k) Q:=by
  unfold SEbs at hs
  cases h9:litH T0 n (parts.toList.map fun p=>(opd a p.2).2) with
  | true=>rw [h9] at hs;exact bsH_ok hB h ho hd hs
  | false =>
  rw [h9] at hs
  simp only [cond_false] at hs
  cases h24:ownLit T0 n with
  | true =>
    rw [h24] at hs
    simp only [cond_true] at hs
    split at hs
    · rename_i dd E kk rows hdst ht hk' hrows
      obtain ⟨hp,hK⟩:=hs
      obtain ⟨cells,E',kk',h1,_,g1,g2,hk0,hn24,g5,g6,g7,g8,g9⟩:=bs_core2 (σ:=sto l r) (act:=act) (w:=w) ho (fun p _=>h.op p.2) hrows hp
      rw [ht] at g1;cases g1
      rw [hk'] at g2;cases g2
      refine wp_of_value h1 ?_
      rw [hdst]
      have hdl:=hd dd hdst
      have hg:Grow w (w.alloc (.cells cells E)):=(Grow.refl w).alloc _
      have hkp:=Keep.of_grow hg h.rs.inI
      have:=bindArr_ok (T0:=T0) (k:=k) (nm:=B + dd) (obj:=.arr kk E rows) (K':=K.new (B + dd) w.heap.size n) (w':=w.alloc (.cells cells E)) (total:=n) h hdl (.inl (Nat.le_add_right B dd)) (fun m=>closed_kill hB (Nat.le_add_right B dd) m) rfl (fun m hm=>KS.new_same K _ _ _ m hm) hkp
        (fun m hm hl=>hg.heap ((h.rs.obj m).lt hl).1) ?_ (fun m hm hl _=>by have:=((h.rs.obj m).lt hl).1;simp only [KS.new,if_true];omega) (fun _=>.inl (by simp [KS.new])) hK
      · simpa [KS.sl,KS.new] using this
      · refine ⟨hk0,.inr ⟨by simp [KS.new],fun hi=>?_,cells.toList,?_,?_,by simp [KS.new,g5],by simp [KS.new,maxLen];omega,by omega,g6,fun i j r c x hr hc hx=>(g8 i j r c x hr hc hx).up (fun _ h=>h) hkp,g9⟩⟩
        · have:=h.rs.inI _ hi
          simp [KS.new] at this
        · simp only [KS.new,if_true];exact alloc_at _ _
        · simp only [KS.new,if_true];exact g7
    · exact hs.elim
  | false =>
    rw [h24] at hs
    simp only [cond_false] at hs
    split at hs
    · rename_i rows hrows
      refine bs0_ok h ho hd ?_
      unfold SEbs0;rw [hrows];exact hs
    · split at hs
      · split at hs
        · rename_i m _ kk E rows hst
          split at hs
          · rename_i hm
            obtain ⟨K',hE,hStd⟩:=freeze_ok (T0:=T0) hB h hm hst
            refine Oper.wp_mono ?_ (bs0_ok (B:=B) (T0:=T0) hStd ho hd hs)
            rintro act' w' ⟨K2,a',l',g1,g2,g3⟩
            exact ⟨K2,a',l',hE.trans g1,g2,g3⟩
          · exact bsH_ok hB h ho hd hs
        · exact hs.elim
      · exact hs.elim

theorem mk_ok (hB:ClosedS B r) (h:Std N r K a l act w) {t:TypeId} {ln c:Operand} (ho:o.op = .makeSlice t ln c) (hd:∀ t,o.dst = some t → t < N) (hs:SEmk P B o.dst k a l t ln c):o.wp P act w (Post N B T0 r K l w k) Q:=by
  unfold SEmk at hs
  split at hs
  · rename_i dd E kk by_ z q1 k1 n q2 k2 m hdst ht hk' hb' hz' hln hcp
    have hk:tsz P E = some kk:=by rw [ht] at hk';exact hk'
    have hb:tby P E = some by_:=by rw [ht] at hb';exact hb'
    have hz:tzero P E = some z:=by rw [ht] at hz';exact hz'
    obtain ⟨hq1,hq2,hnm,h0,hzl,hk0,hby,hle,hK⟩:=hs
    subst hnm
    have hdl:=hd dd hdst
    have e1:act.eval ln = .int k1 n:=by
      have:=h.op ln;unfold OpOk at this;rw [hln] at this
      cases this hq1 with | d h=>exact h.int
    have e2:act.eval c = .int k2 n:=by
      have:=h.op c;unfold OpOk at this;rw [hcp] at this
      cases this hq2 with | d h=>exact h.int
    obtain ⟨i,v,hi,f1,f2,f3,f4⟩:=info_of hk hb hz
    have hz1:=(tzero_ok hz).2
    have hrun:=run_make (P:=P) w t E i v (run_underlying_el ht) hi f3 k1 k2 n n h0 (Int.le_refl _) (by rw [f2];have:(by_:Int) * n = n * by_:=Int.mul_comm _ _;omega) (by omega)
    rw [← e1,← e2] at hrun
    have hcells:madeCells v.cells (n.toNat * i.size) = (repl n.toNat z).toArray:=by
      rw [f4,f1]
      apply Array.ext_getElem?
      intro p
      simp only [List.getElem?_toArray]
      rw [repl_get hzl hk0]
      by_cases hp:p < n.toNat * kk
      · rw [if_pos hp]
        have hm:p % kk < z.length:=by rw [hzl];exact Nat.mod_lt _ hk0
        have hm':p % z.length < z.length:=by rw [hzl];rw [hzl] at hm;exact hm
        simp only [List.getElem?_eq_getElem hm]
        simp [madeCells,hp,hzl]
        rw [List.getElem?_eq_getElem hm,Option.getD_some]
      · rw [if_neg hp]
        simp [madeCells];omega
    rw [hcells] at hrun
    refine wp_of_value (y:=.slice (some ⟨w.heap.size,0,none⟩) n.toNat n.toNat) (w':=w.alloc (.cells (repl n.toNat z).toArray E)) ?_ ?_
    · unfold execOp;rw [ho]
      exact run_val hrun
    · rw [hdst]
      have hg:Grow w (w.alloc (.cells (repl n.toNat z).toArray E)):=(Grow.refl w).alloc _
      have hkp:=Keep.of_grow hg h.rs.inI
      have:=bindArr_ok (T0:=T0) (k:=k) (nm:=B + dd) (obj:=.arr kk E (List.replicate n.toNat (z.map fun x=>(RV.v x).nrm))) (K':=K.new (B + dd) w.heap.size n.toNat) (w':=w.alloc (.cells (repl n.toNat z).toArray E)) (total:=n.toNat) h hdl (.inl (Nat.le_add_right B dd)) (fun m=>closed_kill hB (Nat.le_add_right B dd) m) rfl (fun m hm=>KS.new_same K _ _ _ m hm) hkp
        (fun m hm hl=>hg.heap ((h.rs.obj m).lt hl).1) ?_ (fun m hm hl _=>by have:=((h.rs.obj m).lt hl).1;simp only [KS.new,if_true];omega) (fun _=>.inl (by simp [KS.new])) hK
      · simpa [KS.sl,KS.new] using this
      · refine ⟨hk0,.inr ⟨by simp [KS.new],fun hi=>?_,repl n.toNat z,?_,?_,by simp [KS.new],by simp [KS.new,maxLen];omega,by simp;omega,fun i r hr=>?_,fun i j r c x hr hc hx=>?_,fun y hy=>?_⟩⟩
        · have:=h.rs.inI _ hi
          simp [KS.new] at this
        · simp only [KS.new,if_true];exact alloc_at _ _
        · simp only [KS.new,if_true];exact repl_length hzl _
        · have:=List.eq_of_mem_replicate (List.mem_of_getElem? hr)
          subst this;simpa using hzl
        · have hrr:=List.eq_of_mem_replicate (List.mem_of_getElem? hr)
          subst hrr
          simp only [List.getElem?_map] at hc
          cases hb2:z[j]? with
          | none=>simp [hb2] at hc
          | some b =>
            simp [hb2] at hc
            subst hc
            have hj:j < kk:=by rw [← hzl];exact (List.getElem?_eq_some_iff.1 hb2).1
            rw [repl_get hzl hk0] at hx
            split at hx
            · rw [(divmod_row hj).2,hb2] at hx
              cases hx
              exact nrm_ok (hz1 _ (List.mem_of_getElem? hb2))
            · cases hx
        · obtain ⟨p,hp⟩:=List.mem_iff_getElem?.1 hy
          rw [repl_get hzl hk0] at hp
          split at hp
          · exact hz1 _ (List.mem_of_getElem? hp)
          · cases hp
  · exact hs.elim
end
end Go.Proofs.Ytikgiadbkjmabaa

/- What operations that make memory or write do to the store: as said (7): calls;all in one. No program in sight. -/
namespace Go.Proofs.Ytikgiadbkjmabaa
open Go.RowKit
set_option linter.unusedSimpArgs false
set_option linter.unusedVariables false

mutual
theorem AV.mapN_allN {p q:Nat → Bool} {fo fl:Nat → Nat → AV} {fa:Nat → Nat → Nat → Nat → AV} (h1:∀ n l,p n = true → (fo n l).allN q = true) (h2:∀ n l,p n = true → (fl n l).allN q = true) (h3:∀ n k i j,p n = true → (fa n k i j).allN q = true) :
    ∀ v:AV,v.allN p = true → (v.mapN fo fl fa).allN q = true
  | .any,_ | .d _,_ | .emp,_ | .rp _,_=>rfl
  | .gd _ v,h=>by simp only [AV.mapN,AV.allN] at h ⊢;exact AV.mapN_allN h1 h2 h3 v h
  | .agg cs,h=>by simp only [AV.mapN,AV.allN] at h ⊢;exact AV.mapNL_allN h1 h2 h3 cs h
  | .tup cs,h=>by simp only [AV.mapN,AV.allN] at h ⊢;exact AV.mapNL_allN h1 h2 h3 cs h
  | .clo f a b,h=>by simp only [AV.mapN,AV.allN,Bool.and_eq_true] at h ⊢;exact ⟨AV.mapNL_allN h1 h2 h3 a h.1,AV.mapNL_allN h1 h2 h3 b h.2⟩
  | .os n l,h=>h1 n l h
  | .lp n l,h=>h2 n l h
  | .ap n k i j,h=>h3 n k i j h
  | .mp n,h=>by
    have:=h2 n 0 h
    simp only [AV.mapN]
    split
    · rename_i m o e;rw [e] at this;exact this
    · rfl
  | .sb n k i len,h=>by
    have:=h1 n (len + 1) h
    simp only [AV.mapN]
    split
    · rename_i m o e;rw [e] at this;exact this
    · rfl
theorem AV.mapNL_allN {p q:Nat → Bool} {fo fl:Nat → Nat → AV} {fa:Nat → Nat → Nat → Nat → AV} (h1:∀ n l,p n = true → (fo n l).allN q = true) (h2:∀ n l,p n = true → (fl n l).allN q = true) (h3:∀ n k i j,p n = true → (fa n k i j).allN q = true) :
    ∀ cs:List AV,AV.allNL p cs = true → AV.allNL q (AV.mapNL fo fl fa cs) = true
  | [],_=>rfl
  | c :: cs,h=>by simp only [AV.mapNL,AV.allNL,Bool.and_eq_true] at h ⊢;exact ⟨AV.mapN_allN h1 h2 h3 c h.1,AV.mapNL_allN h1 h2 h3 cs h.2⟩
end

mutual
theorem AV.allN_and {p q:Nat → Bool}:∀ v:AV,v.allN p = true → v.allN q = true → v.allN (fun n=>p n && q n) = true
  | .any,_,_ | .d _,_,_ | .emp,_,_ | .rp _,_,_=>rfl
  | .gd _ v,h,h'=>AV.allN_and v h h'
  | .agg cs,h,h'=>AV.allNL_and cs h h'
  | .tup cs,h,h'=>AV.allNL_and cs h h'
  | .clo f a b,h,h'=>by simp only [AV.allN,Bool.and_eq_true] at h h' ⊢;exact ⟨AV.allNL_and a h.1 h'.1,AV.allNL_and b h.2 h'.2⟩
  | .os n l,h,h'=>by simp only [AV.allN] at h h' ⊢;rw [h,h'];rfl
  | .lp n l,h,h'=>by simp only [AV.allN] at h h' ⊢;rw [h,h'];rfl
  | .ap n _ _ _,h,h'=>by simp only [AV.allN] at h h' ⊢;rw [h,h'];rfl
  | .mp n,h,h'=>by simp only [AV.allN] at h h' ⊢;rw [h,h'];rfl
  | .sb n _ _ _,h,h'=>by simp only [AV.allN] at h h' ⊢;rw [h,h'];rfl
theorem AV.allNL_and {p q:Nat → Bool}:∀ cs:List AV,AV.allNL p cs = true → AV.allNL q cs = true → AV.allNL (fun n=>p n && q n) cs = true
  | [],_,_=>rfl
  | c :: cs,h,h'=>by simp only [AV.allNL,Bool.and_eq_true] at h h' ⊢;exact ⟨AV.allN_and c h.1 h'.1,AV.allNL_and cs h.2 h'.2⟩
end

theorem AV.kill_allN {p q:Nat → Bool} {n:Nat} (h:∀ m,p m = true → m ≠ n → q m = true) (v:AV) (hv:v.allN p = true):(v.kill n).allN q = true:=by
  refine AV.mapN_allN (p:=p) (fun m l hm=>?_) (fun m l hm=>?_) (fun m k i j hm=>?_) v hv <;>
    (split
     · rfl
     · rename_i e;exact h m hm e)

theorem Fr.allN_iff {q:Nat → Bool} {a:Fr}:a.allN q = true ↔ ∀ p ∈ a,p.2.allN q = true:=by simp [Fr.allN]

theorem newF_allN {p q:Nat → Bool} {n:Nat} (h:∀ m,p m = true → m ≠ n → q m = true) {a:Fr} (ha:a.allN p = true):(newF n a).allN q = true:=by
  rw [Fr.allN_iff] at ha ⊢
  intro x hx
  simp only [newF,Fr.map,List.mem_map] at hx
  obtain ⟨y,hy,rfl⟩:=hx
  exact AV.kill_allN h _ (ha y hy)

theorem killT_allN:∀ (T:List Nat) {S:List Nat} {a:Fr},a.allN (fun m=>!S.contains m) = true → (killT T a).allN (fun m=>!(S.contains m) && !(T.contains m)) = true
  | [],S,a,h=>by simpa [killT] using h
  | n :: T,S,a,h=>by
    have h1:(newF n a).allN (fun m=>!(n :: S).contains m) = true:=newF_allN (fun m hm hne=>by simp at hm ⊢;exact ⟨hne,hm⟩) h
    have:=killT_allN T h1
    simp only [killT,List.foldl_cons] at this ⊢
    rw [Fr.allN_iff] at this ⊢
    intro x hx
    have h2:=this x hx
    have:(fun m=>!(S.contains m) && !((n :: T).contains m)) = (fun m=>!((n :: S).contains m) && !(T.contains m)):=by
      funext m;simp only [List.contains_cons];cases (m == n)<;>cases S.contains m<;>cases T.contains m<;>rfl
    rw [this];exact h2

theorem Fr.allN_true (a:Fr):a.allN (fun _=>true) = true:=by rw [Fr.allN_iff];exact fun p _=>AV.allN_true _

theorem killT_ok {K:KS} {w:World} {a:Fr} {t:Array Value} (T:List Nat) (h:RepF K w a t):RepF K w (killT T a) t:=by
  induction T generalizing a with
  | nil=>exact h
  | cons n T ih=>simp only [killT,List.foldl_cons];exact ih (h.kill (fun _ h=>h) (Keep.refl _ _) (fun _ _=>⟨rfl,rfl,rfl,rfl⟩))

theorem RepO.weak {K:KS} {w:World} {m n:Nat} {o:AO} (h:RepO K w m o):RepO K w m (o.kill n):=by
  cases o with
  | dead=>trivial
  | arr=>exact h
  | mp=>exact h
  | arh k E p hh q=>exact ArvOk.map ⟨rfl,rfl,rfl,rfl⟩ (fun _ h=>h) (Keep.refl _ _) (fun h=>h) rfl (by simp) (fun j c c' x hc hc' hx=>by
      rw [List.getElem?_map,hc] at hc'
      cases hc';exact hx.kill (K':=K) (fun _ h=>h) (Keep.refl _ _) (fun _ _=>⟨rfl,rfl,rfl,rfl⟩)) h
  | box cs =>
    obtain ⟨h1,xs,T,h2,h3,h4,h5⟩:=h
    refine ⟨h1,xs,T,h2,by simpa using h3,fun i c x hc hx=>?_,h5⟩
    simp only [List.getElem?_map] at hc
    cases hc':cs[i]? with
    | none=>simp [hc'] at hc
    | some c'=>simp [hc'] at hc;subst hc;exact (h4 i c' x hc' hx).kill (K':=K) (fun _ h=>h) (Keep.refl _ _) (fun _ _=>⟨rfl,rfl,rfl,rfl⟩)

theorem sto_map (f:AO → AO) (r:Sto):∀ (l:Loc) (m:Nat),sto (l.map fun p=>(p.1,f p.2)) r m = f (sto l r m) ∨ sto (l.map fun p=>(p.1,f p.2)) r m = sto l r m
  | [],m=>.inr rfl
  | (k,o) :: l,m=>by
    simp only [List.map_cons,sto_cons]
    split
    · exact .inl rfl
    · exact sto_map f r l m

theorem killO_ok {K:KS} {w:World} {l:Loc} {r:Sto} (T:List Nat) (h:RepS K (sto l r) w):RepS K (sto (killO T l) r) w:=by
  induction T generalizing l with
  | nil=>exact h
  | cons n T ih =>
    simp only [killO,List.foldl_cons]
    refine ih ⟨h.gl,h.inI,fun m=>?_,fun i j hi hj e=>h.inj i j ?_ ?_ e⟩
    · rcases sto_map (AO.kill n) r l m with e | e<;>rw [e]
      · exact (h.obj m).weak
      · exact h.obj m
    · rcases sto_map (AO.kill n) r l i with e | e<;>rw [e] at hi
      · exact AO.kill_live.1 hi
      · exact hi
    · rcases sto_map (AO.kill n) r l j with e | e<;>rw [e] at hj
      · exact AO.kill_live.1 hj
      · exact hj

theorem killO_live {K:KS} {l:Loc} {r:Sto} (T:List Nat) {n:Nat} (h:(sto (killO T l) r n).live K n):(sto l r n).live K n:=by
  induction T generalizing l with
  | nil=>exact h
  | cons m T ih =>
    simp only [killO,List.foldl_cons] at h
    have:=ih h
    rcases sto_map (AO.kill m) r l n with e | e<;>rw [e] at this
    · exact AO.kill_live.1 this
    · exact this

theorem AV.allN_mono {p q:Nat → Bool} (h:∀ n,p n = true → q n = true) (v:AV) (hv:v.allN p = true):v.allN q = true:=by
  have:=AV.mapN_allN (p:=p) (q:=q) (fo:=.os) (fl:=.lp) (fa:=.ap) (fun n l hn=>h n hn) (fun n l hn=>h n hn) (fun n k i j hn=>h n hn) v hv
  rwa [AV.mapN_id] at this

theorem AO.allN_mono {p q:Nat → Bool} (h:∀ n,p n = true → q n = true) {o:AO} (ho:o.allN p = true):o.allN q = true:=by
  cases o with
  | box cs=>exact AV.allNL_iff.2 fun c hc=>AV.allN_mono h c (AV.allNL_iff.1 ho c hc)
  | arh _ _ _ cs _=>exact AV.allNL_iff.2 fun c hc=>AV.allN_mono h c (AV.allNL_iff.1 ho c hc)
  | dead=>rfl
  | mp=>rfl
  | arr=>rfl

theorem AO.kill_allN {q:Nat → Bool} {n:Nat} {o:AO} (ho:o.allN q = true):(o.kill n).allN q = true:=by
  cases o with
  | box cs =>
    refine AV.allNL_iff.2 fun c hc=>?_
    simp only [List.mem_map] at hc
    obtain ⟨c',hc',rfl⟩:=hc
    exact AV.kill_allN (fun m hm _=>hm) c' (AV.allNL_iff.1 ho c' hc')
  | arh _ _ _ cs _ =>
    refine AV.allNL_iff.2 fun c hc=>?_
    simp only [List.mem_map] at hc
    obtain ⟨c',hc',rfl⟩:=hc
    exact AV.kill_allN (fun m hm _=>hm) c' (AV.allNL_iff.1 ho c' hc')
  | dead=>rfl
  | mp=>rfl
  | arr=>rfl

theorem Loc.below_iff {B:Nat} {l:Loc}:l.below B ↔ ∀ p ∈ l,p.1 < B ∧ p.2.allN (fun m=>decide (m < B)) = true:=by simp [Loc.below]

theorem closed_sto {B B':Nat} {l:Loc} {r:Sto} (hr:ClosedS B r) (hB:B ≤ B') (hl:l.below B'):ClosedS B' (sto l r):=by
  rw [Loc.below_iff] at hl
  induction l with
  | nil=>exact fun n=>⟨AO.allN_mono (fun m hm=>by simp at hm ⊢;omega) (hr n).1,fun hn=>(hr n).2 (by omega)⟩
  | cons p l ih =>
    obtain ⟨m,o⟩:=p
    have ih':=ih fun p hp=>hl p (List.mem_cons_of_mem _ hp)
    intro n
    rw [sto_cons]
    split
    · rename_i e
      have:=hl (m,o) (by simp)
      exact ⟨this.2,fun hn=>by have:=this.1;simp at this;omega⟩
    · exact ih' n

section
variable {P:Program} {N B:Nat} {T0:List Nat} {r:Sto} {K:KS} {k:Fr → Loc → Prop} {a:Fr} {l:Loc} {act:Act} {w:World} {o:Oper} {Q:Exit → Act → World → Prop}

def PostF (N B:Nat) (T0:List Nat) (r:Sto) (S:KS → Prop) (l:Loc) (w:World) (k:Fr → Loc → Prop) (act':Act) (w':World):Prop :=
  ∃ a' l',k a' l' ∧ ∀ K,S K → ∃ K',Ext B T0 K (sto l r) w K' (sto l' r) w' ∧ Std N r K' a' l' act' w'

theorem weak_step {S:KS → Prop} {a1:Fr} {l1:Loc} (hS:∃ K,S K) (h:∀ K,S K → Std N r K a l act w) (hw:Wk B T0 r a l a1 l1)
    (H:∀ S1:KS → Prop,(∃ K,S1 K) → (∀ K,S1 K → Std N r K a1 l1 act w) → o.wp P act w (PostF N B T0 r S1 l1 w k) Q):o.wp P act w (PostF N B T0 r S l w k) Q:=by
  have key:∀ K,S K → ∃ K',Ext B T0 K (sto l r) w K' (sto l1 r) w ∧ Std N r K' a1 l1 act w:=fun K hK=>by
    obtain ⟨K',e1,e2,e3⟩:=hw act.tmps w K (h K hK).rs (h K hK).rf
    exact ⟨K',e1,e2,e3,(h K hK).sz,(h K hK).df⟩
  have hne:∃ K',(fun K'=>∃ K,S K ∧ Ext B T0 K (sto l r) w K' (sto l1 r) w ∧ Std N r K' a1 l1 act w) K':=by
    obtain ⟨K0,hK0⟩:=hS
    obtain ⟨K',f1,f2⟩:=key K0 hK0
    exact ⟨K',K0,hK0,f1,f2⟩
  refine Oper.wp_mono ?_ (H _ hne (fun K' ⟨_,_,_,hh⟩=>hh))
  rintro act' w' ⟨a',l',g1,g2⟩
  refine ⟨a',l',g1,fun K hK=>?_⟩
  obtain ⟨K',f1,f2⟩:=key K hK
  obtain ⟨K2,e1,e2⟩:=g2 K' ⟨K,hK,f1,f2⟩
  exact ⟨K2,f1.trans e1,e2⟩

theorem called_ok {S:KS → Prop} (hB:ClosedS B r) (hS:∃ K,S K) (h:∀ K,S K → Std N r K a l act w) (hd:∀ t,o.dst = some t → t < N) {f:FuncId} {T:List Nat} {R:AV → Sto → Prop} {avs:List AV} {xs:List Value} (hrun:(execOp act.eval o).run P w = .ok (.enter f xs.toArray) w)
    (hlen:avs.length = xs.length) (hreps:∀ K,S K → ∀ (i:Nat) (c:AV) (x:Value),avs[i]? = some c → xs[i]? = some x → Rep K w c x) (hT:∀ n ∈ T,n < B → n ∈ T0) (hA:ACalls P f avs (sto l r) (B + 100000) T R)
    (hF:Fr.below (B + 100000) (killT T a)) (hL:Loc.below (B + 100000) l) (hk:∀ v σ',R v σ' → ∃ l',σ' = sto l' r ∧ k (putO o.dst v (killT T a)) l'):o.wp P act w (PostF N B T0 r S l w k) Q:=by
  unfold Oper.wp
  rw [hrun]
  simp only [Oper.upon]
  have hpre:∀ K,S K → Pre avs (sto l r) (B + 100000) xs w K:=fun K hK=>⟨(h K hK).rs,closed_sto hB (by omega) hL,hlen,hreps K hK⟩
  obtain ⟨K0,hK0⟩:=hS
  refine (hA xs w ⟨K0,hpre K0 hK0⟩).mono fun e w' ⟨x,v,σ',he,hR,hall⟩=>?_
  subst he
  obtain ⟨l',rfl,hKk⟩:=hk v σ' hR
  refine ⟨_,l',hKk,fun K hK=>?_⟩
  have hs:=h K hK
  obtain ⟨K',hE,hS',hv⟩:=hall K (hpre K hK)
  have hF2:RepF K' w' (killT T a) act.tmps:=by
    refine (killT_ok T hs.rf).upQ (q:=fun n=>decide (n < B + 100000) && !T.contains n) hE.sub hE.keep (fun n hn=>?_) ?_
    · simp at hn;exact hE.same n hn.1 hn.2
    · rw [Fr.allN_iff]
      intro p hp
      have h1:=Fr.allN_iff.1 hF p hp
      have h2:=Fr.allN_iff.1 (killT_allN T (S:=[]) (a:=a) (by simpa using Fr.allN_true a)) p hp
      have h3:=AV.allN_and p.2 h1 h2
      exact AV.allN_mono (fun n hn=>by simpa using hn) _ h3
  have hStd:Std N r K' (killT T a) l' act w':=⟨hS',hF2,hs.sz,hs.df⟩
  refine ⟨K',⟨fun n hn hn0=>hE.same n (by omega) (fun hnT=>hn0 (hT n hnT hn)),hE.sub,hE.keep,hE.orig⟩,hStd.put hd hv⟩

theorem call_ok {S:KS → Prop} (hB:ClosedS B r) (hS:∃ K,S K) (h:∀ K,S K → Std N r K a l act w) {f:FuncId} {c:Call} (ho:o.op = .call c) (hc:c.callee = .value (.func f)) (hd:∀ t,o.dst = some t → t < N) (hs:SEcall P B T0 r o.dst k a l f c.args.toList):o.wp P act w (PostF N B T0 r S l w k) Q:=by
  obtain ⟨T,R,a1,l1,hwk,hent,hT,hA,hp,hF,hL,hk⟩:=hs
  refine weak_step hS h hwk fun S hS h=>?_
  have hop:∀ K,S K → ∀ x,OpOk K w a1 act.eval x:=fun K hK x=>(h K hK).op x
  refine called_ok hB hS h hd ?_ (by simp) (fun K hK=>(reps_list (xs:=c.args.toList) (fun x _=>hop K hK x) hp).2) hT hA hF hL hk
  have e:(c.args.toList.map act.eval).toArray = c.args.map act.eval:=map_list _ _
  obtain ⟨cal,args,ats⟩:=c
  simp only at hc e
  subst hc
  unfold execOp;rw [ho]
  simp only [resolve,Act.eval,Deferred.ofValue,pure_bind,invoke]
  rw [e]
  have:=enters_run (P:=P) hent (args.map act.eval) w
  simpa using this

theorem callv_ok {S:KS → Prop} (hB:ClosedS B r) (hS:∃ K,S K) (h:∀ K,S K → Std N r K a l act w) {x:Operand} {c:Call} (ho:o.op = .call c) (hc:c.callee = .value x) (hd:∀ t,o.dst = some t → t < N) (hs:SEcallv P B T0 r o.dst k a l x c.args.toList):o.wp P act w (PostF N B T0 r S l w k) Q:=by
  obtain ⟨T,R,a1,l1,hwk,hT,hA,hx,hp,hF,hL,hk⟩:=hs
  refine weak_step hS h hwk fun S hS h=>?_
  have hop:∀ K,S K → ∀ x,OpOk K w a1 act.eval x:=fun K hK x=>(h K hK).op x
  unfold ACallv at hA
  split at hA
  · rename_i f first cap e
    obtain ⟨hent,hA⟩:=hA
    have key:∀ K,S K → ∃ fs cs,act.eval x = .func (.func f) (List.toArray fs) (List.toArray cs) ∧ first.length = fs.length ∧ cap.length = cs.length ∧ (∀ (i:Nat) (c:AV) (x:Value),first[i]? = some c → fs[i]? = some x → Rep K w c x) ∧ (∀ (i:Nat) (c:AV) (x:Value),cap[i]? = some c → cs[i]? = some x → Rep K w c x):=fun K hK=>by
      have hv:=hop K hK x hx
      rw [e] at hv
      generalize act.eval x = y at hv
      cases hv with
      | clo h1 h2 h3 h4=>exact ⟨_,_,rfl,h1,h2,h3,h4⟩
    obtain ⟨K0,hK0⟩:=hS
    obtain ⟨fs,cs,hxe,f1,f2,_,_⟩:=key K0 hK0
    refine called_ok (xs:=fs ++ c.args.toList.map act.eval ++ cs) hB ⟨K0,hK0⟩ h hd ?_ (by simp [f1,f2]) (fun K hK i c' y hc' hy=>?_) hT hA hF hL hk
    · obtain ⟨cal,args,ats⟩:=c
      simp only at hc
      subst hc
      unfold execOp;rw [ho]
      simp only [resolve,hxe,Deferred.ofValue,pure_bind,invoke]
      have e1:(args.toList.map act.eval).toArray = args.map act.eval:=map_list _ _
      have:=enters_run (P:=P) hent (fs ++ args.toList.map act.eval ++ cs).toArray w
      rw [← this]
      congr 2
      apply Array.toList_inj.1
      simp
    · obtain ⟨fs',cs',hxe',_,_,f3,f4⟩:=key K hK
      rw [hxe] at hxe'
      simp only [Value.func.injEq,true_and] at hxe'
      have hf1:fs = fs':=by have:=congrArg Array.toList hxe'.1;simpa using this
      have hf2:cs = cs':=by have:=congrArg Array.toList hxe'.2;simpa using this
      subst hf1;subst hf2
      obtain ⟨b1,b2⟩:=reps_list (xs:=c.args.toList) (fun x _=>hop K hK x) hp
      simp only [List.append_assoc] at hc' hy
      by_cases h1:i < first.length
      · rw [List.getElem?_append_left (by omega)] at hc' hy
        exact f3 _ _ _ hc' hy
      · rw [List.getElem?_append_right (by omega)] at hc' hy
        rw [← f1] at hy
        by_cases h2:i - first.length < (c.args.toList.map fun z=>(opd a1 z).2).length
        · rw [List.getElem?_append_left (by omega)] at hc' hy
          exact b2 _ _ _ hc' hy
        · rw [List.getElem?_append_right (by omega)] at hc' hy
          rw [← b1] at hy
          exact f4 _ _ _ hc' hy
  · exact hA.elim

theorem cap_ok {S:KS → Prop} (hS:∃ K,S K) (h:∀ K,S K → Std N r K a l act w) {t:TypeId} {x:Operand} {c:Call} (ho:o.op = .call c) (hc:c.callee = .builtin .cap) (hargs:c.args = #[x]) (hts:c.argTypes = #[t]) (hd:∀ t,o.dst = some t → t < N) (hs:SEcap P r o.dst k a l t x):o.wp P act w (PostF N B T0 r S l w k) Q:=by
  have hexec:∀ {b:Option Addr} {n cc:Nat},act.eval x = .slice b n cc → (tel P t).isSome → (execOp act.eval o).run P w = .ok (.value (.int .i64 cc)) w:=fun {b n cc} hx ht=>by
    obtain ⟨e,he⟩:=Option.isSome_iff_exists.1 ht
    unfold execOp;rw [ho]
    obtain ⟨cal,args,ats⟩:=c
    simp only at hc hargs hts
    subst hc;subst hargs;subst hts
    simp only [resolve,invoke,builtin,pure_bind]
    refine run_val ?_
    simp [hx,Builtin.cap_,run_underlying (run_underlying_el he),goInt]
  have fin:∀ {cc:Nat},(execOp act.eval o).run P w = .ok (.value (.int .i64 cc)) w → k (putO o.dst (.d (.v (.int .i64 cc))) a) l → o.wp P act w (PostF N B T0 r S l w k) Q:=fun {cc} h1 h2 =>
    wp_of_value h1 ⟨_,_,h2,fun K hK=>⟨K,Ext.refl _ _ _ _ _,(h K hK).put hd (.d (.v rfl))⟩⟩
  obtain ⟨K0,hK0⟩:=hS
  have hx:=(h K0 hK0).op x
  unfold OpOk at hx
  unfold SEcap at hs
  split at hs
  · rename_i q n len e he ht
    split at hs
    · rename_i k' E rows hn
      obtain ⟨hq,hlen,hk⟩:=hs
      rw [he] at hx
      have hx:=hx hq
      generalize hy:act.eval x = y at hx
      cases hx
      cases hl:K0.nl n
      · have hO:=(h K0 hK0).rs.obj n
        rw [hn] at hO
        obtain ⟨_,⟨h1,_⟩ | ⟨_,z1,xs,z2,z3,z4,_⟩⟩:=hO
        · rw [hl] at h1;cases h1
        · exact fin (hexec (b:=some ⟨K0.blk n,0,none⟩) (n:=len) (cc:=K0.cap n) (by rw [hy];simp [KS.sl,hl]) (by rw [ht];rfl)) (hk _ (by omega))
      · have hO:=(h K0 hK0).rs.obj n
        rw [hn] at hO
        obtain ⟨_,⟨_,hr⟩ | ⟨h1,_⟩⟩:=hO
        · subst hr
          exact fin (hexec (b:=K0.ad n) (n:=0) (cc:=0) (by rw [hy];simp [KS.sl,hl]) (by rw [ht];rfl)) (hk 0 (by simpa using hlen))
        · rw [hl] at h1;cases h1
    · exact hs.elim
  · rename_i q e he ht
    rw [he] at hx
    have hx:=hx hs.1
    cases hx with | d hx =>
    exact fin (cc:=0) (hexec hx.int (by rw [ht];rfl)) hs.2
  · rename_i q e he ht
    rw [he] at hx
    have hx:=hx hs.1
    generalize hy:act.eval x = y at hx
    cases hx
    exact fin (cc:=0) (hexec hy (by rw [ht];rfl)) hs.2
  · rename_i q rows e he ht
    rw [he] at hx
    have hx:=hx hs.1
    generalize hy:act.eval x = y at hx
    cases hx with | d hx =>
    cases hx with
    | nil=>exact fin (hexec hy (by rw [ht];rfl)) (hs.2 _ (by simp))
    | ro g1 g2 g3=>exact fin (hexec hy (by rw [ht];rfl)) (hs.2 _ g3)
  · exact hs.elim

theorem nil_ok {S:KS → Prop} (hS:∃ K,S K) (h:∀ K,S K → Std N r K a l act w) {op:BinOp} {t t':TypeId} {x y:Operand} (ho:o.op = .binOp op t x y t') (hd:∀ t,o.dst = some t → t < N) (hs:SEbin P r op o.dst k a l t x y):o.wp P act w (PostF N B T0 r S l w k) Q:=by
  obtain ⟨K0,hK0⟩:=hS
  have hx:=(h K0 hK0).op x
  have hy:=(h K0 hK0).op y
  unfold OpOk at hx hy
  have key:∀ ng,(ng = false → op = .eql) → (ng = true → op = .neq) → SEnil P r ng o.dst k a l t x y → o.wp P act w (PostF N B T0 r S l w k) Q:=fun ng h1 h2 hs=>by
    unfold SEnil at hs
    split at hs
    · rename_i e N' q ht hn hyy
      obtain ⟨g1,g2,g3⟩:=hs
      rw [hyy] at hy
      have hy:=hy g2
      have hx:=hx g1
      generalize (opd a x).2 = va at hx hn
      have hy:act.eval y = .slice none 0 0:=by cases hy with | d hy=>exact hy.int
      have fin:∀ {b:Option Addr} {n c:Nat},act.eval x = .slice b n c → N' b.isNone → o.wp P act w (PostF N B T0 r S l w k) Q:=fun {b n c} he hN=>by
        have hb:=g3 b.isNone hN
        refine wp_of_value (y:=.bool (bif ng then !b.isNone else b.isNone)) ?_ ⟨_,_,hb,fun K hK=>⟨K,Ext.refl _ _ _ _ _,(h K hK).put hd (.d (.v rfl))⟩⟩
        unfold execOp
        rw [ho]
        refine run_val ?_
        simp only [he,hy]
        have hu:=run_underlying_el ht
        cases ng
        · rw [h1 rfl]
          have:=Lib.run_eql_slice_nil (P:=P) w t e b n c 0 0 hu
          simp [eqGuard,this]
        · rw [h2 rfl]
          have:=run_neq_slice_nil_any (P:=P) w t e b n c 0 0 hu
          simp [eqGuard,this]
      unfold nilK at hn
      generalize act.eval x = xv at hx fin
      split at hn
      · rename_i rows _
        cases hn
        cases hx with | d hx =>
        cases hx with
        | nil=>exact fin rfl fun _=>rfl
        | ro z1=>exact fin rfl (by simp)
      · cases hn
        cases hx with | d hx =>
        exact fin hx.int rfl
      · cases hn
        cases hx
        exact fin rfl trivial
      · split at hn
        · rename_i n len _ k' E rows hσ
          cases hn
          cases hx
          have hO:=(h K0 hK0).rs.obj n
          rw [hσ] at hO
          cases hl:K0.nl n
          · exact fin (b:=some ⟨K0.blk n,0,none⟩) (n:=len) (c:=K0.cap n) (by simp [KS.sl,hl]) (by simp)
          · obtain ⟨_,⟨_,hr⟩ | ⟨h1,_⟩⟩:=hO
            · exact fin (b:=K0.ad n) (n:=0) (c:=0) (by simp [KS.sl,hl]) (fun _=>hr)
            · rw [hl] at h1;cases h1
        · cases hn
      · cases hn
    · exact hs.elim
  unfold SEbin at hs
  split at hs
  · exact key false (fun _=>rfl) (by simp) hs
  · exact key true (by simp) (fun _=>rfl) hs
  · exact hs.elim

def SOp.isCall:SOp → Bool
  | .call _ _ | .callv _ _ | .cap _ _ | .bin _ _ _ _=>true
  | _=>false

theorem clr_ok (h:Std N r K a l act w) {t:TypeId} {x:Operand} {c:Call} (ho:o.op = .call c) (hc:c.callee = .builtin .clear) (hargs:c.args = #[x]) (hts:c.argTypes = #[t]) (hs:SEclr P r o.dst k a l t x):o.wp P act w (Post N B T0 r K l w k) Q:=by
  unfold SEclr at hs
  split at hs
  · rename_i q n kk i len E hdst hx ht
    split at hs
    · rename_i k' E' rows k2 z hn hk hz
      obtain ⟨hq,e1,e2,hl0,hle,hzl,hK⟩:=hs
      subst e1;have e2:=e2.symm;subst e2
      have hxr:=h.op x
      unfold OpOk at hxr
      rw [hx] at hxr
      have hxr:=hxr hq
      obtain ⟨⟨zv,hz1,hz2⟩,hz3⟩:=tzero_ok hz
      have hO:=h.rs.obj n
      rw [hn] at hO
      obtain ⟨g0,⟨_,hr⟩ | ⟨gnl,g1,xs,g2,g3,g4,g5,g6,g7,g8,g9⟩⟩:=hO
      · subst hr;simp at hle;omega
      have hxe:act.eval x = .slice (some ⟨K.blk n,i * k',none⟩) len (K.cap n - i):=by
        generalize act.eval x = y at hxr
        cases hxr;rfl
      have hzc:(Builtin.zeroCells z.toArray len).toList.length = len * k':=by simp [Builtin.zeroCells,hzl]
      have hz9:∀ y ∈ (Builtin.zeroCells z.toArray len).toList,y.oneCell' = true:=one_zero hz3
      have hfit:i * k' + len * k' ≤ xs.length:=by
        have:(i + len) * k' ≤ K.cap n * k':=Nat.mul_le_mul_right k' (by omega)
        rw [Nat.add_mul] at this;omega
      have hst:=run_storeCells_at P (K.blk n) (i * k') E' (Builtin.zeroCells z.toArray len).toList 0 xs.toArray w g2 (by simp only [List.size_toArray,hzc];omega) hz9
      simp only [Nat.add_zero,hzc] at hst
      have hrun:(Builtin.clear_ #[t] o.type #[act.eval x]).run P w = .ok (.tuple #[]) (w.setRow (K.blk n) (xs.take (i * k') ++ (Builtin.zeroCells z.toArray len).toList ++ xs.drop (i * k' + len * k')).toArray):=by
        rw [hxe]
        obtain ⟨len,rfl⟩:∃ m,len = m + 1:=⟨len - 1,by omega⟩
        simp [Builtin.clear_,run_underlying (run_underlying_el ht),hz1,hz2,Result.andThen,hst]
      refine wp_of_value (y:=.tuple #[]) (w':=w.setRow (K.blk n) (xs.take (i * k') ++ (Builtin.zeroCells z.toArray len).toList ++ xs.drop (i * k' + len * k')).toArray) ?_ ?_
      · unfold execOp;rw [ho]
        obtain ⟨cal,args,ats⟩:=c
        simp only at hc hargs hts
        subst hc;subst hargs;subst hts
        simp only [resolve,invoke,builtin,pure_bind]
        exact run_val (by simpa using hrun)
      rw [hdst]
      show Post N B T0 r K l w k act _
      refine (write_ok (n:=n) (o:=.arr k' E' (rows.take i ++ List.replicate len (z.map fun x=>(RV.v x).nrm) ++ rows.drop (i + len))) h (by rw [hn];exact gnl) (show AO.live K n (.arr _ _ _) from gnl) ?_ hK).post
      have hkp:Keep K.I w (w.setRow (K.blk n) (xs.take (i * k') ++ (Builtin.zeroCells z.toArray len).toList ++ xs.drop (i * k' + len * k')).toArray):=setRow_grow_keep g1
      have hrl:(rows.take i ++ List.replicate len (z.map fun x=>(RV.v x).nrm) ++ rows.drop (i + len)).length = rows.length:=by simp;omega
      have hti:(rows.take i).length = i:=by simp;omega
      have hrow:∀ (m:Nat) (rr:List RV),(rows.take i ++ List.replicate len (z.map fun x=>(RV.v x).nrm) ++ rows.drop (i + len))[m]? = some rr → (m < i ∨ i + len ≤ m) ∧ rows[m]? = some rr ∨ (i ≤ m ∧ m < i + len) ∧ rr = z.map fun x=>(RV.v x).nrm:=fun m rr hm=>by
        rw [List.append_assoc] at hm
        by_cases m1:m < i
        · rw [List.getElem?_append_left (by omega),List.getElem?_take,if_pos m1] at hm
          exact .inl ⟨.inl m1,hm⟩
        · rw [List.getElem?_append_right (by omega),hti] at hm
          by_cases m2:m - i < len
          · rw [List.getElem?_append_left (by simpa using m2),List.getElem?_replicate,if_pos m2] at hm
            cases hm
            exact .inr ⟨⟨by omega,by omega⟩,rfl⟩
          · rw [List.getElem?_append_right (by simp;omega),List.getElem?_drop,List.length_replicate] at hm
            exact .inl ⟨.inr (by omega),by rw [← hm];congr 1;omega⟩
      refine ⟨g0,.inr ⟨gnl,g1,_,setRow_heap w _ _ _ E' (0,0) g2,by simp only [List.length_append,List.length_take,List.length_drop,hzc];omega,by rw [hrl];exact g4,g5,by rw [hrl];exact g6,fun m rr hm=>?_,fun m j rr c y hm hc hy=>?_,fun y hy=>?_⟩⟩
      · rcases hrow m rr hm with ⟨_,h1⟩ | ⟨_,rfl⟩
        · exact g7 m rr h1
        · simpa using hzl
      · have hxt:(xs.take (i * k')).length = i * k':=by simp;omega
        rw [List.append_assoc] at hy
        rcases hrow m rr hm with ⟨h0,h1⟩ | ⟨h0,rfl⟩
        · have hj:j < k':=by rw [← g7 m rr h1];exact (List.getElem?_eq_some_iff.1 hc).1
          refine (g8 m j rr c y h1 hc ?_).up (fun _ h=>h) hkp
          rcases h0 with h0 | h0
          · have:(m + 1) * k' ≤ i * k':=Nat.mul_le_mul_right k' h0
            rw [Nat.add_mul] at this
            rw [List.getElem?_append_left (by omega),List.getElem?_take,if_pos (by omega)] at hy
            exact hy
          · have:(i + len) * k' ≤ m * k':=Nat.mul_le_mul_right k' h0
            rw [Nat.add_mul] at this
            rw [List.getElem?_append_right (by omega),List.getElem?_append_right (by omega),List.getElem?_drop,hxt,hzc] at hy
            rw [← hy];congr 1;omega
        · have hj:j < k':=by have:=(List.getElem?_eq_some_iff.1 hc).1;simpa [hzl] using this
          have h2:(m + 1) * k' ≤ (i + len) * k':=Nat.mul_le_mul_right k' h0.2
          have h3:i * k' ≤ m * k':=Nat.mul_le_mul_right k' h0.1
          rw [Nat.add_mul,Nat.add_mul] at h2
          rw [List.getElem?_append_right (by omega),hxt,List.getElem?_append_left (by rw [hzc];omega)] at hy
          simp only [List.getElem?_map] at hc
          cases hb:z[j]? with
          | none=>simp [hb] at hc
          | some b =>
            simp [hb] at hc
            subst hc
            have hel:(Builtin.zeroCells z.toArray len).toList[m * k' + j - i * k']? = z[j]?:=by
              have e:m * k' + j - i * k' = (m - i) * k' + j:=by rw [Nat.sub_mul];omega
              rw [e]
              have hp:(m - i) * k' + j < len * k':=by
                have:(m - i + 1) * k' ≤ len * k':=Nat.mul_le_mul_right k' (by omega)
                rw [Nat.add_mul] at this;omega
              have hpk:((m - i) * k' + j) % z.length < z.length:=by rw [hzl];exact Nat.mod_lt _ g0
              subst hzl
              simp only [Builtin.zeroCells,Array.toList_map,Array.toList_range,List.getElem?_map,List.size_toArray]
              rw [List.getElem?_range hp]
              simp only [Option.map_some]
              rw [(divmod_row hj).2]
              simp [hj]
            rw [hel,hb] at hy
            cases hy
            exact (nrm_ok (hz3 _ (List.mem_of_getElem? hb)))
      · simp only [List.mem_append] at hy
        rcases hy with (hy | hy) | hy
        · exact g9 y (List.mem_of_mem_take hy)
        · exact hz9 y hy
        · exact g9 y (List.mem_of_mem_drop hy)
    · exact hs.elim
  · exact hs.elim

theorem SE_ok1 (hB:ClosedS B r) (h:Std N r K a l act w) {s:SOp} (hc:comp o.op = some s) (hnc:s.isCall = false) (hd:∀ t,o.dst = some t → t < N) (hst:∀ t p x,o.op = .store t p x → o.dst = none) (hs:SE P B T0 r o.dst k a l s):o.wp P act w (Post N B T0 r K l w k) Q:=by
  cases ho:o.op<;>rw [ho] at hc<;>simp only [comp,Option.some.injEq] at hc<;>(try (cases hc))<;>(try (cases hnc;done))<;>(try (simp only [SE] at hs))
  case alloc t=>exact alloc_ok hB h ho hd hs
  case box t x=>exact box_ok hB h ho hd hs
  case store t p x=>exact store_ok h ho (hst t p x ho) hs
  case buildSlice t n parts=>exact bs_ok hB h ho hd hs
  case makeSlice t ln c=>exact mk_ok hB h ho hd hs
  case makeMap t rs =>
    split at hc
    · rename_i h0
      cases hc;simp only [SE] at hs
      exact mkmap_ok hB h (by rw [ho];cases rs with | none=>rfl | some y=>cases h0) hd hs
    · cases hc;simp only [SE] at hs
  case lookup t x y ok=>split at hc<;>cases hc<;>simp only [SE] at hs
  case mapUpdate t x y v=>exact mset_ok h ho hs
  case convert s t x=>exact conv_ok h ho hd hs
  case slice t x lo hi mx=>split at hc<;>cases hc<;>simp only [SE] at hs
  case call c =>
    obtain ⟨cal,args,ats⟩:=c
    simp only at hc
    split at hc<;>cases hc<;>(try (simp only [SE] at hs))<;>(try (cases hnc;done))
    · rename_i x t hargs hats
      exact clr_ok h ho rfl (by cases args;simp_all) (by cases ats;simp_all) hs
    rename_i s x t u hargs hats
    exact app_ok hB h ho rfl (by cases args;simp_all) (by cases ats;simp_all) hd hs

theorem SE_split {d:Option Nat} {s:SOp} (hnc:s.isCall = false) (hs:SE P B T0 r d k a l s):∃ A L,k A L ∧ SE P B T0 r d (fun a' l'=>a' = A ∧ l' = L) a l s:=by
  cases s<;>simp only [SE] at hs ⊢<;>(try (cases hnc;done))
  case alloc t =>
    unfold SEalloc at hs ⊢
    split at hs
    · exact ⟨_,_,hs,rfl,rfl⟩
    · exact hs.elim
  case box t x =>
    unfold SEbox at hs ⊢
    split at hs
    · exact ⟨_,_,hs.2,hs.1,rfl,rfl⟩
    · exact hs.elim
  case store t p x =>
    unfold SEstore at hs ⊢
    split at hs
    · split at hs
      · rename_i h1
        obtain ⟨g1,g2,g3,g4,g5⟩:=hs
        exact ⟨_,_,g5,g1,g2,g3,g4,rfl,rfl⟩
      · exact hs.elim
    · split at hs
      · rename_i h1 h2
        obtain ⟨g1,g2,g3,g4,g5,g6,g7⟩:=hs
        exact ⟨_,_,g7,g1,g2,g3,g4,g5,g6,rfl,rfl⟩
      · obtain ⟨g1,g2,g3,g4,g5,g6,g7⟩:=hs
        exact ⟨_,_,g7,g1,g2,g3,g4,g5,g6,rfl,rfl⟩
      · obtain ⟨g1,g2,g3,g4,g5,g6,g7⟩:=hs
        exact ⟨_,_,g7,g1,g2,g3,g4,g5,g6,rfl,rfl⟩
      · exact hs.elim
    · exact hs.elim
  case bslice t n ps =>
    unfold SEbs at hs ⊢
    generalize litH T0 n (ps.map fun p=>(opd a p.2).2) = b9 at hs ⊢
    cases b9<;>simp only [cond_true,cond_false] at hs ⊢
    rotate_left 1
    · unfold SEbsH at hs ⊢
      split at hs
      · exact ⟨_,_,hs.2.2,hs.1,hs.2.1,rfl,rfl⟩
      · exact hs.elim
    generalize ownLit T0 n = bb at hs ⊢
    cases bb<;>simp only [cond_true,cond_false] at hs ⊢
    · split at hs
      · exact ⟨_,_,hs.2,hs.1,rfl,rfl⟩
      · split at hs
        · split at hs
          · split at hs
            · rename_i hm
              simp only [if_pos hm]
              unfold SEbs0 at hs ⊢
              split at hs
              · exact ⟨_,_,hs.2,hs.1,rfl,rfl⟩
              · exact hs.elim
            · rename_i hm
              simp only [if_neg hm]
              unfold SEbsH at hs ⊢
              split at hs
              · exact ⟨_,_,hs.2.2,hs.1,hs.2.1,rfl,rfl⟩
              · exact hs.elim
          · exact hs.elim
        · exact hs.elim
    · split at hs
      · exact ⟨_,_,hs.2,hs.1,rfl,rfl⟩
      · exact hs.elim
  case app t u s x =>
    unfold SEapp at hs ⊢
    split at hs
    · split at hs
      · rename_i h1 h2
        obtain ⟨g1,g2,g3,g4,g5,g6,g7,g8,g9,g10,g11⟩:=hs
        exact ⟨_,_,g11,g1,g2,g3,g4,g5,g6,g7,g8,g9,g10,rfl,rfl⟩
      · unfold SEapB at hs ⊢
        split at hs
        · split at hs
          · obtain ⟨g1,g2,g3,g4,g5,g6,g7,g8,g9,g10,g11,g12,g13⟩:=hs
            exact ⟨_,_,g13,g1,g2,g3,g4,g5,g6,g7,g8,g9,g10,g11,g12,rfl,rfl⟩
          · exact hs.elim
        · exact hs.elim
      · unfold SEapA at hs ⊢
        split at hs
        · split at hs
          · obtain ⟨g1,g2,g3,g4,g5,g6,g7,g8,g9,g10⟩:=hs
            exact ⟨_,_,g10,g1,g2,g3,g4,g5,g6,g7,g8,g9,rfl,rfl⟩
          · exact hs.elim
        · exact hs.elim
      · exact hs.elim
    · exact hs.elim
  case mkslice t ln c =>
    unfold SEmk at hs ⊢
    split at hs
    · obtain ⟨g1,g2,g3,g4,g5,g6,g7,g8,g9⟩:=hs
      exact ⟨_,_,g9,g1,g2,g3,g4,g5,g6,g7,g8,rfl,rfl⟩
    · exact hs.elim
  case mkmap t =>
    unfold SEmkmap at hs ⊢
    split at hs
    · exact ⟨_,_,hs,rfl,rfl⟩
    · exact hs.elim
  case clr t x =>
    unfold SEclr at hs ⊢
    split at hs
    · split at hs
      · obtain ⟨g1,g2,g3,g4,g5,g6,g7⟩:=hs
        exact ⟨_,_,g7,g1,g2,g3,g4,g5,g6,rfl,rfl⟩
      · exact hs.elim
    · exact hs.elim
  case mset t x y v =>
    unfold SEmset at hs ⊢
    split at hs
    · split at hs
      · obtain ⟨g1,g2,g3,g4,g5,g6⟩:=hs
        exact ⟨_,_,g6,g1,g2,g3,g4,g5,rfl,rfl⟩
      · exact hs.elim
    · exact hs.elim
  case conv s t x =>
    unfold SEconv at hs ⊢
    split at hs
    · split at hs
      · obtain ⟨g1,g2,g3⟩:=hs
        exact ⟨_,_,g3,g1,g2,rfl,rfl⟩
      · exact hs.elim
    · exact hs.elim

def SOp.isEff:SOp → Bool
  | .alloc _ | .box _ _ | .store _ _ _ | .bslice _ _ _ | .app _ _ _ _ | .mkslice _ _ _ | .mkmap _ | .mset _ _ _ _ | .conv _ _ _ | .clr _ _=>true
  | _=>false

theorem SE_eff {d:Option Nat} {s:SOp} (hnc:s.isCall = false) (hs:SE P B T0 r d k a l s):s.isEff = true:=by
  cases s<;>simp only [SE] at hs<;>first | rfl | (cases hnc;done)

theorem noenter {s:SOp} (hc:comp o.op = some s) (hnc:s.isEff = true) {ρ:Operand → Value} {n:Next} {w':World} (h:(execOp ρ o).run P w = .ok n w'):(∃ v,n = .value v) ∨ n = .skip:=by
  obtain ⟨dst,op,ty,pos,after,guard⟩:=o
  simp only at hc
  cases op<;>simp only [comp,Option.some.injEq,reduceCtorEq] at hc<;>(try (cases hc;cases hnc;done))<;>simp only [execOp] at h
  case call c =>
    obtain ⟨cal,args,ats⟩:=c
    simp only at hc
    split at hc<;>cases hc<;>(try (cases hnc;done))
    all_goals
      simp only [resolve,invoke,builtin,pure_bind] at h
      exact .inl (run_value h)
  case slice=>split at hc<;>cases hc<;>cases hnc
  case store t p x =>
    simp only [Sem.run_bind] at h
    generalize (Instr.storeAt t (ρ p) (ρ x)).run P w = r at h
    cases r with
    | ok v w=>exact .inr (by simp [Result.andThen,Sem.run_pure] at h;exact h.1.symm)
    | halt x w=>simp [Result.andThen] at h
  case mapUpdate t x y v =>
    simp only [Sem.run_bind] at h
    generalize (Instr.mapUpdate t (ρ x) (ρ y) (ρ v)).run P w = r at h
    cases r with
    | ok v w=>exact .inr (by simp [Result.andThen,Sem.run_pure] at h;exact h.1.symm)
    | halt x w=>simp [Result.andThen] at h
  case makeMap t rs=>exact .inl (run_value h)
  case lookup t x y ok=>split at hc<;>cases hc<;>cases hnc
  all_goals exact .inl (run_value h)

theorem SE_ok {S:KS → Prop} (hB:ClosedS B r) (hS:∃ K,S K) (h:∀ K,S K → Std N r K a l act w) {s:SOp} (hc:comp o.op = some s) (hd:∀ t,o.dst = some t → t < N) (hst:∀ t p x,o.op = .store t p x → o.dst = none) (hs:SE P B T0 r o.dst k a l s):o.wp P act w (PostF N B T0 r S l w k) Q:=by
  cases hnc:s.isCall with
  | false =>
    obtain ⟨A,L,hk,hsA⟩:=SE_split hnc hs
    have heff:=SE_eff hnc hs
    obtain ⟨K0,hK0⟩:=hS
    have each:∀ K,S K → o.wp P act w (Post N B T0 r K l w (fun a' l'=>a' = A ∧ l' = L)) (fun _ _ _=>False):=fun K hK=>SE_ok1 hB (h K hK) hc hnc hd hst hsA
    have conv:∀ act' w',(∀ K,S K → Post N B T0 r K l w (fun a' l'=>a' = A ∧ l' = L) act' w') → PostF N B T0 r S l w k act' w':=fun act' w' hall =>
      ⟨A,L,hk,fun K hK=>by
        obtain ⟨K',a',l',e1,e2,rfl,rfl⟩:=hall K hK
        exact ⟨K',e1,e2⟩⟩
    unfold Oper.wp at each ⊢
    cases hr:(execOp act.eval o).run P w with
    | ok n w' =>
      rw [hr] at each
      rcases noenter hc heff hr with ⟨v,rfl⟩ | rfl
      · exact conv _ _ each
      · exact conv _ _ each
    | halt x w' =>
      rw [hr] at each
      have:=each K0 hK0
      cases x<;>exact this.elim
  | true =>
    cases ho:o.op<;>rw [ho] at hc<;>simp only [comp,Option.some.injEq] at hc<;>(try (cases hc))<;>(try (cases hnc;done))
    case slice t x lo hi mx=>split at hc<;>cases hc<;>cases hnc
    case binOp.refl=>exact nil_ok hS h ho hd (by simpa only [SE] using hs)
    case makeMap t rs=>split at hc<;>cases hc<;>cases hnc
    case lookup t x y ok=>split at hc<;>cases hc<;>cases hnc
    case call c =>
      obtain ⟨cal,args,ats⟩:=c
      simp only at hc
      split at hc<;>cases hc<;>(try (cases hnc;done))<;>simp only [SE] at hs
      · rename_i x t hargs hats
        exact cap_ok hS h ho rfl (by cases args;simp_all) (by cases ats;simp_all) hd hs
      · exact call_ok hB hS h ho rfl hd hs
      · exact callv_ok hB hS h ho rfl hd hs
end
end Go.Proofs.Ytikgiadbkjmabaa

/- Regions that are carried out in the order of the text. No program in sight. -/
namespace Go.Proofs.Ytikgiadbkjmabaa
open Go.RowKit
set_option linter.unusedSimpArgs false
set_option linter.unusedVariables false

def soOf (N:Nat) (ops:List Oper) (o:Oper):Option SO :=
  match comp o.op with
  | none=>none
  | some s=>bif (match o.dst with | some d=>decide (d < N) | none=>true) && (match o.op with | .store ..=>o.dst.isNone | _=>true) then
      match o.guard with
      | none=>some ⟨o.dst,s,none⟩
      | some (j,b)=>((ops[j]?).bind (·.dst)).bind fun t=>bif decide (t < N) && (match o.op with | .store ..=>false | _=>true) then some ⟨o.dst,s,some (t,b)⟩ else none
    else none

structure SoOk (N:Nat) (ops:List Oper) (o:Oper) (s:SO):Prop where
  op:comp o.op = some s.op
  dst:o.dst = s.dst
  lt:∀ t,o.dst = some t → t < N
  st:∀ t p x,o.op = .store t p x → o.dst = none
  gd:(o.guard = none ∧ s.guard = none) ∨ ∃ j b t,o.guard = some (j,b) ∧ s.guard = some (t,b) ∧ (ops[j]?).bind (·.dst) = some t ∧ t < N

theorem soOf_ok {N:Nat} {ops:List Oper} {o:Oper} {s:SO} (h:soOf N ops o = some s):SoOk N ops o s:=by
  unfold soOf at h
  split at h
  · cases h
  · rename_i s0 hc
    cases hb:((match o.dst with | some d=>decide (d < N) | none=>true) && (match o.op with | .store ..=>o.dst.isNone | _=>true))
    · rw [hb] at h;cases h
    · rw [hb] at h
      simp only [cond_true,Bool.and_eq_true] at h hb
      have h1:∀ t,o.dst = some t → t < N:=fun t ht=>by have:=hb.1;rw [ht] at this;simpa using this
      have h2:∀ t p x,o.op = .store t p x → o.dst = none:=fun t p x ht=>by have:=hb.2;rw [ht] at this;simpa using this
      split at h
      · rename_i hg
        cases h
        exact ⟨hc,rfl,h1,h2,.inl ⟨hg,rfl⟩⟩
      · rename_i j b hg
        obtain ⟨t,ht,h⟩:=Option.bind_eq_some_iff.1 h
        cases hb2:(decide (t < N) && (match o.op with | .store ..=>false | _=>true))
        · rw [hb2] at h;cases h
        · rw [hb2] at h
          simp only [Bool.and_eq_true,decide_eq_true_eq] at hb2
          cases h
          exact ⟨hc,rfl,h1,h2,.inr ⟨j,b,t,hg,rfl,ht,hb2.1⟩⟩

section
variable {P:Program} {N B:Nat} {T0:List Nat} {r:Sto} {S:KS → Prop} {K:KS} {k:Fr → Loc → Prop} {a:Fr} {l:Loc} {act:Act} {w:World} {o:Oper} {Q:Exit → Act → World → Prop} {ops:List Oper} {s:SO}

theorem wp_next {nx nx':Act → World → Prop} (h:o.wp P act w nx Q) (hn:∀ a w,nx a w → nx' a w):o.wp P act w nx' Q:=Oper.wp_mono hn h

def SNext (N B:Nat) (T0:List Nat) (r:Sto) (S:KS → Prop) (l:Loc) (w:World) (a':Fr) (l':Loc) (act':Act) (w':World):KS → Prop :=
  fun K'=>∃ K,S K ∧ Ext B T0 K (sto l r) w K' (sto l' r) w' ∧ Std N r K' a' l' act' w'

theorem PostF.go {act1:Act} {w1:World} {k1:Fr → Loc → Prop} (hS:∃ K,S K) (h:PostF N B T0 r S l w k1 act1 w1) :
    ∃ a1 l1,k1 a1 l1 ∧ (∃ K,SNext N B T0 r S l w a1 l1 act1 w1 K) ∧ (∀ K,SNext N B T0 r S l w a1 l1 act1 w1 K → Std N r K a1 l1 act1 w1) ∧
      ∀ {act' w' k'},PostF N B T0 r (SNext N B T0 r S l w a1 l1 act1 w1) l1 w1 k' act' w' → PostF N B T0 r S l w k' act' w':=by
  obtain ⟨a1,l1,hk,hall⟩:=h
  obtain ⟨K0,hK0⟩:=hS
  obtain ⟨K1,e1,e2⟩:=hall K0 hK0
  refine ⟨a1,l1,hk,⟨K1,K0,hK0,e1,e2⟩,fun K ⟨_,_,_,h⟩=>h,fun ⟨a',l',hk',hall'⟩=>⟨a',l',hk',fun K hK=>?_⟩⟩
  obtain ⟨K2,f1,f2⟩:=hall K hK
  obtain ⟨K3,g1,g2⟩:=hall' K2 ⟨K,hK,f1,f2⟩
  exact ⟨K3,f1.trans g1,g2⟩

theorem PostF.here (h:∀ K,S K → Std N r K a l act w) (hk:k a l):PostF N B T0 r S l w k act w:=⟨a,l,hk,fun K hK=>⟨K,Ext.refl _ _ _ _ _,h K hK⟩⟩

theorem PostF.mono {k':Fr → Loc → Prop} {act':Act} {w':World} (h:PostF N B T0 r S l w k act' w') (hk:∀ a l,k a l → k' a l):PostF N B T0 r S l w k' act' w':=by
  obtain ⟨a',l',h1,h2⟩:=h
  exact ⟨a',l',hk _ _ h1,h2⟩

theorem aev_okF (hS:∃ K,S K) (h:∀ K,S K → Std N r K a l act w) {so:SOp} {q:Prop} {v:AV} (hc:comp o.op = some so) (he:aev P (sto l r) a so = some (q,v)) (hq:q) :
    ∃ y,(execOp act.eval o).run P w = .ok (.value y) w ∧ ∀ K,S K → Rep K w v y:=by
  obtain ⟨K0,hK0⟩:=hS
  obtain ⟨y,h1,h2⟩:=aev_ok hc (fun x _=>(h K0 hK0).op x) (h K0 hK0).rs (fun _=>rfl) he hq
  refine ⟨y,h1,fun K hK=>?_⟩
  obtain ⟨y',g1,g2⟩:=aev_ok hc (fun x _=>(h K hK).op x) (h K hK).rs (fun _=>rfl) he hq
  rw [h1] at g1
  cases g1
  exact g2

theorem SO1_ok (hB:ClosedS B r) (hs:SoOk N ops o s) (hS:∃ K,S K) (h:∀ K,S K → Std N r K a l act w) (hk:SO1 P B T0 r s k a l):o.wp P act w (PostF N B T0 r S l w k) Q:=by
  unfold SO1 at hk
  split at hk
  · rename_i q v he
    obtain ⟨hq,hK⟩:=hk
    obtain ⟨y,h1,h2⟩:=aev_okF hS h hs.op he hq
    refine wp_of_value h1 (PostF.here (a:=putO o.dst v a) (fun K hKS=>(h K hKS).put hs.lt (h2 K hKS)) ?_)
    rw [hs.dst];exact hK
  · rename_i he
    rw [← hs.dst] at hk
    exact SE_ok hB hS h hs.op hs.lt hs.st hk

theorem wanted_guard (hs:SoOk N ops o s) (h:Std N r K a l act w) {t:Nat} {b c:Bool} {p:Prop} (hg:s.guard = some (t,b)) (hv:opd a (.tmp t) = (p,.d (.v (.bool c)))):Region.wanted o (yielded ops.toArray act.tmps) = true ↔ (p ∧ c = b):=by
  rcases hs.gd with ⟨_,h2⟩ | ⟨j,b',t',h1,h2,h3,h4⟩
  · rw [hg] at h2;cases h2
  · rw [hg] at h2
    cases h2
    have hsl:=h.rf t
    have hget:act.tmps[t]? = some (act.tmps.getD t undef):=by
      have:t < act.tmps.size:=by rw [h.sz];exact h4
      simp [this]
    have hy:∀ x,act.tmps.getD t undef = x → (Region.wanted o (yielded ops.toArray act.tmps) = true ↔ x = .bool b):=fun x hx=>by
      have h3':(ops.toArray[j]?).bind (·.dst) = some t:=by simpa using h3
      simp only [Region.wanted,h1,yielded,h3',Option.bind_some,hget,hx]
      cases x<;>simp
    have hb:p → act.tmps.getD t undef = .bool c:=fun hp=>by
      have:=h.op (.tmp t)
      unfold OpOk at this
      rw [hv] at this
      cases this hp with | d h=>exact h.int
    by_cases hp:p
    · rw [hy _ (hb hp)];simp [hp]
    · have hu:act.tmps.getD t undef = undef:=by
        simp only [opd] at hv
        cases hv':Fr.get a t<;>rw [hv'] at hv hsl<;>simp only [Prod.mk.injEq] at hv<;>(try (obtain ⟨rfl,_⟩:=hv;exact absurd trivial hp))
        obtain ⟨rfl,rfl⟩:=hv
        cases hsl with | gd g1 g2=>exact g2 hp
      rw [hy _ hu]
      simp [hp,undef]

theorem RepF.gd {a:Fr} {d:Option Nat} {v:AV} {t:Array Value} {G:Prop} (h:RepF K w (putO d v a) t) (hG:G):RepF K w (putO d (.gd G v) a) t:=by
  cases d with
  | none=>exact h
  | some s =>
    intro m
    have:=h m
    simp only [putO,Fr.get] at this ⊢
    split
    · rename_i e
      rw [if_pos e] at this
      exact .gd (fun _=>this) (fun hn=>absurd hG hn)
    · rename_i e
      rw [if_neg e] at this
      exact this

theorem SOg_ok (hB:ClosedS B r) (hs:SoOk N ops o s) (hS:∃ K,S K) (h:∀ K,S K → Std N r K a l act w) {t:Nat} {b:Bool} (hg:s.guard = some (t,b)) (hk:SOg P B T0 r s t b k a l) :
    if Region.wanted o (yielded ops.toArray act.tmps) = true then o.wp P act w (PostF N B T0 r S l w k) Q else PostF N B T0 r S l w k (act.put o.dst undef) w:=by
  unfold SOg at hk
  split at hk
  · rename_i p c hv
    obtain ⟨K0,hK0⟩:=hS
    have hw:=wanted_guard hs (h K0 hK0) hg hv
    have skip:∀ v,¬ (p ∧ c = b) → k (putO s.dst (.gd (p ∧ c = b) v) a) l → PostF N B T0 r S l w k (act.put o.dst undef) w:=fun v hG hK =>
      PostF.here (a:=putO o.dst (.gd (p ∧ c = b) v) a) (fun K hKS=>(h K hKS).put hs.lt (.gd (fun hn=>absurd hn hG) (fun _=>rfl))) (by rw [hs.dst];exact hK)
    by_cases hcb:c = b
    case neg =>
      rw [if_neg hcb] at hk
      have hG:¬ (p ∧ c = b):=fun h=>hcb h.2
      rw [if_neg (fun hwt=>hG (hw.1 hwt))]
      exact skip _ hG hk
    rw [if_pos hcb] at hk
    split at hk
    · rename_i q v he
      obtain ⟨hq,hK⟩:=hk
      split
      · rename_i hwt
        have hG:=hw.1 hwt
        obtain ⟨y,h1,h2⟩:=aev_okF ⟨K0,hK0⟩ h hs.op he (hq hG)
        exact wp_of_value h1 (PostF.here (a:=putO o.dst (.gd (p ∧ c = b) v) a) (fun K hKS=>(h K hKS).put hs.lt (.gd (fun _=>h2 K hKS) (fun hn=>absurd hG hn))) (by rw [hs.dst];exact hK))
      · rename_i hwt
        exact skip v (fun hG=>hwt (hw.2 hG)) hK
    · rcases hk with ⟨v,hq,hK⟩ | ⟨hG,hE⟩
      case inr =>
        rw [if_pos (hw.2 hG)]
        rw [← hs.dst] at hE
        exact SE_ok hB ⟨K0,hK0⟩ h hs.op hs.lt hs.st hE
      split
      · rename_i hwt
        have hG:=hw.1 hwt
        have hE:=hq hG
        rw [← hs.dst] at hE
        refine wp_next (SE_ok hB ⟨K0,hK0⟩ h hs.op hs.lt hs.st hE) fun act' w' hP=>?_
        obtain ⟨a',l',⟨rfl,rfl⟩,hall⟩:=hP
        refine ⟨putO o.dst (.gd (p ∧ c = b) v) a,_,by rw [hs.dst];exact hK,fun K hKS=>?_⟩
        obtain ⟨K',e1,e2⟩:=hall K hKS
        exact ⟨K',e1,e2.rs,e2.rf.gd hG,e2.sz,e2.df⟩
      · rename_i hwt
        exact skip v (fun hG=>hwt (hw.2 hG)) hK
  · exact hk.elim

inductive All2 (R:Oper → SO → Prop):List Oper → List SO → Prop
  | nil:All2 R [] []
  | cons {o:Oper} {s:SO} {os:List Oper} {ss:List SO}:R o s → All2 R os ss → All2 R (o :: os) (s :: ss)

def NPost (N B:Nat) (T0:List Nat) (r:Sto) (S:KS → Prop) (l:Loc) (w:World) (k:Fr → Loc → Prop):Exit → Act → World → Prop:=fun e act' w'=>e = .normal ∧ PostF N B T0 r S l w k act' w'

theorem wpList_mono' {ops':Array Oper} {Q':Exit → Act → World → Prop} (hq:∀ e a w,Q e a w → Q' e a w):∀ (rest:List Oper) (act:Act) (w:World),wpList P ops' Q rest act w → wpList P ops' Q' rest act w
  | [],act,w,h=>hq _ _ _ h
  | o :: rest,act,w,h=>by
    unfold wpList at *
    split
    · rename_i hw
      rw [if_pos hw] at h
      refine h.imp (fun h=>?_) (fun ⟨h1,a,w,h2⟩=>⟨h1,a,w,hq _ _ _ h2⟩)
      unfold Oper.wp Oper.upon at *
      split at h<;>simp_all
      · exact wpList_mono' hq rest _ _ h
      · exact wpList_mono' hq rest _ _ h
      · exact wpList_mono' hq rest _ _ h
      · refine h.mono fun e w' he=>?_
        cases e
        · exact wpList_mono' hq rest _ _ he
        · exact hq _ _ _ he
        · obtain ⟨a,w,h2⟩:=he;exact ⟨a,w,hq _ _ _ h2⟩
      · exact h.mono fun v w' he=>wpList_mono' hq rest _ _ he
    · rename_i hw
      rw [if_neg hw] at h
      exact wpList_mono' hq rest _ _ h

theorem SWL_ok (hB:ClosedS B r):∀ {rest:List Oper} {ss:List SO},All2 (SoOk N ops) rest ss → ∀ {S:KS → Prop} {a:Fr} {l:Loc} {act:Act} {w:World},(∃ K,S K) → (∀ K,S K → Std N r K a l act w) → SWL P B T0 r ss k a l → wpList P ops.toArray (NPost N B T0 r S l w k) rest act w
  | [],_,h2,S,a,l,act,w,hS,h,hk=>by
    cases h2
    exact ⟨rfl,PostF.here h hk⟩
  | o :: rest,_,h2,S,a,l,act,w,hS,h,hk=>by
    cases h2 with
    | cons hs h2 =>
    rename_i s ss
    have next:∀ act' w',PostF N B T0 r S l w (SWL P B T0 r ss k) act' w' → wpList P ops.toArray (NPost N B T0 r S l w k) rest act' w':=fun act' w' hP=>by
      obtain ⟨a1,l1,hk1,hS1,h1,hgo⟩:=hP.go hS
      exact wpList_mono' (fun e a w ⟨g1,g2⟩=>⟨g1,hgo g2⟩) rest act' w' (SWL_ok hB h2 hS1 h1 hk1)
    unfold SWL at hk
    unfold wpList
    split at hk
    · rename_i hg
      have hwt:Region.wanted o (yielded ops.toArray act.tmps) = true:=by
        rcases hs.gd with ⟨h1,_⟩ | ⟨j,b,t,_,h2,_⟩
        · simp [Region.wanted,h1]
        · rw [hg] at h2;cases h2
      rw [if_pos hwt]
      exact .inl (wp_next (SO1_ok hB hs hS h hk) next)
    · rename_i t b hg
      have:=SOg_ok (Q:=NPost N B T0 r S l w k) hB hs hS h hg hk
      split
      · rename_i hwt
        rw [if_pos hwt] at this
        exact .inl (wp_next this next)
      · rename_i hwt
        rw [if_neg hwt] at this
        exact next _ _ this
end
end Go.Proofs.Ytikgiadbkjmabaa
