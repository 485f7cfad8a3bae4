/- Data of the program: shapes,what is known of them,and how cells of such a shape are opened. Printed by genopen.py. -/
import Derived.Test.YtikgiadbkjmabaaBridge
import Derived.Test.YtikgiadbkjmabaaBase
import Derived.Test.YtikgiadbkjmabaaStD

/- Numbers,bytes and lists as cells. -/
namespace Go.Proofs.Ytikgiadbkjmabaa
open Go.RowKit
set_option linter.unusedSimpArgs false
set_option linter.unusedVariables false
def shInts:Sh:=.sl (.int .i64)
theorem int_of {rs:List RV} (h:Shaped (.int .i64) rs):∃ n,inI n ∧ rs = [.v (.int .i64 n)]:=by
  obtain ⟨n,hw,rfl⟩:=shaped_int h
  simp only [Lit.wf,Bool.and_eq_true,decide_eq_true_eq] at hw
  refine ⟨n,?_,rfl⟩
  have h1:IntKind.i64.min = -2 ^ 63:=rfl
  have h2:IntKind.i64.max = 2 ^ 63 - 1:=rfl
  unfold inI;omega
theorem sl_of {α:Type} {f:α → List RV} {p:α → Prop} {s:Sh} {rs:List RV} (hf:∀ r,Shaped s r → ∃ x,p x ∧ r = f x) (h:Shaped (.sl s) rs):∃ l:List α,((l.length ≤ 2 ^ 47 ∧ l.length * s.by ≤ 2 ^ 47) ∧ ∀ x ∈ l,p x) ∧ rs = [.ro (l.map f)]:=by
  obtain ⟨rows,h1,h2,rfl⟩:=shaped_sl h
  obtain ⟨l,h3,rfl⟩:=rows_of fun r hr=>hf r (h2 r hr)
  exact ⟨l,⟨by simpa using h1,h3⟩,rfl⟩
theorem ints_of {rs:List RV} (h:Shaped shInts rs):∃ l:List Int,((l.length ≤ 2 ^ 47 ∧ l.length * 8 ≤ 2 ^ 47) ∧ ∀ n ∈ l,inI n) ∧ rs = [ints l]:=sl_of (f:=int_) (fun r h=>int_of h) h
end Go.Proofs.Ytikgiadbkjmabaa
namespace Go.Proofs.Ytikgiadbkjmabaa
open Go.RowKit
set_option linter.unusedSimpArgs false
set_option linter.unusedVariables false

def shAsk:Sh:=.st [.int .i64,.int .i64,.int .i64]
def AskD.wf (x:AskD):Prop:=inI x.ver ∧ inI x.days ∧ inI x.cls
theorem ask_of {rs:List RV} (h:Shaped shAsk rs):∃ x:AskD,x.wf ∧ rs = x.row:=by
  have h0:=shaped_st h
  obtain ⟨a0,r0,g0,h1,rfl⟩:=shapedL_cons h0
  obtain ⟨a1,r1,g1,h2,rfl⟩:=shapedL_cons h1
  obtain ⟨a2,r2,g2,h3,rfl⟩:=shapedL_cons h2
  obtain rfl:=shapedL_nil h3
  obtain ⟨x0,w0,rfl⟩:=int_of g0
  obtain ⟨x1,w1,rfl⟩:=int_of g1
  obtain ⟨x2,w2,rfl⟩:=int_of g2
  exact ⟨⟨x0,x1,x2⟩,⟨w0,w1,w2⟩,rfl⟩

def shVer:Sh:=.st [.int .i64,.str,.str,.bool,.bool,.int .i64,.int .i64,.int .i64,shInts,.int .i64,.int .i64,.int .i64]
def VerD.wf (x:VerD):Prop:=inI x.id ∧ x.bkt.size ≤ 2 ^ 47 ∧ x.key.size ≤ 2 ^ 47 ∧ inI x.size ∧ inI x.time ∧ inI x.tier ∧ ((x.secs.length ≤ 2 ^ 47 ∧ x.secs.length * 8 ≤ 2 ^ 47) ∧ ∀ n ∈ x.secs,inI n) ∧ inI x.vol ∧ inI x.pos ∧ inI x.till
theorem ver_of {rs:List RV} (h:Shaped shVer rs):∃ x:VerD,x.wf ∧ rs = x.row:=by
  have h0:=shaped_st h
  obtain ⟨a0,r0,g0,h1,rfl⟩:=shapedL_cons h0
  obtain ⟨a1,r1,g1,h2,rfl⟩:=shapedL_cons h1
  obtain ⟨a2,r2,g2,h3,rfl⟩:=shapedL_cons h2
  obtain ⟨a3,r3,g3,h4,rfl⟩:=shapedL_cons h3
  obtain ⟨a4,r4,g4,h5,rfl⟩:=shapedL_cons h4
  obtain ⟨a5,r5,g5,h6,rfl⟩:=shapedL_cons h5
  obtain ⟨a6,r6,g6,h7,rfl⟩:=shapedL_cons h6
  obtain ⟨a7,r7,g7,h8,rfl⟩:=shapedL_cons h7
  obtain ⟨a8,r8,g8,h9,rfl⟩:=shapedL_cons h8
  obtain ⟨a9,r9,g9,h10,rfl⟩:=shapedL_cons h9
  obtain ⟨a10,r10,g10,h11,rfl⟩:=shapedL_cons h10
  obtain ⟨a11,r11,g11,h12,rfl⟩:=shapedL_cons h11
  obtain rfl:=shapedL_nil h12
  obtain ⟨x0,w0,rfl⟩:=int_of g0
  obtain ⟨x1,w1,rfl⟩:=shaped_str g1
  obtain ⟨x2,w2,rfl⟩:=shaped_str g2
  obtain ⟨x3,rfl⟩:=shaped_bool g3
  obtain ⟨x4,rfl⟩:=shaped_bool g4
  obtain ⟨x5,w5,rfl⟩:=int_of g5
  obtain ⟨x6,w6,rfl⟩:=int_of g6
  obtain ⟨x7,w7,rfl⟩:=int_of g7
  obtain ⟨x8,w8,rfl⟩:=ints_of g8
  obtain ⟨x9,w9,rfl⟩:=int_of g9
  obtain ⟨x10,w10,rfl⟩:=int_of g10
  obtain ⟨x11,w11,rfl⟩:=int_of g11
  exact ⟨⟨x0,x1,x2,x3,x4,x5,x6,x7,x8,x9,x10,x11⟩,⟨w0,w1,w2,w5,w6,w7,w8,w9,w10,w11⟩,rfl⟩

def shPart:Sh:=.st [.int .i64,.int .i64,shInts]
def PartD.wf (x:PartD):Prop:=inI x.num ∧ inI x.size ∧ ((x.secs.length ≤ 2 ^ 47 ∧ x.secs.length * 8 ≤ 2 ^ 47) ∧ ∀ n ∈ x.secs,inI n)
theorem part_of {rs:List RV} (h:Shaped shPart rs):∃ x:PartD,x.wf ∧ rs = x.row:=by
  have h0:=shaped_st h
  obtain ⟨a0,r0,g0,h1,rfl⟩:=shapedL_cons h0
  obtain ⟨a1,r1,g1,h2,rfl⟩:=shapedL_cons h1
  obtain ⟨a2,r2,g2,h3,rfl⟩:=shapedL_cons h2
  obtain rfl:=shapedL_nil h3
  obtain ⟨x0,w0,rfl⟩:=int_of g0
  obtain ⟨x1,w1,rfl⟩:=int_of g1
  obtain ⟨x2,w2,rfl⟩:=ints_of g2
  exact ⟨⟨x0,x1,x2⟩,⟨w0,w1,w2⟩,rfl⟩

def shUp:Sh:=.st [.int .i64,.str,.str,.sl shPart]
def UpD.wf (x:UpD):Prop:=inI x.id ∧ x.bkt.size ≤ 2 ^ 47 ∧ x.key.size ≤ 2 ^ 47 ∧ ((x.parts.length ≤ 2 ^ 47 ∧ x.parts.length * shPart.by ≤ 2 ^ 47) ∧ ∀ y ∈ x.parts,y.wf)
theorem up_of {rs:List RV} (h:Shaped shUp rs):∃ x:UpD,x.wf ∧ rs = x.row:=by
  have h0:=shaped_st h
  obtain ⟨a0,r0,g0,h1,rfl⟩:=shapedL_cons h0
  obtain ⟨a1,r1,g1,h2,rfl⟩:=shapedL_cons h1
  obtain ⟨a2,r2,g2,h3,rfl⟩:=shapedL_cons h2
  obtain ⟨a3,r3,g3,h4,rfl⟩:=shapedL_cons h3
  obtain rfl:=shapedL_nil h4
  obtain ⟨x0,w0,rfl⟩:=int_of g0
  obtain ⟨x1,w1,rfl⟩:=shaped_str g1
  obtain ⟨x2,w2,rfl⟩:=shaped_str g2
  obtain ⟨x3,w3,rfl⟩:=sl_of (fun r h=>part_of h) g3
  exact ⟨⟨x0,x1,x2,x3⟩,⟨w0,w1,w2,w3⟩,rfl⟩

def shBkt:Sh:=.st [.str,.int .i64,.st [.str,.int .i64,.int .i64]]
def BktD.wf (x:BktD):Prop:=x.name.size ≤ 2 ^ 47
theorem bkt_of {rs:List RV} (h:Shaped shBkt rs):∃ x:BktD,x.wf ∧ rs = x.row:=by
  have h0:=shaped_st h
  obtain ⟨a0,r0,g0,h1,rfl⟩:=shapedL_cons h0
  obtain ⟨a1,r1,g1,h2,rfl⟩:=shapedL_cons h1
  obtain ⟨a2,r2,g2,h3,rfl⟩:=shapedL_cons h2
  obtain rfl:=shapedL_nil h3
  obtain ⟨x0,w0,rfl⟩:=shaped_str g0
  obtain ⟨x1,w1,rfl⟩:=int_of g1
  have k0:=shaped_st g2
  obtain ⟨b0,s0,m0,k1,rfl⟩:=shapedL_cons k0
  obtain ⟨b1,s1,m1,k2,rfl⟩:=shapedL_cons k1
  obtain ⟨b2,s2,m2,k3,rfl⟩:=shapedL_cons k2
  obtain rfl:=shapedL_nil k3
  obtain ⟨y0,v0,rfl⟩:=shaped_str m0
  obtain ⟨y1,v1,rfl⟩:=int_of m1
  obtain ⟨y2,v2,rfl⟩:=int_of m2
  exact ⟨⟨x0,x1,y0,y1,y2⟩,w0,rfl⟩

def shSt:Sh:=.st [.int .i64,.int .i64,.sl shBkt,.sl shVer,.sl shUp,.sl shAsk,shInts]
def SttD.row (x:SttD):List RV:=[.v (.int .i64 x.next)] ++ ([.v (.int .i64 x.clock)] ++ ([.ro (x.bkts.map BktD.row)] ++ ([.ro (x.vers.map VerD.row)] ++ ([.ro (x.ups.map UpD.row)] ++ ([.ro (x.queue.map AskD.row)] ++ ([ints x.gone]))))))
def SttD.wf (x:SttD):Prop:=inI x.next ∧ inI x.clock ∧ ((x.bkts.length ≤ 2 ^ 47 ∧ x.bkts.length * shBkt.by ≤ 2 ^ 47) ∧ ∀ y ∈ x.bkts,y.wf) ∧ ((x.vers.length ≤ 2 ^ 47 ∧ x.vers.length * shVer.by ≤ 2 ^ 47) ∧ ∀ y ∈ x.vers,y.wf) ∧ ((x.ups.length ≤ 2 ^ 47 ∧ x.ups.length * shUp.by ≤ 2 ^ 47) ∧ ∀ y ∈ x.ups,y.wf) ∧ ((x.queue.length ≤ 2 ^ 47 ∧ x.queue.length * shAsk.by ≤ 2 ^ 47) ∧ ∀ y ∈ x.queue,y.wf) ∧ ((x.gone.length ≤ 2 ^ 47 ∧ x.gone.length * 8 ≤ 2 ^ 47) ∧ ∀ n ∈ x.gone,inI n)
theorem st_of {rs:List RV} (h:Shaped shSt rs):∃ x:SttD,x.wf ∧ rs = x.row:=by
  have h0:=shaped_st h
  obtain ⟨a0,r0,g0,h1,rfl⟩:=shapedL_cons h0
  obtain ⟨a1,r1,g1,h2,rfl⟩:=shapedL_cons h1
  obtain ⟨a2,r2,g2,h3,rfl⟩:=shapedL_cons h2
  obtain ⟨a3,r3,g3,h4,rfl⟩:=shapedL_cons h3
  obtain ⟨a4,r4,g4,h5,rfl⟩:=shapedL_cons h4
  obtain ⟨a5,r5,g5,h6,rfl⟩:=shapedL_cons h5
  obtain ⟨a6,r6,g6,h7,rfl⟩:=shapedL_cons h6
  obtain rfl:=shapedL_nil h7
  obtain ⟨x0,w0,rfl⟩:=int_of g0
  obtain ⟨x1,w1,rfl⟩:=int_of g1
  obtain ⟨x2,w2,rfl⟩:=sl_of (fun r h=>bkt_of h) g2
  obtain ⟨x3,w3,rfl⟩:=sl_of (fun r h=>ver_of h) g3
  obtain ⟨x4,w4,rfl⟩:=sl_of (fun r h=>up_of h) g4
  obtain ⟨x5,w5,rfl⟩:=sl_of (fun r h=>ask_of h) g5
  obtain ⟨x6,w6,rfl⟩:=ints_of g6
  exact ⟨⟨x0,x1,x2,x3,x4,x5,x6⟩,⟨w0,w1,w2,w3,w4,w5,w6⟩,rfl⟩

theorem st_fit {s:SttD} (h:s.wf):s.fit:=by
  obtain ⟨_,_,⟨⟨_,h1⟩,_⟩,⟨⟨_,h2⟩,h2'⟩,⟨⟨_,h3⟩,h3'⟩,⟨⟨_,h4⟩,_⟩,⟨⟨_,h5⟩,_⟩⟩:=h
  have e1:shBkt.by = 56:=rfl
  have e2:shVer.by = 120:=rfl
  have e3:shUp.by = 64:=rfl
  have e4:shAsk.by = 24:=rfl
  have e5:shPart.by = 40:=rfl
  rw [e1] at h1
  rw [e2] at h2
  rw [e3] at h3
  rw [e4] at h4
  refine ⟨h1,h2,h3,h4,h5,fun i hi=>?_,fun i hi=>?_,fun i hi j hj=>?_⟩
  · have hm:s.vers[i]! ∈ s.vers:=by simp [hi]
    have hv:=h2' _ hm
    generalize s.vers[i]! = v at hv ⊢
    unfold VerD.wf at hv
    omega
  · have hm:s.ups[i]! ∈ s.ups:=by simp [hi]
    have hv:=h3' _ hm
    generalize s.ups[i]! = v at hv ⊢
    unfold UpD.wf at hv
    rw [e5] at hv
    omega
  · have hm:s.ups[i]! ∈ s.ups:=by simp [hi]
    have hv:=h3' _ hm
    generalize s.ups[i]! = v at hv hj ⊢
    unfold UpD.wf at hv
    have hp:=hv.2.2.2.2 (v.parts[j]!) (by simp [hj])
    generalize v.parts[j]! = p at hp ⊢
    unfold PartD.wf at hp
    omega
end Go.Proofs.Ytikgiadbkjmabaa
