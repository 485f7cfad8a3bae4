/- A state that was read: what it is like;what code.DecodeState answers. Plain. -/
import Derived.Test.YtijpmidnclbhpaaPlC
import Derived.Test.YtijpmidnclbhpaaOpenSt
import Derived.Test.YtijpmidnclbhpaaKM0

/- state.Check answers what the document says. -/
namespace Go.Proofs.Ytijpmidnclbhpaa
open Go.RowKit
set_option maxHeartbeats 4000000
set_option maxRecDepth 20000
attribute [local irreducible] SW OSW SWL SWLn SWD SEcall SEcallv SDv SE SO1 SOg ACalls ACallv Wk EndV
set_option linter.unusedSimpArgs false
set_option linter.unusedVariables false
theorem fit_key {s:SttD} (h:s.wf):∀ k,k < s.vers.length → (KV.s2 s.vers[k]!.bkt s.vers[k]!.key).ok true:=fun k hk=>by
  have hm:s.vers[k]! ∈ s.vers:=by simp [hk]
  have hv:(s.vers[k]!).wf:=h.2.2.2.1.2 _ hm
  have e:maxLen = 2 ^ 63 - 1:=by unfold maxLen;rfl
  exact ⟨rfl,by show _ ≤ maxLen ∧ _ ≤ maxLen;rw [e];have h1:=hv.2.1;have h2:=hv.2.2.1;omega⟩
theorem fit_pts {s:SttD} (h:s.fit):∀ k:Nat,(s.ups[k]!).parts.length ≤ 2 ^ 47:=fun k=>by
  rcases Nat.lt_or_ge k s.ups.length with hk | hk
  · have:=h.us k hk;omega
  · rw [getElem!_neg s.ups k (by omega)];exact Nat.zero_le _
theorem check9_p (s:SttD) (hw:s.wf):Pure Try.prog 11 [s.av] (I (bif mayF s then 0 else 9)):=by
  rw [← check_eq]
  exact check_p s (fit_key hw) (fit_pts (st_fit hw))
end Go.Proofs.Ytijpmidnclbhpaa
namespace Go.Proofs.Ytijpmidnclbhpaa
open Go.RowKit
set_option maxHeartbeats 4000000
set_option maxRecDepth 20000
attribute [local irreducible] SW OSW SWL SWLn SWD SEcall SEcallv SDv SE SO1 SOg ACalls ACallv Wk EndV
set_option linter.unusedSimpArgs false
set_option linter.unusedVariables false
theorem takN_in (s:RdS) {k:Nat} (h:k ≤ 4):inI (takN s k):=by
  have:=takN_b s h
  unfold inI;omega
theorem textN_le (s:RdS):(textN s).size ≤ 255:=by
  have h1:=takN_1 s
  unfold textN
  cases txBad s
  · have:(txt ((takS s 1).1.take (takN s 1).toNat)).size = ((takS s 1).1.take (takN s 1).toNat).length:=by simp [txt,ByteArray.size]
    simp only [cond_false]
    rw [this,List.length_take];omega
  · simp only [cond_true];decide
theorem itC_le (s:RdS):∀ f k,itC s f k ≤ k + f
  | 0,k=>Nat.le_refl _
  | f + 1,k=>by
    unfold itC
    cases (itS s k).2 == 0
    · simp
    · have:=itC_le s f (k + 1)
      simp only [cond_true];omega
theorem intsN_le (s:RdS):(intsN s).length ≤ 255:=by
  have h1:=itC_le s (takN s 1).toNat 0
  have h2:=takN_1 s
  unfold intsN;rw [itL_len];unfold itM;omega
theorem intsN_in (s:RdS):∀ n ∈ intsN s,inI n:=by
  intro n hn
  unfold intsN itL at hn
  simp only [List.mem_map] at hn
  obtain ⟨j,_,rfl⟩:=hn
  exact takN_in _ (by decide)
theorem ints_wf (s:RdS):((intsN s).length ≤ 2 ^ 47 ∧ (intsN s).length * 8 ≤ 2 ^ 47) ∧ ∀ n ∈ intsN s,inI n:=by
  have:=intsN_le s
  exact ⟨⟨by omega,by omega⟩,intsN_in s⟩
theorem mnL_all {α:Type} {N:RdS → α} {S:RdS → RdS} {p:α → Prop} (h:∀ s,p (N s)) (s:RdS):∀ y ∈ mnLe N S s,p y:=by
  intro y hy
  unfold mnLe mnL at hy
  simp only [List.mem_map] at hy
  obtain ⟨j,_,rfl⟩:=hy
  exact h _
theorem bkN_wf (s:RdS):(bkN s).wf:=by
  have:=textN_le s
  unfold BktD.wf bkN;show (textN s).size ≤ _;omega
theorem askN_wf (s:RdS):(askN s).wf:=⟨takN_in _ (by decide),takN_in _ (by decide),takN_in _ (by decide)⟩
theorem partN_wf (s:RdS):(partN s).wf:=⟨takN_in _ (by decide),takN_in _ (by decide),ints_wf _⟩
theorem verN_wf (s:RdS):(verN s).wf:=by
  have h1:=textN_le (vr1 s)
  have h2:=textN_le (vr2 s)
  have i1:=takN_in s (k:=3) (by decide)
  have i2:=takN_in (vr5 s) (k:=2) (by decide)
  have i3:=takN_in (vr6 s) (k:=4) (by decide)
  have i4:=takN_in (vr7 s) (k:=1) (by decide)
  have i5:=takN_in (vr9 s) (k:=1) (by decide)
  have i6:=takN_in (vr10 s) (k:=2) (by decide)
  have i7:=takN_in (vr11 s) (k:=4) (by decide)
  have i8:=ints_wf (vr8 s)
  unfold VerD.wf verN
  dsimp only
  exact ⟨i1,Nat.le_trans h1 (by decide),Nat.le_trans h2 (by decide),i2,i3,i4,i8,i5,i6,i7⟩
theorem mn_len {α:Type} {N:RdS → α} {S:RdS → RdS} (s:RdS) (c:Nat) (hc:c ≤ 1000):(mnLe N S s).length ≤ 2 ^ 47 ∧ (mnLe N S s).length * c ≤ 2 ^ 47:=by
  have h:=mnLe_len (N:=N) (S:=S) s
  have:(mnLe N S s).length * c ≤ 255 * 1000:=Nat.mul_le_mul h hc
  omega
theorem upN_wf (s:RdS):(upN s).wf:=by
  have h1:=textN_le (up1 s)
  have h2:=textN_le (up2 s)
  have i1:=takN_in s (k:=3) (by decide)
  have i2:=mn_len (N:=partN) (S:=partS) (up3 s) shPart.by (by decide)
  have i3:=mnL_all (S:=partS) partN_wf (up3 s)
  unfold UpD.wf upN
  dsimp only
  exact ⟨i1,Nat.le_trans h1 (by decide),Nat.le_trans h2 (by decide),i2,i3⟩
theorem stN_wf (b:List UInt8):(stN b).wf:=by
  have i1:=takN_in (b,0) (k:=3) (by decide)
  have i2:=takN_in (dS1 b) (k:=4) (by decide)
  have j1:=mn_len (N:=bkN) (S:=bkS) (dS2 b) shBkt.by (by decide)
  have j2:=mn_len (N:=verN) (S:=verS) (dS3 b) shVer.by (by decide)
  have j3:=mn_len (N:=upN) (S:=upT) (dS4 b) shUp.by (by decide)
  have j4:=mn_len (N:=askN) (S:=askS) (dS5 b) shAsk.by (by decide)
  have k1:=mnL_all (S:=bkS) bkN_wf (dS2 b)
  have k2:=mnL_all (S:=verS) verN_wf (dS3 b)
  have k3:=mnL_all (S:=upT) upN_wf (dS4 b)
  have k4:=mnL_all (S:=askS) askN_wf (dS5 b)
  have i8:=ints_wf (dS6 b)
  unfold SttD.wf stN
  dsimp only
  exact ⟨i1,i2,⟨j1,k1⟩,⟨j2,k2⟩,⟨j3,k3⟩,⟨j4,k4⟩,i8⟩
def endE (s:RdS):Int:=bif s.2 == 0 && decide ((s.1.length:Int) > 0) then 4 else s.2
def rdE (b:List UInt8):Int:=bif endE (dS7 b) == 0 then (bif mayF (stN b) then 0 else 9) else endE (dS7 b)
attribute [local irreducible] stN dS7 endE mayF
def stZ0:SttD:=⟨0,0,[],[],[],[],[]⟩
def rdT (b:List UInt8):SttD:=bif rdE b == 0 then stN b else stZ0
def rdV (b:List UInt8):AV:=.tup [(rdT b).av,I (rdE b)]
theorem rd_end_ {b:List UInt8} (h:(endE (dS7 b) == 0) = false):rdV b = .tup [stZ0.av,I (endE (dS7 b))]:=by
  have e:rdE b = endE (dS7 b):=by unfold rdE;rw [h];rfl
  unfold rdV rdT;rw [e,h];rfl
theorem rd_may {b:List UInt8} (h:(endE (dS7 b) == 0) = true) (hm:mayF (stN b) = false):rdV b = .tup [stZ0.av,I 9]:=by
  have e:rdE b = 9:=by unfold rdE;rw [h,hm];rfl
  unfold rdV rdT;rw [e];rfl
theorem rd_ok {b:List UInt8} (h:(endE (dS7 b) == 0) = true) (hm:mayF (stN b) = true):rdV b = .tup [(stN b).av,I 0]:=by
  have e:rdE b = 0:=by unfold rdE;rw [h,hm];rfl
  unfold rdV rdT;rw [e];rfl
end Go.Proofs.Ytijpmidnclbhpaa
