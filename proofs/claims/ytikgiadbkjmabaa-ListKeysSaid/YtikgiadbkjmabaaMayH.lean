/- Words for the walk of the reference's StateMay. -/
import Derived.Test.YtikgiadbkjmabaaBnd
namespace Go.Proofs.Ytikgiadbkjmabaa
open Go.RowKit
set_option maxHeartbeats 4000000
set_option maxRecDepth 20000
attribute [local irreducible] SW OSW SWL SWLn SWD SEcall SEcallv SDv SE SO1 SOg ACalls ACallv Wk EndV
set_option linter.unusedSimpArgs false
set_option linter.unusedVariables false
theorem low_row {α:Type} [Inhabited α] {f:α → List RV} {l:List α} {k j:Nat} (h1:decide ((k:Int) < (l.length:Int)) = true) (h2:decide ((j:Int) < (k:Int)) = true):rowOf (l.map f) j = f l[j]! :=
  rowOf_mapD _ _ _ (decide_eq_true (by have:=ltS h1;have:=ltS h2;omega))
theorem prev_wD {k n:Nat} (hn:n ≤ 2 ^ 47) (h0:decide ((k:Int) < (n:Int)) = true) (h:decide ((k:Int) > 0) = true):IntKind.i64.wrap ((k:Int) - 1) = ((k - 1:Nat):Int):=prev_w (by have:=ltS h0;omega) h
theorem prev_rowD {α:Type} [Inhabited α] {f:α → List RV} {l:List α} {k:Nat} (h0:decide ((k:Int) < (l.length:Int)) = true) (h:decide ((k:Int) > 0) = true):rowOf (l.map f) (k - 1) = f l[k - 1]!:=prev_row (by have:=ltS h0;omega) h
theorem st_szd {s:SttD} (h:s.av.sz):∀ k:Nat,(s.ups[k]!).parts.length ≤ 2 ^ 47:=fun k=>by
  rcases Nat.lt_or_ge k s.ups.length with hk | hk
  · simp only [SttD.av,SttD.cells,AV.sz] at h
    have h2:Sized (.ro (s.ups.map UpD.row)):=h (.d (.ro (s.ups.map UpD.row))) (by simp)
    have h3:Sized (.ro ((s.ups[k]!).parts.map PartD.row)):=h2.cell (r:=UpD.row s.ups[k]!) (List.mem_map.2 ⟨s.ups[k]!,by rw [getElem!_pos s.ups k hk];exact List.getElem_mem hk,rfl⟩) (by simp [UpD.row])
    simpa using h3.len
  · rw [getElem!_neg s.ups k (by omega)];exact Nat.zero_le _
theorem none_no {n k:Nat} {p:Nat → Bool} (hk:k < n) (h:p k = true):noneF n p = false:=by
  unfold noneF;rw [List.all_eq_false];exact ⟨k,List.mem_range.2 hk,by rw [h];decide⟩
theorem any_yes {n k:Nat} {p:Nat → Bool} (hk:k < n) (h:p k = true):(List.range n).any p = true:=List.any_eq_true.2 ⟨k,List.mem_range.2 hk,h⟩
theorem any_no {n:Nat} {p:Nat → Bool} (h:∀ k,k < n → p k = false):(List.range n).any p = false:=by
  rw [List.any_eq_false];intro x hx;rw [h x (List.mem_range.1 hx)];decide
theorem Bo_no {b:Bool} (h:b = false):AV.d (RV.v (Value.bool false)) = Bo b:=by rw [h]
theorem Bo_yes {b:Bool} (h:b = true):AV.d (RV.v (Value.bool true)) = Bo b:=by rw [h]
theorem may_num {s:SttD} (h:mNum s = true):mayF s = false:=by unfold mayF;rw [h];rfl
theorem may_gone {s:SttD} {k:Nat} (hk:decide ((k:Int) < (s.gone.length:Int)) = true) (h:mGone s.gone k = true):mayF s = false:=by
  unfold mayF;rw [none_no (ltS hk) h];simp
theorem may_bkt {s:SttD} {k:Nat} (hk:decide ((k:Int) < (s.bkts.length:Int)) = true) (h:mBkt s.bkts k = true):mayF s = false:=by
  unfold mayF;rw [none_no (ltS hk) h];simp
theorem may_ver {s:SttD} {k:Nat} (hk:decide ((k:Int) < (s.vers.length:Int)) = true) (h:mVer s k = true):mayF s = false:=by
  unfold mayF;rw [none_no (ltS hk) h];simp
theorem may_up {s:SttD} {k:Nat} (hk:decide ((k:Int) < (s.ups.length:Int)) = true) (h:mUp s k = true):mayF s = false:=by
  unfold mayF;rw [none_no (ltS hk) h];simp
theorem may_qu {s:SttD} {k:Nat} (hk:decide ((k:Int) < (s.queue.length:Int)) = true) (h:mQu s k = true):mayF s = false:=by
  unfold mayF;rw [none_no (ltS hk) h];simp
theorem may_sec {s:SttD} {k:Nat} (hk:decide ((k:Int) < ((allSec s).length:Int)) = true) (h:mSec (allSec s) k = true):mayF s = false:=by
  unfold mayF;rw [none_no (ltS hk) h];simp
theorem ver_two {s:SttD} {k j:Nat} (hj:decide ((j:Int) < (k:Int)) = true) (h:mTwo s.vers[k]! s.vers[j]! = true):mVer s k = true:=by
  unfold mVer;rw [any_yes (ltS hj) h];simp
theorem up_pt {s:SttD} {k j:Nat} (hj:decide ((j:Int) < ((s.ups[k]!).parts.length:Int)) = true) (h:mPt s.ups[k]!.parts j = true):mUp s k = true:=by
  unfold mUp;rw [any_yes (ltS hj) h];simp
theorem qu_two {s:SttD} {k j:Nat} (hj:decide ((j:Int) < (k:Int)) = true) (h:(s.queue[j]!.ver == s.queue[k]!.ver) = true):mQu s k = true:=by
  unfold mQu;rw [any_yes (ltS hj) h];simp
theorem sec_two {l:List Int} {k j:Nat} (hj:decide ((j:Int) < (k:Int)) = true) (h:(l[k]! == l[j]!) = true):mSec l k = true:=by
  unfold mSec;rw [any_yes (ltS hj) h];simp
theorem ver_ok {s:SttD} {k j:Nat} (hF:∀ i,i < j → mTwo s.vers[k]! s.vers[i]! = false) (hj:decide ((j:Int) < (k:Int)) = false) (h:(!vmF s s.vers[k]! || (decide ((k:Int) > 0) && decide (s.vers[k]!.id ≤ s.vers[k - 1]!.id))) = false):mVer s k = false:=by
  unfold mVer;rw [h,any_no fun i hi=>hF i (by have:=geS hj;omega)];rfl
theorem up_ok {s:SttD} {k j:Nat} (hF:∀ i,i < j → mPt s.ups[k]!.parts i = false) (hj:decide ((j:Int) < ((s.ups[k]!).parts.length:Int)) = false) (h:(decide (idxD s.bkts.length (pB s.bkts s.ups[k]!.bkt) < 0) || (wordF s.ups[k]!.key 16 != 0 || (!inR s.ups[k]!.id 1 (IntKind.i64.wrap (s.next - 1)) || (decide ((k:Int) > 0) && decide (s.ups[k]!.id ≤ s.ups[k - 1]!.id))))) = false):mUp s k = false:=by
  unfold mUp;rw [h,any_no fun i hi=>hF i (by have:=geS hj;omega)];rfl
theorem qu_ok {s:SttD} {k j:Nat} (hF:∀ i,i < j → (s.queue[i]!.ver == s.queue[k]!.ver) = false) (hj:decide ((j:Int) < (k:Int)) = false) (h:(decide (idxD s.vers.length (pV s.vers s.queue[k]!.ver) < 0) || (s.vers[(idxD s.vers.length (pV s.vers s.queue[k]!.ver)).toNat]!.tier != 2 || (!inR s.queue[k]!.days 1 1000 || !inR s.queue[k]!.cls 0 2))) = false):mQu s k = false:=by
  unfold mQu;rw [h,any_no fun i hi=>hF i (by have:=geS hj;omega)];rfl
theorem sec_ok {l:List Int} {k j:Nat} (hF:∀ i,i < j → (l[k]! == l[i]!) = false) (hj:decide ((j:Int) < (k:Int)) = false) (h:(!inR l[k]! 0 199) = false):mSec l k = false:=by
  unfold mSec;rw [h,any_no fun i hi=>hF i (by have:=geS hj;omega)];rfl
theorem none_all {n k:Nat} {p:Nat → Bool} (hk:decide ((k:Int) < (n:Int)) = false) (h:∀ i,i < k → p i = false):noneF n p = true:=none_iff.2 fun i hi=>h i (by have:=geS hk;omega)
theorem may_yes {s:SttD} {kg kb kv ku kq kx:Nat} (h0:mNum s = false) (g1:decide ((kg:Int) < (s.gone.length:Int)) = false) (h1:∀ i,i < kg → mGone s.gone i = false) (g2:decide ((kb:Int) < (s.bkts.length:Int)) = false) (h2:∀ i,i < kb → mBkt s.bkts i = false) (g3:decide ((kv:Int) < (s.vers.length:Int)) = false) (h3:∀ i,i < kv → mVer s i = false)
    (g4:decide ((ku:Int) < (s.ups.length:Int)) = false) (h4:∀ i,i < ku → mUp s i = false) (g5:decide ((kq:Int) < (s.queue.length:Int)) = false) (h5:∀ i,i < kq → mQu s i = false) (g6:decide ((kx:Int) < ((allSec s).length:Int)) = false) (h6:∀ i,i < kx → mSec (allSec s) i = false):mayF s = true:=by
  unfold mayF
  rw [h0,none_all g1 h1,none_all g2 h2,none_all g3 h3,none_all g4 h4,none_all g5 h5,none_all g6 h6];rfl
end Go.Proofs.Ytikgiadbkjmabaa
