/- The reference: what a state must be. Only what it answers,as plain Lean;its walk is still to be done. -/
import Derived.Test.YtikgiadbkjmabaaAll
import Derived.Test.YtikgiadbkjmabaaCheck
namespace Go.Proofs.Ytikgiadbkjmabaa
open Go.RowKit
set_option maxHeartbeats 4000000
set_option maxRecDepth 20000
attribute [local irreducible] SW OSW SWL SWLn SWD SEcall SEcallv SDv SE SO1 SOg ACalls ACallv Wk EndV
set_option linter.unusedSimpArgs false
set_option linter.unusedVariables false
def mGone (l:List Int) (k:Nat):Bool:=!inR l[k]! 0 7 || (decide ((k:Int) > 0) && decide (l[k]! ≤ l[k - 1]!))
def mBkt (l:List BktD) (k:Nat):Bool:=wordF l[k]!.name 8 != 0 || (!inR l[k]!.mode 0 2 || (ruleF l[k]!.pre l[k]!.frz l[k]!.drop != 0 || (decide ((k:Int) > 0) && (Op.bytesLess l[k]!.name.toList l[k - 1]!.name.toList || l[k]!.name.toList == l[k - 1]!.name.toList))))
def mTwo (v w:VerD):Bool:=v.null && (w.null && (v.bkt.toList == w.bkt.toList && v.key.toList == w.key.toList))
def mVer (s:SttD) (k:Nat):Bool:=(!vmF s s.vers[k]! || (decide ((k:Int) > 0) && decide (s.vers[k]!.id ≤ s.vers[k - 1]!.id))) || (List.range k).any (fun j=>mTwo s.vers[k]! s.vers[j]!)
def mPt (l:List PartD) (k:Nat):Bool:=!inR l[k]!.num 1 5 || (!inR l[k]!.size 0 600 || ((l[k]!.secs.length:Int) != secN l[k]!.size || (decide ((k:Int) > 0) && decide (l[k]!.num ≤ l[k - 1]!.num))))
def mUp (s:SttD) (k:Nat):Bool:=(decide (idxD s.bkts.length (pB s.bkts s.ups[k]!.bkt) < 0) || (wordF s.ups[k]!.key 16 != 0 || (!inR s.ups[k]!.id 1 (IntKind.i64.wrap (s.next - 1)) || (decide ((k:Int) > 0) && decide (s.ups[k]!.id ≤ s.ups[k - 1]!.id))))) || (List.range s.ups[k]!.parts.length).any (mPt s.ups[k]!.parts)
def mQu (s:SttD) (k:Nat):Bool:=(decide (idxD s.vers.length (pV s.vers s.queue[k]!.ver) < 0) || (s.vers[(idxD s.vers.length (pV s.vers s.queue[k]!.ver)).toNat]!.tier != 2 || (!inR s.queue[k]!.days 1 1000 || !inR s.queue[k]!.cls 0 2))) || (List.range k).any (fun j=>s.queue[j]!.ver == s.queue[k]!.ver)
def mSec (l:List Int) (k:Nat):Bool:=!inR l[k]! 0 199 || (List.range k).any (fun j=>l[k]! == l[j]!)
def mNum (s:SttD):Bool:=!inR s.next 1 1048576 || (!inR s.clock 0 1073741824 || (decide ((s.bkts.length:Int) > 4) || (decide ((s.vers.length:Int) > 40) || (decide ((s.ups.length:Int) > 4) || decide ((s.queue.length:Int) > 10)))))
def noneF (n:Nat) (p:Nat → Bool):Bool:=(List.range n).all fun k=>!p k
def mayF (s:SttD):Bool:=!mNum s && (noneF s.gone.length (mGone s.gone) && (noneF s.bkts.length (mBkt s.bkts) && (noneF s.vers.length (mVer s) && (noneF s.ups.length (mUp s) && (noneF s.queue.length (mQu s) && noneF (allSec s).length (mSec (allSec s)))))))
end Go.Proofs.Ytikgiadbkjmabaa
