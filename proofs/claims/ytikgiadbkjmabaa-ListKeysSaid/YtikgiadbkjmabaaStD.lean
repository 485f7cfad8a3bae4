/- States,as trees. -/
import Derived.Test.YtikgiadbkjmabaaBase
namespace Go.Proofs.Ytikgiadbkjmabaa
open Go.RowKit
set_option maxHeartbeats 4000000
set_option maxRecDepth 20000
attribute [local irreducible] SW OSW SWL SWLn SWD SEcall SEcallv SDv SE SO1 SOg ACalls ACallv Wk EndV
set_option linter.unusedSimpArgs false
set_option linter.unusedVariables false
structure BktD where
  name:ByteArray
  mode:Int
  pre:ByteArray
  frz:Int
  drop:Int
instance:Inhabited BktD:=⟨⟨⟨#[]⟩,0,⟨#[]⟩,0,0⟩⟩
def BktD.row (x:BktD):List RV:=[.v (.string x.name),.v (.int .i64 x.mode),.v (.string x.pre),.v (.int .i64 x.frz),.v (.int .i64 x.drop)]
structure AskD where
  ver:Int
  days:Int
  cls:Int
instance:Inhabited AskD:=⟨⟨0,0,0⟩⟩
def AskD.row (x:AskD):List RV:=[.v (.int .i64 x.ver),.v (.int .i64 x.days),.v (.int .i64 x.cls)]
structure VerD where
  id:Int
  bkt:ByteArray
  key:ByteArray
  null:Bool
  mark:Bool
  size:Int
  time:Int
  tier:Int
  secs:List Int
  vol:Int
  pos:Int
  till:Int
instance:Inhabited VerD:=⟨⟨0,⟨#[]⟩,⟨#[]⟩,false,false,0,0,0,[],0,0,0⟩⟩
def VerD.row (x:VerD):List RV:=[.v (.int .i64 x.id),.v (.string x.bkt),.v (.string x.key),.v (.bool x.null),.v (.bool x.mark),.v (.int .i64 x.size),.v (.int .i64 x.time),.v (.int .i64 x.tier),ints x.secs,.v (.int .i64 x.vol),.v (.int .i64 x.pos),.v (.int .i64 x.till)]
structure PartD where
  num:Int
  size:Int
  secs:List Int
instance:Inhabited PartD:=⟨⟨0,0,[]⟩⟩
def PartD.row (x:PartD):List RV:=[.v (.int .i64 x.num),.v (.int .i64 x.size),ints x.secs]
structure UpD where
  id:Int
  bkt:ByteArray
  key:ByteArray
  parts:List PartD
instance:Inhabited UpD:=⟨⟨0,⟨#[]⟩,⟨#[]⟩,[]⟩⟩
def UpD.row (x:UpD):List RV:=[.v (.int .i64 x.id),.v (.string x.bkt),.v (.string x.key),.ro (x.parts.map PartD.row)]
structure SttD where
  next:Int
  clock:Int
  bkts:List BktD
  vers:List VerD
  ups:List UpD
  queue:List AskD
  gone:List Int
def SttD.cells (s:SttD):List AV:=[I s.next,I s.clock,.d (.ro (s.bkts.map BktD.row)),.d (.ro (s.vers.map VerD.row)),.d (.ro (s.ups.map UpD.row)),.d (.ro (s.queue.map AskD.row)),.d (ints s.gone)]
def SttD.av (s:SttD):AV:=.agg s.cells
structure SttD.fit (s:SttD):Prop where
  b:s.bkts.length * 56 ≤ 2 ^ 47
  v:s.vers.length * 120 ≤ 2 ^ 47
  u:s.ups.length * 64 ≤ 2 ^ 47
  q:s.queue.length * 24 ≤ 2 ^ 47
  g:s.gone.length * 8 ≤ 2 ^ 47
  vs:∀ i,i < s.vers.length → (s.vers[i]!).secs.length * 8 ≤ 2 ^ 47
  us:∀ i,i < s.ups.length → (s.ups[i]!).parts.length * 40 ≤ 2 ^ 47
  ps:∀ i,i < s.ups.length → ∀ j,j < (s.ups[i]!).parts.length → ((s.ups[i]!).parts[j]!).secs.length * 8 ≤ 2 ^ 47
theorem st_sz5 {s:SttD} (h:s.av.sz):s.vers.length ≤ 2 ^ 47 ∧ s.ups.length ≤ 2 ^ 47 ∧ s.bkts.length ≤ 2 ^ 47 ∧ s.queue.length ≤ 2 ^ 47 ∧ s.gone.length ≤ 2 ^ 47:=by
  simp only [SttD.av,SttD.cells,AV.sz] at h
  have h1:=h (.d (.ro (s.vers.map VerD.row))) (by simp)
  have h2:=h (.d (.ro (s.ups.map UpD.row))) (by simp)
  have h3:=h (.d (.ro (s.bkts.map BktD.row))) (by simp)
  have h4:=h (.d (.ro (s.queue.map AskD.row))) (by simp)
  have h5:=h (.d (ints s.gone)) (by simp)
  exact ⟨by simpa using Sized.len h1,by simpa using Sized.len h2,by simpa using Sized.len h3,by simpa using Sized.len h4,by simpa [ints] using Sized.len h5⟩
end Go.Proofs.Ytikgiadbkjmabaa
