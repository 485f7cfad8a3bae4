/- Maps of numbers,and of pairs of texts: what the model makes of them. No program in sight. -/
import Derived.Test.YtikgiadbkjmabaaEngC
import Derived.MapKept
import Derived.DeepKeys3
import Derived.WideKeyMaps
namespace Go.Proofs.Ytikgiadbkjmabaa
open Go.RowKit
set_option linter.unusedSimpArgs false
set_option linter.unusedVariables false

def tzb (P:Program) (t:TypeId):Bool:=match (P.info? t).bind (·.zero) with
  | some (.bool false)=>true
  | _=>false
theorem run_tzb {P:Program} {t:TypeId} (h:tzb P t = true) (w:World):(zeroValue t).run P w = .ok (.bool false) w:=by
  unfold tzb at h
  split at h
  · rename_i h0
    obtain ⟨i,hi,hz⟩:=Option.bind_eq_some_iff.1 h0
    simp [zeroValue,typeInfo,hi,hz]
  · cases h

theorem mapT_int {P:Program} {t kt et:TypeId} (hu:P.underlying t = some (.map kt et)) (hk:P.underlying kt = some (.int .i64)) (he:tzb P et = true):MapT P t false:=by
  have key:∀ k:KV,k.ok false → MapKept.IsKey (.int .i64) k.val:=fun k hk=>by
    cases k with
    | i n=>rfl
    | s2 a b=>exact absurd hk.1 (by simp [KV.kind])
  refine ⟨kt,et,hu,run_tzb he,fun w em k hok=>MapKept.run_checkKey hk (key k hok) em 9999,fun w k xs hok hall=>?_,fun w k hok=>MapKept.run_keyThatStays (key k hok)⟩
  rcases MapKept.findNow_spec (key k hok) xs 0 (fun x hx=>by obtain ⟨k',h1,h2⟩:=hall x hx;rw [h2];exact key k' h1) with ⟨h1,h2⟩ | ⟨j,e,h1,h2,h3⟩
  · exact .inl ⟨MapKept.run_findKey hk h1,h2⟩
  · exact .inr ⟨j,e,by simpa using MapKept.run_findKey hk h1,h2,h3⟩

theorem mapT_s2 {P:Program} {t kt et st:TypeId} (hu:P.underlying t = some (.map kt et)) (hk:P.underlying kt = some (.array 2 st)) (hs:P.underlying st = some .string) (hz:P.cellsOf kt = 2) (hz1:P.cellsOf st = 1) (h0:decide (0 < P.types.size) = true) (he:tzb P et = true):MapT P t true:=by
  have L:WideMaps.KeyLaw P kt:=deep_law (m:=2) (by omega) (by simp [Program.keyTypeAt,hk,hs]) (by simp [Program.tiled,hk,hs,hz,hz1]) (by simp [hk])
  obtain ⟨m,hm⟩:∃ m,P.types.size = m + 1:=⟨P.types.size - 1,by have:=of_decide_eq_true h0;omega⟩
  have key:∀ k:KV,k.ok true → ∃ l,keyOf P kt k.val = some l:=fun k hok=>by
    cases k with
    | i n=>exact absurd hok.1 (by simp [KV.kind])
    | s2 a b =>
      obtain ⟨_,ha,hb⟩:=hok
      simp [keyOf,hk,Program.keyType,hm,Program.keyTypeAt,hs,KV.val,Value.formed,hz,Program.keyLits,hz1,Value.cells,List.range,List.range.loop,ha,hb]
  refine ⟨kt,et,hu,run_tzb he,fun w em k hok=>?_,fun w k xs hok hall=>?_,fun w k hok=>?_⟩
  · obtain ⟨l,hl⟩:=key k hok;exact L.check w em hl
  · obtain ⟨l,hl⟩:=key k hok
    exact L.find w hl xs fun e he=>by
      obtain ⟨k',h1,h2⟩:=hall e he
      rw [h2];exact key k' h1
  · obtain ⟨l,hl⟩:=key k hok;exact L.stays w hl
end Go.Proofs.Ytikgiadbkjmabaa
