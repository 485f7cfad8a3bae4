/- Facts on the types of the program. -/
import Derived.Test.YtijpmidnclbhpaaEngC
import Derived.MapKept
import Derived.DeepKeys3
import Derived.WideKeyMaps
import Derived.Test.YtijpmidnclbhpaaProg

/- Maps of numbers,and of pairs of texts: what the model makes of them. No program in sight. -/
namespace Go.Proofs.Ytijpmidnclbhpaa
open Go.RowKit
set_option linter.unusedSimpArgs false
set_option linter.unusedVariables false

def tzb (P:Program) (t:TypeId):Bool:=match (P.info? t).bind (·.zero) with
  | some (.bool false)=>true
  | _=>false
theorem run_tzb {P:Program} {t:TypeId} (h:tzb P t = true) (w:World):(zeroValue t).run P w = .ok (.bool false) w:=by
  unfold tzb at h
  split at h
  · rename_i h0
    obtain ⟨i,hi,hz⟩:=Option.bind_eq_some_iff.1 h0
    simp [zeroValue,typeInfo,hi,hz]
  · cases h

theorem mapT_int {P:Program} {t kt et:TypeId} (hu:P.underlying t = some (.map kt et)) (hk:P.underlying kt = some (.int .i64)) (he:tzb P et = true):MapT P t false:=by
  have key:∀ k:KV,k.ok false → MapKept.IsKey (.int .i64) k.val:=fun k hk=>by
    cases k with
    | i n=>rfl
    | s2 a b=>exact absurd hk.1 (by simp [KV.kind])
  refine ⟨kt,et,hu,run_tzb he,fun w em k hok=>MapKept.run_checkKey hk (key k hok) em 9999,fun w k xs hok hall=>?_,fun w k hok=>MapKept.run_keyThatStays (key k hok)⟩
  rcases MapKept.findNow_spec (key k hok) xs 0 (fun x hx=>by obtain ⟨k',h1,h2⟩:=hall x hx;rw [h2];exact key k' h1) with ⟨h1,h2⟩ | ⟨j,e,h1,h2,h3⟩
  · exact .inl ⟨MapKept.run_findKey hk h1,h2⟩
  · exact .inr ⟨j,e,by simpa using MapKept.run_findKey hk h1,h2,h3⟩

theorem mapT_s2 {P:Program} {t kt et st:TypeId} (hu:P.underlying t = some (.map kt et)) (hk:P.underlying kt = some (.array 2 st)) (hs:P.underlying st = some .string) (hz:P.cellsOf kt = 2) (hz1:P.cellsOf st = 1) (h0:decide (0 < P.types.size) = true) (he:tzb P et = true):MapT P t true:=by
  have L:WideMaps.KeyLaw P kt:=deep_law (m:=2) (by omega) (by simp [Program.keyTypeAt,hk,hs]) (by simp [Program.tiled,hk,hs,hz,hz1]) (by simp [hk])
  obtain ⟨m,hm⟩:∃ m,P.types.size = m + 1:=⟨P.types.size - 1,by have:=of_decide_eq_true h0;omega⟩
  have key:∀ k:KV,k.ok true → ∃ l,keyOf P kt k.val = some l:=fun k hok=>by
    cases k with
    | i n=>exact absurd hok.1 (by simp [KV.kind])
    | s2 a b =>
      obtain ⟨_,ha,hb⟩:=hok
      simp [keyOf,hk,Program.keyType,hm,Program.keyTypeAt,hs,KV.val,Value.formed,hz,Program.keyLits,hz1,Value.cells,List.range,List.range.loop,ha,hb]
  refine ⟨kt,et,hu,run_tzb he,fun w em k hok=>?_,fun w k xs hok hall=>?_,fun w k hok=>?_⟩
  · obtain ⟨l,hl⟩:=key k hok;exact L.check w em hl
  · obtain ⟨l,hl⟩:=key k hok
    exact L.find w hl xs fun e he=>by
      obtain ⟨k',h1,h2⟩:=hall e he
      rw [h2];exact key k' h1
  · obtain ⟨l,hl⟩:=key k hok;exact L.stays w hl
end Go.Proofs.Ytijpmidnclbhpaa
namespace Go.Proofs.Ytijpmidnclbhpaa
open Go.RowKit
set_option linter.unusedSimpArgs false
set_option linter.unusedVariables false
set_option maxRecDepth 100000
theorem ty3:tagg Try.prog 3 = (some false) ∧
    tsz Try.prog 3 = (some 1) ∧
    tel Try.prog 3 = none ∧
    tint Try.prog 3 = (some .i64) ∧
    tstr Try.prog 3 = false ∧
    tbool Try.prog 3 = false ∧
    tarr Try.prog 3 = none ∧
    tby Try.prog 3 = (some 8) ∧
    tzero Try.prog 3 = (some [(Value.int .i64 0)]) ∧
    (Try.prog.underlying 3).isSome = true ∧
    tcmp Try.prog 3 = false ∧
    tflds Try.prog 3 = none :=
  ⟨by kernel_rfl,by kernel_rfl,by kernel_rfl,by kernel_rfl,by kernel_rfl,by kernel_rfl,by kernel_rfl,by kernel_rfl,by kernel_rfl,by kernel_rfl,by kernel_rfl,by kernel_rfl⟩
theorem ty4:tagg Try.prog 4 = (some false) ∧
    tsz Try.prog 4 = (some 1) ∧
    tel Try.prog 4 = none ∧
    tint Try.prog 4 = none ∧
    tstr Try.prog 4 = false ∧
    tbool Try.prog 4 = true ∧
    tarr Try.prog 4 = none ∧
    tby Try.prog 4 = (some 1) ∧
    tzero Try.prog 4 = (some [(Value.bool false)]) ∧
    (Try.prog.underlying 4).isSome = true ∧
    tcmp Try.prog 4 = false ∧
    tflds Try.prog 4 = none :=
  ⟨by kernel_rfl,by kernel_rfl,by kernel_rfl,by kernel_rfl,by kernel_rfl,by kernel_rfl,by kernel_rfl,by kernel_rfl,by kernel_rfl,by kernel_rfl,by kernel_rfl,by kernel_rfl⟩
theorem ty5:tagg Try.prog 5 = (some false) ∧
    tsz Try.prog 5 = (some 1) ∧
    tel Try.prog 5 = none ∧
    tint Try.prog 5 = (some .u8) ∧
    tstr Try.prog 5 = false ∧
    tbool Try.prog 5 = false ∧
    tarr Try.prog 5 = none ∧
    tby Try.prog 5 = (some 1) ∧
    tzero Try.prog 5 = (some [(Value.int .u8 0)]) ∧
    (Try.prog.underlying 5).isSome = true ∧
    tcmp Try.prog 5 = false ∧
    tflds Try.prog 5 = none :=
  ⟨by kernel_rfl,by kernel_rfl,by kernel_rfl,by kernel_rfl,by kernel_rfl,by kernel_rfl,by kernel_rfl,by kernel_rfl,by kernel_rfl,by kernel_rfl,by kernel_rfl,by kernel_rfl⟩
theorem ty9:tagg Try.prog 9 = (some false) ∧
    tsz Try.prog 9 = (some 1) ∧
    tel Try.prog 9 = none ∧
    tint Try.prog 9 = none ∧
    tstr Try.prog 9 = true ∧
    tbool Try.prog 9 = false ∧
    tarr Try.prog 9 = none ∧
    tby Try.prog 9 = (some 16) ∧
    tzero Try.prog 9 = (some [(Value.string ⟨#[]⟩)]) ∧
    (Try.prog.underlying 9).isSome = true ∧
    tcmp Try.prog 9 = false ∧
    tflds Try.prog 9 = none :=
  ⟨by kernel_rfl,by kernel_rfl,by kernel_rfl,by kernel_rfl,by kernel_rfl,by kernel_rfl,by kernel_rfl,by kernel_rfl,by kernel_rfl,by kernel_rfl,by kernel_rfl,by kernel_rfl⟩
theorem ty22:tagg Try.prog 22 = (some false) ∧
    tsz Try.prog 22 = (some 1) ∧
    tel Try.prog 22 = (some 47) ∧
    tint Try.prog 22 = none ∧
    tstr Try.prog 22 = false ∧
    tbool Try.prog 22 = false ∧
    tarr Try.prog 22 = none ∧
    tby Try.prog 22 = (some 24) ∧
    tzero Try.prog 22 = (some [(Value.slice none 0 0)]) ∧
    (Try.prog.underlying 22).isSome = true ∧
    tcmp Try.prog 22 = false ∧
    tflds Try.prog 22 = none :=
  ⟨by kernel_rfl,by kernel_rfl,by kernel_rfl,by kernel_rfl,by kernel_rfl,by kernel_rfl,by kernel_rfl,by kernel_rfl,by kernel_rfl,by kernel_rfl,by kernel_rfl,by kernel_rfl⟩
theorem ty23:tagg Try.prog 23 = (some false) ∧
    tsz Try.prog 23 = (some 1) ∧
    tel Try.prog 23 = (some 51) ∧
    tint Try.prog 23 = none ∧
    tstr Try.prog 23 = false ∧
    tbool Try.prog 23 = false ∧
    tarr Try.prog 23 = none ∧
    tby Try.prog 23 = (some 24) ∧
    tzero Try.prog 23 = (some [(Value.slice none 0 0)]) ∧
    (Try.prog.underlying 23).isSome = true ∧
    tcmp Try.prog 23 = false ∧
    tflds Try.prog 23 = none :=
  ⟨by kernel_rfl,by kernel_rfl,by kernel_rfl,by kernel_rfl,by kernel_rfl,by kernel_rfl,by kernel_rfl,by kernel_rfl,by kernel_rfl,by kernel_rfl,by kernel_rfl,by kernel_rfl⟩
theorem ty24:tagg Try.prog 24 = (some false) ∧
    tsz Try.prog 24 = (some 1) ∧
    tel Try.prog 24 = (some 55) ∧
    tint Try.prog 24 = none ∧
    tstr Try.prog 24 = false ∧
    tbool Try.prog 24 = false ∧
    tarr Try.prog 24 = none ∧
    tby Try.prog 24 = (some 24) ∧
    tzero Try.prog 24 = (some [(Value.slice none 0 0)]) ∧
    (Try.prog.underlying 24).isSome = true ∧
    tcmp Try.prog 24 = false ∧
    tflds Try.prog 24 = none :=
  ⟨by kernel_rfl,by kernel_rfl,by kernel_rfl,by kernel_rfl,by kernel_rfl,by kernel_rfl,by kernel_rfl,by kernel_rfl,by kernel_rfl,by kernel_rfl,by kernel_rfl,by kernel_rfl⟩
theorem ty25:tagg Try.prog 25 = (some false) ∧
    tsz Try.prog 25 = (some 1) ∧
    tel Try.prog 25 = (some 60) ∧
    tint Try.prog 25 = none ∧
    tstr Try.prog 25 = false ∧
    tbool Try.prog 25 = false ∧
    tarr Try.prog 25 = none ∧
    tby Try.prog 25 = (some 24) ∧
    tzero Try.prog 25 = (some [(Value.slice none 0 0)]) ∧
    (Try.prog.underlying 25).isSome = true ∧
    tcmp Try.prog 25 = false ∧
    tflds Try.prog 25 = none :=
  ⟨by kernel_rfl,by kernel_rfl,by kernel_rfl,by kernel_rfl,by kernel_rfl,by kernel_rfl,by kernel_rfl,by kernel_rfl,by kernel_rfl,by kernel_rfl,by kernel_rfl,by kernel_rfl⟩
theorem ty26:tagg Try.prog 26 = (some false) ∧
    tsz Try.prog 26 = (some 1) ∧
    tel Try.prog 26 = (some 3) ∧
    tint Try.prog 26 = none ∧
    tstr Try.prog 26 = false ∧
    tbool Try.prog 26 = false ∧
    tarr Try.prog 26 = none ∧
    tby Try.prog 26 = (some 24) ∧
    tzero Try.prog 26 = (some [(Value.slice none 0 0)]) ∧
    (Try.prog.underlying 26).isSome = true ∧
    tcmp Try.prog 26 = false ∧
    tflds Try.prog 26 = none :=
  ⟨by kernel_rfl,by kernel_rfl,by kernel_rfl,by kernel_rfl,by kernel_rfl,by kernel_rfl,by kernel_rfl,by kernel_rfl,by kernel_rfl,by kernel_rfl,by kernel_rfl,by kernel_rfl⟩
theorem ty28:tagg Try.prog 28 = (some true) ∧
    tsz Try.prog 28 = (some 7) ∧
    tel Try.prog 28 = none ∧
    tint Try.prog 28 = none ∧
    tstr Try.prog 28 = false ∧
    tbool Try.prog 28 = false ∧
    tarr Try.prog 28 = none ∧
    tby Try.prog 28 = (some 136) ∧
    tzero Try.prog 28 = (some [(Value.int .i64 0),(Value.int .i64 0),(Value.slice none 0 0),(Value.slice none 0 0),(Value.slice none 0 0),(Value.slice none 0 0),(Value.slice none 0 0)]) ∧
    (Try.prog.underlying 28).isSome = true ∧
    tcmp Try.prog 28 = true ∧
    tflds Try.prog 28 = (some [(0,1),(1,1),(2,1),(3,1),(4,1),(5,1),(6,1)]) ∧
    tfld Try.prog 28 0 = (some (0,1)) ∧
    tfagg Try.prog 28 0 = (some false) ∧
    tfld Try.prog 28 1 = (some (1,1)) ∧
    tfagg Try.prog 28 1 = (some false) ∧
    tfld Try.prog 28 2 = (some (2,1)) ∧
    tfagg Try.prog 28 2 = (some false) ∧
    tfld Try.prog 28 3 = (some (3,1)) ∧
    tfagg Try.prog 28 3 = (some false) ∧
    tfld Try.prog 28 4 = (some (4,1)) ∧
    tfagg Try.prog 28 4 = (some false) ∧
    tfld Try.prog 28 5 = (some (5,1)) ∧
    tfagg Try.prog 28 5 = (some false) ∧
    tfld Try.prog 28 6 = (some (6,1)) ∧
    tfagg Try.prog 28 6 = (some false) :=
  ⟨by kernel_rfl,by kernel_rfl,by kernel_rfl,by kernel_rfl,by kernel_rfl,by kernel_rfl,by kernel_rfl,by kernel_rfl,by kernel_rfl,by kernel_rfl,by kernel_rfl,by kernel_rfl,by kernel_rfl,by kernel_rfl,by kernel_rfl,by kernel_rfl,by kernel_rfl,by kernel_rfl,by kernel_rfl,by kernel_rfl,by kernel_rfl,by kernel_rfl,by kernel_rfl,by kernel_rfl,by kernel_rfl,by kernel_rfl⟩
theorem ty29:tagg Try.prog 29 = (some false) ∧
    tsz Try.prog 29 = (some 1) ∧
    tel Try.prog 29 = (some 5) ∧
    tint Try.prog 29 = none ∧
    tstr Try.prog 29 = false ∧
    tbool Try.prog 29 = false ∧
    tarr Try.prog 29 = none ∧
    tby Try.prog 29 = (some 24) ∧
    tzero Try.prog 29 = (some [(Value.slice none 0 0)]) ∧
    (Try.prog.underlying 29).isSome = true ∧
    tcmp Try.prog 29 = false ∧
    tflds Try.prog 29 = none :=
  ⟨by kernel_rfl,by kernel_rfl,by kernel_rfl,by kernel_rfl,by kernel_rfl,by kernel_rfl,by kernel_rfl,by kernel_rfl,by kernel_rfl,by kernel_rfl,by kernel_rfl,by kernel_rfl⟩
theorem ty30:tagg Try.prog 30 = (some false) ∧
    tsz Try.prog 30 = (some 1) ∧
    tel Try.prog 30 = none ∧
    tint Try.prog 30 = (some .i64) ∧
    tstr Try.prog 30 = false ∧
    tbool Try.prog 30 = false ∧
    tarr Try.prog 30 = none ∧
    tby Try.prog 30 = (some 8) ∧
    tzero Try.prog 30 = (some [(Value.int .i64 0)]) ∧
    (Try.prog.underlying 30).isSome = true ∧
    tcmp Try.prog 30 = false ∧
    tflds Try.prog 30 = none :=
  ⟨by kernel_rfl,by kernel_rfl,by kernel_rfl,by kernel_rfl,by kernel_rfl,by kernel_rfl,by kernel_rfl,by kernel_rfl,by kernel_rfl,by kernel_rfl,by kernel_rfl,by kernel_rfl⟩
theorem ty45:tagg Try.prog 45 = (some true) ∧
    tsz Try.prog 45 = (some 3) ∧
    tel Try.prog 45 = none ∧
    tint Try.prog 45 = none ∧
    tstr Try.prog 45 = false ∧
    tbool Try.prog 45 = false ∧
    tarr Try.prog 45 = none ∧
    tby Try.prog 45 = (some 32) ∧
    tzero Try.prog 45 = (some [(Value.string ⟨#[]⟩),(Value.int .i64 0),(Value.int .i64 0)]) ∧
    (Try.prog.underlying 45).isSome = true ∧
    tcmp Try.prog 45 = true ∧
    tflds Try.prog 45 = (some [(0,1),(1,1),(2,1)]) ∧
    tfld Try.prog 45 0 = (some (0,1)) ∧
    tfagg Try.prog 45 0 = (some false) ∧
    tfld Try.prog 45 1 = (some (1,1)) ∧
    tfagg Try.prog 45 1 = (some false) ∧
    tfld Try.prog 45 2 = (some (2,1)) ∧
    tfagg Try.prog 45 2 = (some false) :=
  ⟨by kernel_rfl,by kernel_rfl,by kernel_rfl,by kernel_rfl,by kernel_rfl,by kernel_rfl,by kernel_rfl,by kernel_rfl,by kernel_rfl,by kernel_rfl,by kernel_rfl,by kernel_rfl,by kernel_rfl,by kernel_rfl,by kernel_rfl,by kernel_rfl,by kernel_rfl,by kernel_rfl⟩
theorem ty47:tagg Try.prog 47 = (some true) ∧
    tsz Try.prog 47 = (some 5) ∧
    tel Try.prog 47 = none ∧
    tint Try.prog 47 = none ∧
    tstr Try.prog 47 = false ∧
    tbool Try.prog 47 = false ∧
    tarr Try.prog 47 = none ∧
    tby Try.prog 47 = (some 56) ∧
    tzero Try.prog 47 = (some [(Value.string ⟨#[]⟩),(Value.int .i64 0),(Value.string ⟨#[]⟩),(Value.int .i64 0),(Value.int .i64 0)]) ∧
    (Try.prog.underlying 47).isSome = true ∧
    tcmp Try.prog 47 = true ∧
    tflds Try.prog 47 = (some [(0,1),(1,1),(2,3)]) ∧
    tfld Try.prog 47 0 = (some (0,1)) ∧
    tfagg Try.prog 47 0 = (some false) ∧
    tfld Try.prog 47 1 = (some (1,1)) ∧
    tfagg Try.prog 47 1 = (some false) ∧
    tfld Try.prog 47 2 = (some (2,3)) ∧
    tfagg Try.prog 47 2 = (some true) :=
  ⟨by kernel_rfl,by kernel_rfl,by kernel_rfl,by kernel_rfl,by kernel_rfl,by kernel_rfl,by kernel_rfl,by kernel_rfl,by kernel_rfl,by kernel_rfl,by kernel_rfl,by kernel_rfl,by kernel_rfl,by kernel_rfl,by kernel_rfl,by kernel_rfl,by kernel_rfl,by kernel_rfl⟩
theorem ty51:tagg Try.prog 51 = (some true) ∧
    tsz Try.prog 51 = (some 12) ∧
    tel Try.prog 51 = none ∧
    tint Try.prog 51 = none ∧
    tstr Try.prog 51 = false ∧
    tbool Try.prog 51 = false ∧
    tarr Try.prog 51 = none ∧
    tby Try.prog 51 = (some 120) ∧
    tzero Try.prog 51 = (some [(Value.int .i64 0),(Value.string ⟨#[]⟩),(Value.string ⟨#[]⟩),(Value.bool false),(Value.bool false),(Value.int .i64 0),(Value.int .i64 0),(Value.int .i64 0),(Value.slice none 0 0),(Value.int .i64 0),(Value.int .i64 0),(Value.int .i64 0)]) ∧
    (Try.prog.underlying 51).isSome = true ∧
    tcmp Try.prog 51 = true ∧
    tflds Try.prog 51 = (some [(0,1),(1,1),(2,1),(3,1),(4,1),(5,1),(6,1),(7,1),(8,1),(9,1),(10,1),(11,1)]) ∧
    tfld Try.prog 51 0 = (some (0,1)) ∧
    tfagg Try.prog 51 0 = (some false) ∧
    tfld Try.prog 51 1 = (some (1,1)) ∧
    tfagg Try.prog 51 1 = (some false) ∧
    tfld Try.prog 51 2 = (some (2,1)) ∧
    tfagg Try.prog 51 2 = (some false) ∧
    tfld Try.prog 51 3 = (some (3,1)) ∧
    tfagg Try.prog 51 3 = (some false) ∧
    tfld Try.prog 51 4 = (some (4,1)) ∧
    tfagg Try.prog 51 4 = (some false) ∧
    tfld Try.prog 51 5 = (some (5,1)) ∧
    tfagg Try.prog 51 5 = (some false) ∧
    tfld Try.prog 51 6 = (some (6,1)) ∧
    tfagg Try.prog 51 6 = (some false) ∧
    tfld Try.prog 51 7 = (some (7,1)) ∧
    tfagg Try.prog 51 7 = (some false) ∧
    tfld Try.prog 51 8 = (some (8,1)) ∧
    tfagg Try.prog 51 8 = (some false) ∧
    tfld Try.prog 51 9 = (some (9,1)) ∧
    tfagg Try.prog 51 9 = (some false) ∧
    tfld Try.prog 51 10 = (some (10,1)) ∧
    tfagg Try.prog 51 10 = (some false) ∧
    tfld Try.prog 51 11 = (some (11,1)) ∧
    tfagg Try.prog 51 11 = (some false) :=
  ⟨by kernel_rfl,by kernel_rfl,by kernel_rfl,by kernel_rfl,by kernel_rfl,by kernel_rfl,by kernel_rfl,by kernel_rfl,by kernel_rfl,by kernel_rfl,by kernel_rfl,by kernel_rfl,by kernel_rfl,by kernel_rfl,by kernel_rfl,by kernel_rfl,by kernel_rfl,by kernel_rfl,by kernel_rfl,by kernel_rfl,by kernel_rfl,by kernel_rfl,by kernel_rfl,by kernel_rfl,by kernel_rfl,by kernel_rfl,by kernel_rfl,by kernel_rfl,by kernel_rfl,by kernel_rfl,by kernel_rfl,by kernel_rfl,by kernel_rfl,by kernel_rfl,by kernel_rfl,by kernel_rfl⟩
theorem ty53:tagg Try.prog 53 = (some false) ∧
    tsz Try.prog 53 = (some 1) ∧
    tel Try.prog 53 = (some 57) ∧
    tint Try.prog 53 = none ∧
    tstr Try.prog 53 = false ∧
    tbool Try.prog 53 = false ∧
    tarr Try.prog 53 = none ∧
    tby Try.prog 53 = (some 24) ∧
    tzero Try.prog 53 = (some [(Value.slice none 0 0)]) ∧
    (Try.prog.underlying 53).isSome = true ∧
    tcmp Try.prog 53 = false ∧
    tflds Try.prog 53 = none :=
  ⟨by kernel_rfl,by kernel_rfl,by kernel_rfl,by kernel_rfl,by kernel_rfl,by kernel_rfl,by kernel_rfl,by kernel_rfl,by kernel_rfl,by kernel_rfl,by kernel_rfl,by kernel_rfl⟩
theorem ty55:tagg Try.prog 55 = (some true) ∧
    tsz Try.prog 55 = (some 4) ∧
    tel Try.prog 55 = none ∧
    tint Try.prog 55 = none ∧
    tstr Try.prog 55 = false ∧
    tbool Try.prog 55 = false ∧
    tarr Try.prog 55 = none ∧
    tby Try.prog 55 = (some 64) ∧
    tzero Try.prog 55 = (some [(Value.int .i64 0),(Value.string ⟨#[]⟩),(Value.string ⟨#[]⟩),(Value.slice none 0 0)]) ∧
    (Try.prog.underlying 55).isSome = true ∧
    tcmp Try.prog 55 = true ∧
    tflds Try.prog 55 = (some [(0,1),(1,1),(2,1),(3,1)]) ∧
    tfld Try.prog 55 0 = (some (0,1)) ∧
    tfagg Try.prog 55 0 = (some false) ∧
    tfld Try.prog 55 1 = (some (1,1)) ∧
    tfagg Try.prog 55 1 = (some false) ∧
    tfld Try.prog 55 2 = (some (2,1)) ∧
    tfagg Try.prog 55 2 = (some false) ∧
    tfld Try.prog 55 3 = (some (3,1)) ∧
    tfagg Try.prog 55 3 = (some false) :=
  ⟨by kernel_rfl,by kernel_rfl,by kernel_rfl,by kernel_rfl,by kernel_rfl,by kernel_rfl,by kernel_rfl,by kernel_rfl,by kernel_rfl,by kernel_rfl,by kernel_rfl,by kernel_rfl,by kernel_rfl,by kernel_rfl,by kernel_rfl,by kernel_rfl,by kernel_rfl,by kernel_rfl,by kernel_rfl,by kernel_rfl⟩
theorem ty57:tagg Try.prog 57 = (some true) ∧
    tsz Try.prog 57 = (some 3) ∧
    tel Try.prog 57 = none ∧
    tint Try.prog 57 = none ∧
    tstr Try.prog 57 = false ∧
    tbool Try.prog 57 = false ∧
    tarr Try.prog 57 = none ∧
    tby Try.prog 57 = (some 40) ∧
    tzero Try.prog 57 = (some [(Value.int .i64 0),(Value.int .i64 0),(Value.slice none 0 0)]) ∧
    (Try.prog.underlying 57).isSome = true ∧
    tcmp Try.prog 57 = true ∧
    tflds Try.prog 57 = (some [(0,1),(1,1),(2,1)]) ∧
    tfld Try.prog 57 0 = (some (0,1)) ∧
    tfagg Try.prog 57 0 = (some false) ∧
    tfld Try.prog 57 1 = (some (1,1)) ∧
    tfagg Try.prog 57 1 = (some false) ∧
    tfld Try.prog 57 2 = (some (2,1)) ∧
    tfagg Try.prog 57 2 = (some false) :=
  ⟨by kernel_rfl,by kernel_rfl,by kernel_rfl,by kernel_rfl,by kernel_rfl,by kernel_rfl,by kernel_rfl,by kernel_rfl,by kernel_rfl,by kernel_rfl,by kernel_rfl,by kernel_rfl,by kernel_rfl,by kernel_rfl,by kernel_rfl,by kernel_rfl,by kernel_rfl,by kernel_rfl⟩
theorem ty60:tagg Try.prog 60 = (some true) ∧
    tsz Try.prog 60 = (some 3) ∧
    tel Try.prog 60 = none ∧
    tint Try.prog 60 = none ∧
    tstr Try.prog 60 = false ∧
    tbool Try.prog 60 = false ∧
    tarr Try.prog 60 = none ∧
    tby Try.prog 60 = (some 24) ∧
    tzero Try.prog 60 = (some [(Value.int .i64 0),(Value.int .i64 0),(Value.int .i64 0)]) ∧
    (Try.prog.underlying 60).isSome = true ∧
    tcmp Try.prog 60 = true ∧
    tflds Try.prog 60 = (some [(0,1),(1,1),(2,1)]) ∧
    tfld Try.prog 60 0 = (some (0,1)) ∧
    tfagg Try.prog 60 0 = (some false) ∧
    tfld Try.prog 60 1 = (some (1,1)) ∧
    tfagg Try.prog 60 1 = (some false) ∧
    tfld Try.prog 60 2 = (some (2,1)) ∧
    tfagg Try.prog 60 2 = (some false) :=
  ⟨by kernel_rfl,by kernel_rfl,by kernel_rfl,by kernel_rfl,by kernel_rfl,by kernel_rfl,by kernel_rfl,by kernel_rfl,by kernel_rfl,by kernel_rfl,by kernel_rfl,by kernel_rfl,by kernel_rfl,by kernel_rfl,by kernel_rfl,by kernel_rfl,by kernel_rfl,by kernel_rfl⟩
theorem ty71:tagg Try.prog 71 = (some false) ∧
    tsz Try.prog 71 = (some 1) ∧
    tel Try.prog 71 = none ∧
    tint Try.prog 71 = none ∧
    tstr Try.prog 71 = false ∧
    tbool Try.prog 71 = false ∧
    tarr Try.prog 71 = none ∧
    tby Try.prog 71 = (some 8) ∧
    tzero Try.prog 71 = (some [(Value.pointer none)]) ∧
    (Try.prog.underlying 71).isSome = true ∧
    tcmp Try.prog 71 = false ∧
    tflds Try.prog 71 = none :=
  ⟨by kernel_rfl,by kernel_rfl,by kernel_rfl,by kernel_rfl,by kernel_rfl,by kernel_rfl,by kernel_rfl,by kernel_rfl,by kernel_rfl,by kernel_rfl,by kernel_rfl,by kernel_rfl⟩
theorem ty73:tagg Try.prog 73 = (some true) ∧
    tsz Try.prog 73 = (some 2) ∧
    tel Try.prog 73 = none ∧
    tint Try.prog 73 = none ∧
    tstr Try.prog 73 = false ∧
    tbool Try.prog 73 = false ∧
    tarr Try.prog 73 = none ∧
    tby Try.prog 73 = (some 32) ∧
    tzero Try.prog 73 = (some [(Value.slice none 0 0),(Value.int .i64 0)]) ∧
    (Try.prog.underlying 73).isSome = true ∧
    tcmp Try.prog 73 = true ∧
    tflds Try.prog 73 = (some [(0,1),(1,1)]) ∧
    tfld Try.prog 73 0 = (some (0,1)) ∧
    tfagg Try.prog 73 0 = (some false) ∧
    tfld Try.prog 73 1 = (some (1,1)) ∧
    tfagg Try.prog 73 1 = (some false) :=
  ⟨by kernel_rfl,by kernel_rfl,by kernel_rfl,by kernel_rfl,by kernel_rfl,by kernel_rfl,by kernel_rfl,by kernel_rfl,by kernel_rfl,by kernel_rfl,by kernel_rfl,by kernel_rfl,by kernel_rfl,by kernel_rfl,by kernel_rfl,by kernel_rfl⟩
theorem ty85:tagg Try.prog 85 = (some true) ∧
    tsz Try.prog 85 = (some 3) ∧
    tel Try.prog 85 = none ∧
    tint Try.prog 85 = none ∧
    tstr Try.prog 85 = false ∧
    tbool Try.prog 85 = false ∧
    tarr Try.prog 85 = none ∧
    tby Try.prog 85 = (some 40) ∧
    tzero Try.prog 85 = (some [(Value.slice none 0 0),(Value.int .i64 0),(Value.int .i64 0)]) ∧
    (Try.prog.underlying 85).isSome = true ∧
    tcmp Try.prog 85 = true ∧
    tflds Try.prog 85 = (some [(0,1),(1,1),(2,1)]) ∧
    tfld Try.prog 85 0 = (some (0,1)) ∧
    tfagg Try.prog 85 0 = (some false) ∧
    tfld Try.prog 85 1 = (some (1,1)) ∧
    tfagg Try.prog 85 1 = (some false) ∧
    tfld Try.prog 85 2 = (some (2,1)) ∧
    tfagg Try.prog 85 2 = (some false) :=
  ⟨by kernel_rfl,by kernel_rfl,by kernel_rfl,by kernel_rfl,by kernel_rfl,by kernel_rfl,by kernel_rfl,by kernel_rfl,by kernel_rfl,by kernel_rfl,by kernel_rfl,by kernel_rfl,by kernel_rfl,by kernel_rfl,by kernel_rfl,by kernel_rfl,by kernel_rfl,by kernel_rfl⟩
theorem ty90:tagg Try.prog 90 = (some false) ∧
    tsz Try.prog 90 = (some 1) ∧
    tel Try.prog 90 = none ∧
    tint Try.prog 90 = none ∧
    tstr Try.prog 90 = false ∧
    tbool Try.prog 90 = false ∧
    tarr Try.prog 90 = none ∧
    tby Try.prog 90 = (some 8) ∧
    tzero Try.prog 90 = (some [(Value.map none)]) ∧
    (Try.prog.underlying 90).isSome = true ∧
    tcmp Try.prog 90 = false ∧
    tflds Try.prog 90 = none ∧
    tmapk Try.prog 90 = (some false) :=
  ⟨by kernel_rfl,by kernel_rfl,by kernel_rfl,by kernel_rfl,by kernel_rfl,by kernel_rfl,by kernel_rfl,by kernel_rfl,by kernel_rfl,by kernel_rfl,by kernel_rfl,by kernel_rfl,by kernel_rfl⟩
theorem ty104:tagg Try.prog 104 = (some false) ∧
    tsz Try.prog 104 = (some 1) ∧
    tel Try.prog 104 = none ∧
    tint Try.prog 104 = (some .u64) ∧
    tstr Try.prog 104 = false ∧
    tbool Try.prog 104 = false ∧
    tarr Try.prog 104 = none ∧
    tby Try.prog 104 = (some 8) ∧
    tzero Try.prog 104 = (some [(Value.int .u64 0)]) ∧
    (Try.prog.underlying 104).isSome = true ∧
    tcmp Try.prog 104 = false ∧
    tflds Try.prog 104 = none :=
  ⟨by kernel_rfl,by kernel_rfl,by kernel_rfl,by kernel_rfl,by kernel_rfl,by kernel_rfl,by kernel_rfl,by kernel_rfl,by kernel_rfl,by kernel_rfl,by kernel_rfl,by kernel_rfl⟩
theorem ty107:tagg Try.prog 107 = (some false) ∧
    tsz Try.prog 107 = (some 1) ∧
    tel Try.prog 107 = none ∧
    tint Try.prog 107 = none ∧
    tstr Try.prog 107 = false ∧
    tbool Try.prog 107 = false ∧
    tarr Try.prog 107 = none ∧
    tby Try.prog 107 = (some 8) ∧
    tzero Try.prog 107 = (some [(Value.map none)]) ∧
    (Try.prog.underlying 107).isSome = true ∧
    tcmp Try.prog 107 = false ∧
    tflds Try.prog 107 = none ∧
    tmapk Try.prog 107 = (some true) :=
  ⟨by kernel_rfl,by kernel_rfl,by kernel_rfl,by kernel_rfl,by kernel_rfl,by kernel_rfl,by kernel_rfl,by kernel_rfl,by kernel_rfl,by kernel_rfl,by kernel_rfl,by kernel_rfl,by kernel_rfl⟩
theorem ty109:tagg Try.prog 109 = (some true) ∧
    tsz Try.prog 109 = (some 2) ∧
    tel Try.prog 109 = none ∧
    tint Try.prog 109 = none ∧
    tstr Try.prog 109 = false ∧
    tbool Try.prog 109 = false ∧
    tarr Try.prog 109 = (some (2,9)) ∧
    tby Try.prog 109 = (some 32) ∧
    tzero Try.prog 109 = (some [(Value.string ⟨#[]⟩),(Value.string ⟨#[]⟩)]) ∧
    (Try.prog.underlying 109).isSome = true ∧
    tcmp Try.prog 109 = true ∧
    tflds Try.prog 109 = none :=
  ⟨by kernel_rfl,by kernel_rfl,by kernel_rfl,by kernel_rfl,by kernel_rfl,by kernel_rfl,by kernel_rfl,by kernel_rfl,by kernel_rfl,by kernel_rfl,by kernel_rfl,by kernel_rfl⟩
theorem mt90:MapT Try.prog 90 false:=mapT_int (kt:=3) (et:=4) (by kernel_rfl) (by kernel_rfl) (by kernel_rfl)
theorem mt107:MapT Try.prog 107 true:=mapT_s2 (kt:=109) (et:=4) (st:=9) (by kernel_rfl) (by kernel_rfl) (by kernel_rfl) (by kernel_rfl) (by kernel_rfl) (by kernel_rfl) (by kernel_rfl)
end Go.Proofs.Ytijpmidnclbhpaa
