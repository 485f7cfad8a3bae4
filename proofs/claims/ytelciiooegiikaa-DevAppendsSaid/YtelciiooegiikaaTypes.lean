/- Facts on the types of the program. -/
import Derived.Test.YtelciiooegiikaaEngC
import Derived.Test.YtelciiooegiikaaProg
namespace Go.Proofs.Ytelciiooegiikaa
open Go.RowKit
set_option linter.unusedSimpArgs false
set_option linter.unusedVariables false
set_option maxRecDepth 100000
theorem ty3 : tagg Try.prog 3 = (some false) ∧
    tsz Try.prog 3 = (some 1) ∧
    tel Try.prog 3 = none ∧
    tint Try.prog 3 = (some .i64) ∧
    tstr Try.prog 3 = false ∧
    tbool Try.prog 3 = false ∧
    tarr Try.prog 3 = none ∧
    tby Try.prog 3 = (some 8) ∧
    tzero Try.prog 3 = (some [(Value.int .i64 0)]) ∧
    (Try.prog.underlying 3).isSome = true ∧
    tcmp Try.prog 3 = false ∧
    tflds Try.prog 3 = none :=
  ⟨by kernel_rfl, by kernel_rfl, by kernel_rfl, by kernel_rfl, by kernel_rfl, by kernel_rfl, by kernel_rfl, by kernel_rfl, by kernel_rfl, by kernel_rfl, by kernel_rfl, by kernel_rfl⟩
theorem ty4 : tagg Try.prog 4 = (some false) ∧
    tsz Try.prog 4 = (some 1) ∧
    tel Try.prog 4 = none ∧
    tint Try.prog 4 = none ∧
    tstr Try.prog 4 = false ∧
    tbool Try.prog 4 = true ∧
    tarr Try.prog 4 = none ∧
    tby Try.prog 4 = (some 1) ∧
    tzero Try.prog 4 = (some [(Value.bool false)]) ∧
    (Try.prog.underlying 4).isSome = true ∧
    tcmp Try.prog 4 = false ∧
    tflds Try.prog 4 = none :=
  ⟨by kernel_rfl, by kernel_rfl, by kernel_rfl, by kernel_rfl, by kernel_rfl, by kernel_rfl, by kernel_rfl, by kernel_rfl, by kernel_rfl, by kernel_rfl, by kernel_rfl, by kernel_rfl⟩
theorem ty5 : tagg Try.prog 5 = (some false) ∧
    tsz Try.prog 5 = (some 1) ∧
    tel Try.prog 5 = none ∧
    tint Try.prog 5 = (some .u8) ∧
    tstr Try.prog 5 = false ∧
    tbool Try.prog 5 = false ∧
    tarr Try.prog 5 = none ∧
    tby Try.prog 5 = (some 1) ∧
    tzero Try.prog 5 = (some [(Value.int .u8 0)]) ∧
    (Try.prog.underlying 5).isSome = true ∧
    tcmp Try.prog 5 = false ∧
    tflds Try.prog 5 = none :=
  ⟨by kernel_rfl, by kernel_rfl, by kernel_rfl, by kernel_rfl, by kernel_rfl, by kernel_rfl, by kernel_rfl, by kernel_rfl, by kernel_rfl, by kernel_rfl, by kernel_rfl, by kernel_rfl⟩
theorem ty9 : tagg Try.prog 9 = (some false) ∧
    tsz Try.prog 9 = (some 1) ∧
    tel Try.prog 9 = none ∧
    tint Try.prog 9 = none ∧
    tstr Try.prog 9 = true ∧
    tbool Try.prog 9 = false ∧
    tarr Try.prog 9 = none ∧
    tby Try.prog 9 = (some 16) ∧
    tzero Try.prog 9 = (some [(Value.string ⟨#[]⟩)]) ∧
    (Try.prog.underlying 9).isSome = true ∧
    tcmp Try.prog 9 = false ∧
    tflds Try.prog 9 = none :=
  ⟨by kernel_rfl, by kernel_rfl, by kernel_rfl, by kernel_rfl, by kernel_rfl, by kernel_rfl, by kernel_rfl, by kernel_rfl, by kernel_rfl, by kernel_rfl, by kernel_rfl, by kernel_rfl⟩
theorem ty23 : tagg Try.prog 23 = (some true) ∧
    tsz Try.prog 23 = (some 5) ∧
    tel Try.prog 23 = none ∧
    tint Try.prog 23 = none ∧
    tstr Try.prog 23 = false ∧
    tbool Try.prog 23 = false ∧
    tarr Try.prog 23 = none ∧
    tby Try.prog 23 = (some 40) ∧
    tzero Try.prog 23 = (some [(Value.int .i64 0), (Value.int .i64 0), (Value.int .i64 0), (Value.int .i64 0), (Value.int .i64 0)]) ∧
    (Try.prog.underlying 23).isSome = true ∧
    tcmp Try.prog 23 = true ∧
    tflds Try.prog 23 = (some [(0, 1), (1, 1), (2, 1), (3, 1), (4, 1)]) ∧
    tfld Try.prog 23 0 = (some (0, 1)) ∧
    tfagg Try.prog 23 0 = (some false) ∧
    tfld Try.prog 23 1 = (some (1, 1)) ∧
    tfagg Try.prog 23 1 = (some false) ∧
    tfld Try.prog 23 2 = (some (2, 1)) ∧
    tfagg Try.prog 23 2 = (some false) ∧
    tfld Try.prog 23 3 = (some (3, 1)) ∧
    tfagg Try.prog 23 3 = (some false) ∧
    tfld Try.prog 23 4 = (some (4, 1)) ∧
    tfagg Try.prog 23 4 = (some false) :=
  ⟨by kernel_rfl, by kernel_rfl, by kernel_rfl, by kernel_rfl, by kernel_rfl, by kernel_rfl, by kernel_rfl, by kernel_rfl, by kernel_rfl, by kernel_rfl, by kernel_rfl, by kernel_rfl, by kernel_rfl, by kernel_rfl, by kernel_rfl, by kernel_rfl, by kernel_rfl, by kernel_rfl, by kernel_rfl, by kernel_rfl, by kernel_rfl, by kernel_rfl⟩
theorem ty24 : tagg Try.prog 24 = (some false) ∧
    tsz Try.prog 24 = (some 1) ∧
    tel Try.prog 24 = (some 29) ∧
    tint Try.prog 24 = none ∧
    tstr Try.prog 24 = false ∧
    tbool Try.prog 24 = false ∧
    tarr Try.prog 24 = none ∧
    tby Try.prog 24 = (some 24) ∧
    tzero Try.prog 24 = (some [(Value.slice none 0 0)]) ∧
    (Try.prog.underlying 24).isSome = true ∧
    tcmp Try.prog 24 = false ∧
    tflds Try.prog 24 = none :=
  ⟨by kernel_rfl, by kernel_rfl, by kernel_rfl, by kernel_rfl, by kernel_rfl, by kernel_rfl, by kernel_rfl, by kernel_rfl, by kernel_rfl, by kernel_rfl, by kernel_rfl, by kernel_rfl⟩
theorem ty25 : tagg Try.prog 25 = (some false) ∧
    tsz Try.prog 25 = (some 1) ∧
    tel Try.prog 25 = (some 39) ∧
    tint Try.prog 25 = none ∧
    tstr Try.prog 25 = false ∧
    tbool Try.prog 25 = false ∧
    tarr Try.prog 25 = none ∧
    tby Try.prog 25 = (some 24) ∧
    tzero Try.prog 25 = (some [(Value.slice none 0 0)]) ∧
    (Try.prog.underlying 25).isSome = true ∧
    tcmp Try.prog 25 = false ∧
    tflds Try.prog 25 = none :=
  ⟨by kernel_rfl, by kernel_rfl, by kernel_rfl, by kernel_rfl, by kernel_rfl, by kernel_rfl, by kernel_rfl, by kernel_rfl, by kernel_rfl, by kernel_rfl, by kernel_rfl, by kernel_rfl⟩
theorem ty26 : tagg Try.prog 26 = (some false) ∧
    tsz Try.prog 26 = (some 1) ∧
    tel Try.prog 26 = (some 41) ∧
    tint Try.prog 26 = none ∧
    tstr Try.prog 26 = false ∧
    tbool Try.prog 26 = false ∧
    tarr Try.prog 26 = none ∧
    tby Try.prog 26 = (some 24) ∧
    tzero Try.prog 26 = (some [(Value.slice none 0 0)]) ∧
    (Try.prog.underlying 26).isSome = true ∧
    tcmp Try.prog 26 = false ∧
    tflds Try.prog 26 = none :=
  ⟨by kernel_rfl, by kernel_rfl, by kernel_rfl, by kernel_rfl, by kernel_rfl, by kernel_rfl, by kernel_rfl, by kernel_rfl, by kernel_rfl, by kernel_rfl, by kernel_rfl, by kernel_rfl⟩
theorem ty28 : tagg Try.prog 28 = (some true) ∧
    tsz Try.prog 28 = (some 4) ∧
    tel Try.prog 28 = none ∧
    tint Try.prog 28 = none ∧
    tstr Try.prog 28 = false ∧
    tbool Try.prog 28 = false ∧
    tarr Try.prog 28 = none ∧
    tby Try.prog 28 = (some 80) ∧
    tzero Try.prog 28 = (some [(Value.slice none 0 0), (Value.slice none 0 0), (Value.slice none 0 0), (Value.int .i64 0)]) ∧
    (Try.prog.underlying 28).isSome = true ∧
    tcmp Try.prog 28 = true ∧
    tflds Try.prog 28 = (some [(0, 1), (1, 1), (2, 1), (3, 1)]) ∧
    tfld Try.prog 28 0 = (some (0, 1)) ∧
    tfagg Try.prog 28 0 = (some false) ∧
    tfld Try.prog 28 1 = (some (1, 1)) ∧
    tfagg Try.prog 28 1 = (some false) ∧
    tfld Try.prog 28 2 = (some (2, 1)) ∧
    tfagg Try.prog 28 2 = (some false) ∧
    tfld Try.prog 28 3 = (some (3, 1)) ∧
    tfagg Try.prog 28 3 = (some false) :=
  ⟨by kernel_rfl, by kernel_rfl, by kernel_rfl, by kernel_rfl, by kernel_rfl, by kernel_rfl, by kernel_rfl, by kernel_rfl, by kernel_rfl, by kernel_rfl, by kernel_rfl, by kernel_rfl, by kernel_rfl, by kernel_rfl, by kernel_rfl, by kernel_rfl, by kernel_rfl, by kernel_rfl, by kernel_rfl, by kernel_rfl⟩
theorem ty29 : tagg Try.prog 29 = (some false) ∧
    tsz Try.prog 29 = (some 1) ∧
    tel Try.prog 29 = (some 5) ∧
    tint Try.prog 29 = none ∧
    tstr Try.prog 29 = false ∧
    tbool Try.prog 29 = false ∧
    tarr Try.prog 29 = none ∧
    tby Try.prog 29 = (some 24) ∧
    tzero Try.prog 29 = (some [(Value.slice none 0 0)]) ∧
    (Try.prog.underlying 29).isSome = true ∧
    tcmp Try.prog 29 = false ∧
    tflds Try.prog 29 = none :=
  ⟨by kernel_rfl, by kernel_rfl, by kernel_rfl, by kernel_rfl, by kernel_rfl, by kernel_rfl, by kernel_rfl, by kernel_rfl, by kernel_rfl, by kernel_rfl, by kernel_rfl, by kernel_rfl⟩
theorem ty31 : tagg Try.prog 31 = (some false) ∧
    tsz Try.prog 31 = (some 1) ∧
    tel Try.prog 31 = none ∧
    tint Try.prog 31 = (some .i64) ∧
    tstr Try.prog 31 = false ∧
    tbool Try.prog 31 = false ∧
    tarr Try.prog 31 = none ∧
    tby Try.prog 31 = (some 8) ∧
    tzero Try.prog 31 = (some [(Value.int .i64 0)]) ∧
    (Try.prog.underlying 31).isSome = true ∧
    tcmp Try.prog 31 = false ∧
    tflds Try.prog 31 = none :=
  ⟨by kernel_rfl, by kernel_rfl, by kernel_rfl, by kernel_rfl, by kernel_rfl, by kernel_rfl, by kernel_rfl, by kernel_rfl, by kernel_rfl, by kernel_rfl, by kernel_rfl, by kernel_rfl⟩
theorem ty39 : tagg Try.prog 39 = (some true) ∧
    tsz Try.prog 39 = (some 2) ∧
    tel Try.prog 39 = none ∧
    tint Try.prog 39 = none ∧
    tstr Try.prog 39 = false ∧
    tbool Try.prog 39 = false ∧
    tarr Try.prog 39 = none ∧
    tby Try.prog 39 = (some 32) ∧
    tzero Try.prog 39 = (some [(Value.int .i64 0), (Value.slice none 0 0)]) ∧
    (Try.prog.underlying 39).isSome = true ∧
    tcmp Try.prog 39 = true ∧
    tflds Try.prog 39 = (some [(0, 1), (1, 1)]) ∧
    tfld Try.prog 39 0 = (some (0, 1)) ∧
    tfagg Try.prog 39 0 = (some false) ∧
    tfld Try.prog 39 1 = (some (1, 1)) ∧
    tfagg Try.prog 39 1 = (some false) :=
  ⟨by kernel_rfl, by kernel_rfl, by kernel_rfl, by kernel_rfl, by kernel_rfl, by kernel_rfl, by kernel_rfl, by kernel_rfl, by kernel_rfl, by kernel_rfl, by kernel_rfl, by kernel_rfl, by kernel_rfl, by kernel_rfl, by kernel_rfl, by kernel_rfl⟩
theorem ty41 : tagg Try.prog 41 = (some true) ∧
    tsz Try.prog 41 = (some 3) ∧
    tel Try.prog 41 = none ∧
    tint Try.prog 41 = none ∧
    tstr Try.prog 41 = false ∧
    tbool Try.prog 41 = false ∧
    tarr Try.prog 41 = none ∧
    tby Try.prog 41 = (some 40) ∧
    tzero Try.prog 41 = (some [(Value.slice none 0 0), (Value.int .i64 0), (Value.bool false)]) ∧
    (Try.prog.underlying 41).isSome = true ∧
    tcmp Try.prog 41 = true ∧
    tflds Try.prog 41 = (some [(0, 1), (1, 1), (2, 1)]) ∧
    tfld Try.prog 41 0 = (some (0, 1)) ∧
    tfagg Try.prog 41 0 = (some false) ∧
    tfld Try.prog 41 1 = (some (1, 1)) ∧
    tfagg Try.prog 41 1 = (some false) ∧
    tfld Try.prog 41 2 = (some (2, 1)) ∧
    tfagg Try.prog 41 2 = (some false) :=
  ⟨by kernel_rfl, by kernel_rfl, by kernel_rfl, by kernel_rfl, by kernel_rfl, by kernel_rfl, by kernel_rfl, by kernel_rfl, by kernel_rfl, by kernel_rfl, by kernel_rfl, by kernel_rfl, by kernel_rfl, by kernel_rfl, by kernel_rfl, by kernel_rfl, by kernel_rfl, by kernel_rfl⟩
theorem ty56 : tagg Try.prog 56 = (some true) ∧
    tsz Try.prog 56 = (some 3) ∧
    tel Try.prog 56 = none ∧
    tint Try.prog 56 = none ∧
    tstr Try.prog 56 = false ∧
    tbool Try.prog 56 = false ∧
    tarr Try.prog 56 = (some (3, 3)) ∧
    tby Try.prog 56 = (some 24) ∧
    tzero Try.prog 56 = (some [(Value.int .i64 0), (Value.int .i64 0), (Value.int .i64 0)]) ∧
    (Try.prog.underlying 56).isSome = true ∧
    tcmp Try.prog 56 = true ∧
    tflds Try.prog 56 = none :=
  ⟨by kernel_rfl, by kernel_rfl, by kernel_rfl, by kernel_rfl, by kernel_rfl, by kernel_rfl, by kernel_rfl, by kernel_rfl, by kernel_rfl, by kernel_rfl, by kernel_rfl, by kernel_rfl⟩
theorem ty57 : tagg Try.prog 57 = (some false) ∧
    tsz Try.prog 57 = (some 1) ∧
    tel Try.prog 57 = (some 56) ∧
    tint Try.prog 57 = none ∧
    tstr Try.prog 57 = false ∧
    tbool Try.prog 57 = false ∧
    tarr Try.prog 57 = none ∧
    tby Try.prog 57 = (some 24) ∧
    tzero Try.prog 57 = (some [(Value.slice none 0 0)]) ∧
    (Try.prog.underlying 57).isSome = true ∧
    tcmp Try.prog 57 = false ∧
    tflds Try.prog 57 = none :=
  ⟨by kernel_rfl, by kernel_rfl, by kernel_rfl, by kernel_rfl, by kernel_rfl, by kernel_rfl, by kernel_rfl, by kernel_rfl, by kernel_rfl, by kernel_rfl, by kernel_rfl, by kernel_rfl⟩
end Go.Proofs.Ytelciiooegiikaa
