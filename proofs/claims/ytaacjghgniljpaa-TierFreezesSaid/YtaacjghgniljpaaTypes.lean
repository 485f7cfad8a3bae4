/- Facts on the types of the program. -/
import Derived.Test.YtaacjghgniljpaaEngC
import Derived.Test.YtaacjghgniljpaaEngM
import Derived.Test.YtaacjghgniljpaaProg
namespace Go.Proofs.Ytaacjghgniljpaa
open Go.RowKit
set_option linter.unusedSimpArgs false
set_option linter.unusedVariables false
set_option maxRecDepth 100000
theorem ty3 : tagg Try.prog 3 = (some false) ∧
    tsz Try.prog 3 = (some 1) ∧
    tel Try.prog 3 = none ∧
    tint Try.prog 3 = (some .i64) ∧
    tstr Try.prog 3 = false ∧
    tbool Try.prog 3 = false ∧
    tarr Try.prog 3 = none ∧
    tby Try.prog 3 = (some 8) ∧
    tzero Try.prog 3 = (some [(Value.int .i64 0)]) ∧
    (Try.prog.underlying 3).isSome = true ∧
    tcmp Try.prog 3 = false ∧
    tflds Try.prog 3 = none :=
  ⟨by kernel_rfl, by kernel_rfl, by kernel_rfl, by kernel_rfl, by kernel_rfl, by kernel_rfl, by kernel_rfl, by kernel_rfl, by kernel_rfl, by kernel_rfl, by kernel_rfl, by kernel_rfl⟩
theorem ty4 : tagg Try.prog 4 = (some false) ∧
    tsz Try.prog 4 = (some 1) ∧
    tel Try.prog 4 = none ∧
    tint Try.prog 4 = none ∧
    tstr Try.prog 4 = false ∧
    tbool Try.prog 4 = true ∧
    tarr Try.prog 4 = none ∧
    tby Try.prog 4 = (some 1) ∧
    tzero Try.prog 4 = (some [(Value.bool false)]) ∧
    (Try.prog.underlying 4).isSome = true ∧
    tcmp Try.prog 4 = false ∧
    tflds Try.prog 4 = none :=
  ⟨by kernel_rfl, by kernel_rfl, by kernel_rfl, by kernel_rfl, by kernel_rfl, by kernel_rfl, by kernel_rfl, by kernel_rfl, by kernel_rfl, by kernel_rfl, by kernel_rfl, by kernel_rfl⟩
theorem ty5 : tagg Try.prog 5 = (some false) ∧
    tsz Try.prog 5 = (some 1) ∧
    tel Try.prog 5 = none ∧
    tint Try.prog 5 = (some .u8) ∧
    tstr Try.prog 5 = false ∧
    tbool Try.prog 5 = false ∧
    tarr Try.prog 5 = none ∧
    tby Try.prog 5 = (some 1) ∧
    tzero Try.prog 5 = (some [(Value.int .u8 0)]) ∧
    (Try.prog.underlying 5).isSome = true ∧
    tcmp Try.prog 5 = false ∧
    tflds Try.prog 5 = none :=
  ⟨by kernel_rfl, by kernel_rfl, by kernel_rfl, by kernel_rfl, by kernel_rfl, by kernel_rfl, by kernel_rfl, by kernel_rfl, by kernel_rfl, by kernel_rfl, by kernel_rfl, by kernel_rfl⟩
theorem ty9 : tagg Try.prog 9 = (some false) ∧
    tsz Try.prog 9 = (some 1) ∧
    tel Try.prog 9 = none ∧
    tint Try.prog 9 = none ∧
    tstr Try.prog 9 = true ∧
    tbool Try.prog 9 = false ∧
    tarr Try.prog 9 = none ∧
    tby Try.prog 9 = (some 16) ∧
    tzero Try.prog 9 = (some [(Value.string ⟨#[]⟩)]) ∧
    (Try.prog.underlying 9).isSome = true ∧
    tcmp Try.prog 9 = false ∧
    tflds Try.prog 9 = none :=
  ⟨by kernel_rfl, by kernel_rfl, by kernel_rfl, by kernel_rfl, by kernel_rfl, by kernel_rfl, by kernel_rfl, by kernel_rfl, by kernel_rfl, by kernel_rfl, by kernel_rfl, by kernel_rfl⟩
theorem ty22 : tagg Try.prog 22 = (some false) ∧
    tsz Try.prog 22 = (some 1) ∧
    tel Try.prog 22 = (some 64) ∧
    tint Try.prog 22 = none ∧
    tstr Try.prog 22 = false ∧
    tbool Try.prog 22 = false ∧
    tarr Try.prog 22 = none ∧
    tby Try.prog 22 = (some 24) ∧
    tzero Try.prog 22 = (some [(Value.slice none 0 0)]) ∧
    (Try.prog.underlying 22).isSome = true ∧
    tcmp Try.prog 22 = false ∧
    tflds Try.prog 22 = none :=
  ⟨by kernel_rfl, by kernel_rfl, by kernel_rfl, by kernel_rfl, by kernel_rfl, by kernel_rfl, by kernel_rfl, by kernel_rfl, by kernel_rfl, by kernel_rfl, by kernel_rfl, by kernel_rfl⟩
theorem ty23 : tagg Try.prog 23 = (some false) ∧
    tsz Try.prog 23 = (some 1) ∧
    tel Try.prog 23 = (some 48) ∧
    tint Try.prog 23 = none ∧
    tstr Try.prog 23 = false ∧
    tbool Try.prog 23 = false ∧
    tarr Try.prog 23 = none ∧
    tby Try.prog 23 = (some 24) ∧
    tzero Try.prog 23 = (some [(Value.slice none 0 0)]) ∧
    (Try.prog.underlying 23).isSome = true ∧
    tcmp Try.prog 23 = false ∧
    tflds Try.prog 23 = none :=
  ⟨by kernel_rfl, by kernel_rfl, by kernel_rfl, by kernel_rfl, by kernel_rfl, by kernel_rfl, by kernel_rfl, by kernel_rfl, by kernel_rfl, by kernel_rfl, by kernel_rfl, by kernel_rfl⟩
theorem ty24 : tagg Try.prog 24 = (some false) ∧
    tsz Try.prog 24 = (some 1) ∧
    tel Try.prog 24 = (some 70) ∧
    tint Try.prog 24 = none ∧
    tstr Try.prog 24 = false ∧
    tbool Try.prog 24 = false ∧
    tarr Try.prog 24 = none ∧
    tby Try.prog 24 = (some 24) ∧
    tzero Try.prog 24 = (some [(Value.slice none 0 0)]) ∧
    (Try.prog.underlying 24).isSome = true ∧
    tcmp Try.prog 24 = false ∧
    tflds Try.prog 24 = none :=
  ⟨by kernel_rfl, by kernel_rfl, by kernel_rfl, by kernel_rfl, by kernel_rfl, by kernel_rfl, by kernel_rfl, by kernel_rfl, by kernel_rfl, by kernel_rfl, by kernel_rfl, by kernel_rfl⟩
theorem ty25 : tagg Try.prog 25 = (some false) ∧
    tsz Try.prog 25 = (some 1) ∧
    tel Try.prog 25 = (some 42) ∧
    tint Try.prog 25 = none ∧
    tstr Try.prog 25 = false ∧
    tbool Try.prog 25 = false ∧
    tarr Try.prog 25 = none ∧
    tby Try.prog 25 = (some 24) ∧
    tzero Try.prog 25 = (some [(Value.slice none 0 0)]) ∧
    (Try.prog.underlying 25).isSome = true ∧
    tcmp Try.prog 25 = false ∧
    tflds Try.prog 25 = none :=
  ⟨by kernel_rfl, by kernel_rfl, by kernel_rfl, by kernel_rfl, by kernel_rfl, by kernel_rfl, by kernel_rfl, by kernel_rfl, by kernel_rfl, by kernel_rfl, by kernel_rfl, by kernel_rfl⟩
theorem ty26 : tagg Try.prog 26 = (some false) ∧
    tsz Try.prog 26 = (some 1) ∧
    tel Try.prog 26 = (some 3) ∧
    tint Try.prog 26 = none ∧
    tstr Try.prog 26 = false ∧
    tbool Try.prog 26 = false ∧
    tarr Try.prog 26 = none ∧
    tby Try.prog 26 = (some 24) ∧
    tzero Try.prog 26 = (some [(Value.slice none 0 0)]) ∧
    (Try.prog.underlying 26).isSome = true ∧
    tcmp Try.prog 26 = false ∧
    tflds Try.prog 26 = none :=
  ⟨by kernel_rfl, by kernel_rfl, by kernel_rfl, by kernel_rfl, by kernel_rfl, by kernel_rfl, by kernel_rfl, by kernel_rfl, by kernel_rfl, by kernel_rfl, by kernel_rfl, by kernel_rfl⟩
theorem ty28 : tagg Try.prog 28 = (some true) ∧
    tsz Try.prog 28 = (some 7) ∧
    tel Try.prog 28 = none ∧
    tint Try.prog 28 = none ∧
    tstr Try.prog 28 = false ∧
    tbool Try.prog 28 = false ∧
    tarr Try.prog 28 = none ∧
    tby Try.prog 28 = (some 136) ∧
    tzero Try.prog 28 = (some [(Value.int .i64 0), (Value.int .i64 0), (Value.slice none 0 0), (Value.slice none 0 0), (Value.slice none 0 0), (Value.slice none 0 0), (Value.slice none 0 0)]) ∧
    (Try.prog.underlying 28).isSome = true ∧
    tcmp Try.prog 28 = true ∧
    tflds Try.prog 28 = (some [(0, 1), (1, 1), (2, 1), (3, 1), (4, 1), (5, 1), (6, 1)]) ∧
    tfld Try.prog 28 0 = (some (0, 1)) ∧
    tfagg Try.prog 28 0 = (some false) ∧
    tfld Try.prog 28 1 = (some (1, 1)) ∧
    tfagg Try.prog 28 1 = (some false) ∧
    tfld Try.prog 28 2 = (some (2, 1)) ∧
    tfagg Try.prog 28 2 = (some false) ∧
    tfld Try.prog 28 3 = (some (3, 1)) ∧
    tfagg Try.prog 28 3 = (some false) ∧
    tfld Try.prog 28 4 = (some (4, 1)) ∧
    tfagg Try.prog 28 4 = (some false) ∧
    tfld Try.prog 28 5 = (some (5, 1)) ∧
    tfagg Try.prog 28 5 = (some false) ∧
    tfld Try.prog 28 6 = (some (6, 1)) ∧
    tfagg Try.prog 28 6 = (some false) :=
  ⟨by kernel_rfl, by kernel_rfl, by kernel_rfl, by kernel_rfl, by kernel_rfl, by kernel_rfl, by kernel_rfl, by kernel_rfl, by kernel_rfl, by kernel_rfl, by kernel_rfl, by kernel_rfl, by kernel_rfl, by kernel_rfl, by kernel_rfl, by kernel_rfl, by kernel_rfl, by kernel_rfl, by kernel_rfl, by kernel_rfl, by kernel_rfl, by kernel_rfl, by kernel_rfl, by kernel_rfl, by kernel_rfl, by kernel_rfl⟩
theorem ty29 : tagg Try.prog 29 = (some false) ∧
    tsz Try.prog 29 = (some 1) ∧
    tel Try.prog 29 = none ∧
    tint Try.prog 29 = (some .i64) ∧
    tstr Try.prog 29 = false ∧
    tbool Try.prog 29 = false ∧
    tarr Try.prog 29 = none ∧
    tby Try.prog 29 = (some 8) ∧
    tzero Try.prog 29 = (some [(Value.int .i64 0)]) ∧
    (Try.prog.underlying 29).isSome = true ∧
    tcmp Try.prog 29 = false ∧
    tflds Try.prog 29 = none :=
  ⟨by kernel_rfl, by kernel_rfl, by kernel_rfl, by kernel_rfl, by kernel_rfl, by kernel_rfl, by kernel_rfl, by kernel_rfl, by kernel_rfl, by kernel_rfl, by kernel_rfl, by kernel_rfl⟩
theorem ty42 : tagg Try.prog 42 = (some true) ∧
    tsz Try.prog 42 = (some 3) ∧
    tel Try.prog 42 = none ∧
    tint Try.prog 42 = none ∧
    tstr Try.prog 42 = false ∧
    tbool Try.prog 42 = false ∧
    tarr Try.prog 42 = none ∧
    tby Try.prog 42 = (some 24) ∧
    tzero Try.prog 42 = (some [(Value.int .i64 0), (Value.int .i64 0), (Value.int .i64 0)]) ∧
    (Try.prog.underlying 42).isSome = true ∧
    tcmp Try.prog 42 = true ∧
    tflds Try.prog 42 = (some [(0, 1), (1, 1), (2, 1)]) ∧
    tfld Try.prog 42 0 = (some (0, 1)) ∧
    tfagg Try.prog 42 0 = (some false) ∧
    tfld Try.prog 42 1 = (some (1, 1)) ∧
    tfagg Try.prog 42 1 = (some false) ∧
    tfld Try.prog 42 2 = (some (2, 1)) ∧
    tfagg Try.prog 42 2 = (some false) :=
  ⟨by kernel_rfl, by kernel_rfl, by kernel_rfl, by kernel_rfl, by kernel_rfl, by kernel_rfl, by kernel_rfl, by kernel_rfl, by kernel_rfl, by kernel_rfl, by kernel_rfl, by kernel_rfl, by kernel_rfl, by kernel_rfl, by kernel_rfl, by kernel_rfl, by kernel_rfl, by kernel_rfl⟩
theorem ty48 : tagg Try.prog 48 = (some true) ∧
    tsz Try.prog 48 = (some 12) ∧
    tel Try.prog 48 = none ∧
    tint Try.prog 48 = none ∧
    tstr Try.prog 48 = false ∧
    tbool Try.prog 48 = false ∧
    tarr Try.prog 48 = none ∧
    tby Try.prog 48 = (some 120) ∧
    tzero Try.prog 48 = (some [(Value.int .i64 0), (Value.string ⟨#[]⟩), (Value.string ⟨#[]⟩), (Value.bool false), (Value.bool false), (Value.int .i64 0), (Value.int .i64 0), (Value.int .i64 0), (Value.slice none 0 0), (Value.int .i64 0), (Value.int .i64 0), (Value.int .i64 0)]) ∧
    (Try.prog.underlying 48).isSome = true ∧
    tcmp Try.prog 48 = true ∧
    tflds Try.prog 48 = (some [(0, 1), (1, 1), (2, 1), (3, 1), (4, 1), (5, 1), (6, 1), (7, 1), (8, 1), (9, 1), (10, 1), (11, 1)]) ∧
    tfld Try.prog 48 0 = (some (0, 1)) ∧
    tfagg Try.prog 48 0 = (some false) ∧
    tfld Try.prog 48 1 = (some (1, 1)) ∧
    tfagg Try.prog 48 1 = (some false) ∧
    tfld Try.prog 48 2 = (some (2, 1)) ∧
    tfagg Try.prog 48 2 = (some false) ∧
    tfld Try.prog 48 3 = (some (3, 1)) ∧
    tfagg Try.prog 48 3 = (some false) ∧
    tfld Try.prog 48 4 = (some (4, 1)) ∧
    tfagg Try.prog 48 4 = (some false) ∧
    tfld Try.prog 48 5 = (some (5, 1)) ∧
    tfagg Try.prog 48 5 = (some false) ∧
    tfld Try.prog 48 6 = (some (6, 1)) ∧
    tfagg Try.prog 48 6 = (some false) ∧
    tfld Try.prog 48 7 = (some (7, 1)) ∧
    tfagg Try.prog 48 7 = (some false) ∧
    tfld Try.prog 48 8 = (some (8, 1)) ∧
    tfagg Try.prog 48 8 = (some false) ∧
    tfld Try.prog 48 9 = (some (9, 1)) ∧
    tfagg Try.prog 48 9 = (some false) ∧
    tfld Try.prog 48 10 = (some (10, 1)) ∧
    tfagg Try.prog 48 10 = (some false) ∧
    tfld Try.prog 48 11 = (some (11, 1)) ∧
    tfagg Try.prog 48 11 = (some false) :=
  ⟨by kernel_rfl, by kernel_rfl, by kernel_rfl, by kernel_rfl, by kernel_rfl, by kernel_rfl, by kernel_rfl, by kernel_rfl, by kernel_rfl, by kernel_rfl, by kernel_rfl, by kernel_rfl, by kernel_rfl, by kernel_rfl, by kernel_rfl, by kernel_rfl, by kernel_rfl, by kernel_rfl, by kernel_rfl, by kernel_rfl, by kernel_rfl, by kernel_rfl, by kernel_rfl, by kernel_rfl, by kernel_rfl, by kernel_rfl, by kernel_rfl, by kernel_rfl, by kernel_rfl, by kernel_rfl, by kernel_rfl, by kernel_rfl, by kernel_rfl, by kernel_rfl, by kernel_rfl, by kernel_rfl⟩
theorem ty57 : tagg Try.prog 57 = (some false) ∧
    tsz Try.prog 57 = (some 1) ∧
    tel Try.prog 57 = none ∧
    tint Try.prog 57 = none ∧
    tstr Try.prog 57 = false ∧
    tbool Try.prog 57 = false ∧
    tarr Try.prog 57 = none ∧
    tby Try.prog 57 = (some 8) ∧
    tzero Try.prog 57 = (some [(Value.map none)]) ∧
    (Try.prog.underlying 57).isSome = true ∧
    tcmp Try.prog 57 = false ∧
    tflds Try.prog 57 = none ∧
    tmapk Try.prog 57 = (some false) :=
  ⟨by kernel_rfl, by kernel_rfl, by kernel_rfl, by kernel_rfl, by kernel_rfl, by kernel_rfl, by kernel_rfl, by kernel_rfl, by kernel_rfl, by kernel_rfl, by kernel_rfl, by kernel_rfl, by kernel_rfl⟩
theorem ty62 : tagg Try.prog 62 = (some true) ∧
    tsz Try.prog 62 = (some 3) ∧
    tel Try.prog 62 = none ∧
    tint Try.prog 62 = none ∧
    tstr Try.prog 62 = false ∧
    tbool Try.prog 62 = false ∧
    tarr Try.prog 62 = none ∧
    tby Try.prog 62 = (some 32) ∧
    tzero Try.prog 62 = (some [(Value.string ⟨#[]⟩), (Value.int .i64 0), (Value.int .i64 0)]) ∧
    (Try.prog.underlying 62).isSome = true ∧
    tcmp Try.prog 62 = true ∧
    tflds Try.prog 62 = (some [(0, 1), (1, 1), (2, 1)]) ∧
    tfld Try.prog 62 0 = (some (0, 1)) ∧
    tfagg Try.prog 62 0 = (some false) ∧
    tfld Try.prog 62 1 = (some (1, 1)) ∧
    tfagg Try.prog 62 1 = (some false) ∧
    tfld Try.prog 62 2 = (some (2, 1)) ∧
    tfagg Try.prog 62 2 = (some false) :=
  ⟨by kernel_rfl, by kernel_rfl, by kernel_rfl, by kernel_rfl, by kernel_rfl, by kernel_rfl, by kernel_rfl, by kernel_rfl, by kernel_rfl, by kernel_rfl, by kernel_rfl, by kernel_rfl, by kernel_rfl, by kernel_rfl, by kernel_rfl, by kernel_rfl, by kernel_rfl, by kernel_rfl⟩
theorem ty64 : tagg Try.prog 64 = (some true) ∧
    tsz Try.prog 64 = (some 5) ∧
    tel Try.prog 64 = none ∧
    tint Try.prog 64 = none ∧
    tstr Try.prog 64 = false ∧
    tbool Try.prog 64 = false ∧
    tarr Try.prog 64 = none ∧
    tby Try.prog 64 = (some 56) ∧
    tzero Try.prog 64 = (some [(Value.string ⟨#[]⟩), (Value.int .i64 0), (Value.string ⟨#[]⟩), (Value.int .i64 0), (Value.int .i64 0)]) ∧
    (Try.prog.underlying 64).isSome = true ∧
    tcmp Try.prog 64 = true ∧
    tflds Try.prog 64 = (some [(0, 1), (1, 1), (2, 3)]) ∧
    tfld Try.prog 64 0 = (some (0, 1)) ∧
    tfagg Try.prog 64 0 = (some false) ∧
    tfld Try.prog 64 1 = (some (1, 1)) ∧
    tfagg Try.prog 64 1 = (some false) ∧
    tfld Try.prog 64 2 = (some (2, 3)) ∧
    tfagg Try.prog 64 2 = (some true) :=
  ⟨by kernel_rfl, by kernel_rfl, by kernel_rfl, by kernel_rfl, by kernel_rfl, by kernel_rfl, by kernel_rfl, by kernel_rfl, by kernel_rfl, by kernel_rfl, by kernel_rfl, by kernel_rfl, by kernel_rfl, by kernel_rfl, by kernel_rfl, by kernel_rfl, by kernel_rfl, by kernel_rfl⟩
theorem ty68 : tagg Try.prog 68 = (some false) ∧
    tsz Try.prog 68 = (some 1) ∧
    tel Try.prog 68 = (some 73) ∧
    tint Try.prog 68 = none ∧
    tstr Try.prog 68 = false ∧
    tbool Try.prog 68 = false ∧
    tarr Try.prog 68 = none ∧
    tby Try.prog 68 = (some 24) ∧
    tzero Try.prog 68 = (some [(Value.slice none 0 0)]) ∧
    (Try.prog.underlying 68).isSome = true ∧
    tcmp Try.prog 68 = false ∧
    tflds Try.prog 68 = none :=
  ⟨by kernel_rfl, by kernel_rfl, by kernel_rfl, by kernel_rfl, by kernel_rfl, by kernel_rfl, by kernel_rfl, by kernel_rfl, by kernel_rfl, by kernel_rfl, by kernel_rfl, by kernel_rfl⟩
theorem ty70 : tagg Try.prog 70 = (some true) ∧
    tsz Try.prog 70 = (some 4) ∧
    tel Try.prog 70 = none ∧
    tint Try.prog 70 = none ∧
    tstr Try.prog 70 = false ∧
    tbool Try.prog 70 = false ∧
    tarr Try.prog 70 = none ∧
    tby Try.prog 70 = (some 64) ∧
    tzero Try.prog 70 = (some [(Value.int .i64 0), (Value.string ⟨#[]⟩), (Value.string ⟨#[]⟩), (Value.slice none 0 0)]) ∧
    (Try.prog.underlying 70).isSome = true ∧
    tcmp Try.prog 70 = true ∧
    tflds Try.prog 70 = (some [(0, 1), (1, 1), (2, 1), (3, 1)]) ∧
    tfld Try.prog 70 0 = (some (0, 1)) ∧
    tfagg Try.prog 70 0 = (some false) ∧
    tfld Try.prog 70 1 = (some (1, 1)) ∧
    tfagg Try.prog 70 1 = (some false) ∧
    tfld Try.prog 70 2 = (some (2, 1)) ∧
    tfagg Try.prog 70 2 = (some false) ∧
    tfld Try.prog 70 3 = (some (3, 1)) ∧
    tfagg Try.prog 70 3 = (some false) :=
  ⟨by kernel_rfl, by kernel_rfl, by kernel_rfl, by kernel_rfl, by kernel_rfl, by kernel_rfl, by kernel_rfl, by kernel_rfl, by kernel_rfl, by kernel_rfl, by kernel_rfl, by kernel_rfl, by kernel_rfl, by kernel_rfl, by kernel_rfl, by kernel_rfl, by kernel_rfl, by kernel_rfl, by kernel_rfl, by kernel_rfl⟩
theorem ty73 : tagg Try.prog 73 = (some true) ∧
    tsz Try.prog 73 = (some 3) ∧
    tel Try.prog 73 = none ∧
    tint Try.prog 73 = none ∧
    tstr Try.prog 73 = false ∧
    tbool Try.prog 73 = false ∧
    tarr Try.prog 73 = none ∧
    tby Try.prog 73 = (some 40) ∧
    tzero Try.prog 73 = (some [(Value.int .i64 0), (Value.int .i64 0), (Value.slice none 0 0)]) ∧
    (Try.prog.underlying 73).isSome = true ∧
    tcmp Try.prog 73 = true ∧
    tflds Try.prog 73 = (some [(0, 1), (1, 1), (2, 1)]) ∧
    tfld Try.prog 73 0 = (some (0, 1)) ∧
    tfagg Try.prog 73 0 = (some false) ∧
    tfld Try.prog 73 1 = (some (1, 1)) ∧
    tfagg Try.prog 73 1 = (some false) ∧
    tfld Try.prog 73 2 = (some (2, 1)) ∧
    tfagg Try.prog 73 2 = (some false) :=
  ⟨by kernel_rfl, by kernel_rfl, by kernel_rfl, by kernel_rfl, by kernel_rfl, by kernel_rfl, by kernel_rfl, by kernel_rfl, by kernel_rfl, by kernel_rfl, by kernel_rfl, by kernel_rfl, by kernel_rfl, by kernel_rfl, by kernel_rfl, by kernel_rfl, by kernel_rfl, by kernel_rfl⟩
theorem ty91 : tagg Try.prog 91 = (some false) ∧
    tsz Try.prog 91 = (some 1) ∧
    tel Try.prog 91 = none ∧
    tint Try.prog 91 = none ∧
    tstr Try.prog 91 = false ∧
    tbool Try.prog 91 = false ∧
    tarr Try.prog 91 = none ∧
    tby Try.prog 91 = (some 8) ∧
    tzero Try.prog 91 = (some [(Value.map none)]) ∧
    (Try.prog.underlying 91).isSome = true ∧
    tcmp Try.prog 91 = false ∧
    tflds Try.prog 91 = none ∧
    tmapk Try.prog 91 = (some true) :=
  ⟨by kernel_rfl, by kernel_rfl, by kernel_rfl, by kernel_rfl, by kernel_rfl, by kernel_rfl, by kernel_rfl, by kernel_rfl, by kernel_rfl, by kernel_rfl, by kernel_rfl, by kernel_rfl, by kernel_rfl⟩
theorem ty93 : tagg Try.prog 93 = (some true) ∧
    tsz Try.prog 93 = (some 2) ∧
    tel Try.prog 93 = none ∧
    tint Try.prog 93 = none ∧
    tstr Try.prog 93 = false ∧
    tbool Try.prog 93 = false ∧
    tarr Try.prog 93 = (some (2, 9)) ∧
    tby Try.prog 93 = (some 32) ∧
    tzero Try.prog 93 = (some [(Value.string ⟨#[]⟩), (Value.string ⟨#[]⟩)]) ∧
    (Try.prog.underlying 93).isSome = true ∧
    tcmp Try.prog 93 = true ∧
    tflds Try.prog 93 = none :=
  ⟨by kernel_rfl, by kernel_rfl, by kernel_rfl, by kernel_rfl, by kernel_rfl, by kernel_rfl, by kernel_rfl, by kernel_rfl, by kernel_rfl, by kernel_rfl, by kernel_rfl, by kernel_rfl⟩
theorem ty114 : tagg Try.prog 114 = (some false) ∧
    tsz Try.prog 114 = (some 1) ∧
    tel Try.prog 114 = none ∧
    tint Try.prog 114 = (some .u64) ∧
    tstr Try.prog 114 = false ∧
    tbool Try.prog 114 = false ∧
    tarr Try.prog 114 = none ∧
    tby Try.prog 114 = (some 8) ∧
    tzero Try.prog 114 = (some [(Value.int .u64 0)]) ∧
    (Try.prog.underlying 114).isSome = true ∧
    tcmp Try.prog 114 = false ∧
    tflds Try.prog 114 = none :=
  ⟨by kernel_rfl, by kernel_rfl, by kernel_rfl, by kernel_rfl, by kernel_rfl, by kernel_rfl, by kernel_rfl, by kernel_rfl, by kernel_rfl, by kernel_rfl, by kernel_rfl, by kernel_rfl⟩
theorem mt57 : MapT Try.prog 57 false := mapT_int (kt := 3) (et := 4) (by kernel_rfl) (by kernel_rfl) (by kernel_rfl)
theorem mt91 : MapT Try.prog 91 true := mapT_s2 (kt := 93) (et := 4) (st := 9) (by kernel_rfl) (by kernel_rfl) (by kernel_rfl) (by kernel_rfl) (by kernel_rfl) (by kernel_rfl) (by kernel_rfl)
end Go.Proofs.Ytaacjghgniljpaa
