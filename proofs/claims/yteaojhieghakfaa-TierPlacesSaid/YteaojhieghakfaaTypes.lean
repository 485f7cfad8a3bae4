/- Facts on the types of the program. -/
import Derived.Test.YteaojhieghakfaaEngC
import Derived.Test.YteaojhieghakfaaEngM
import Derived.Test.YteaojhieghakfaaProg
namespace Go.Proofs.Yteaojhieghakfaa
open Go.RowKit
set_option linter.unusedSimpArgs false
set_option linter.unusedVariables false
set_option maxRecDepth 100000
theorem ty3 : tagg Try.prog 3 = (some false) ∧
    tsz Try.prog 3 = (some 1) ∧
    tel Try.prog 3 = none ∧
    tint Try.prog 3 = (some .i64) ∧
    tstr Try.prog 3 = false ∧
    tbool Try.prog 3 = false ∧
    tarr Try.prog 3 = none ∧
    tby Try.prog 3 = (some 8) ∧
    tzero Try.prog 3 = (some [(Value.int .i64 0)]) ∧
    (Try.prog.underlying 3).isSome = true ∧
    tcmp Try.prog 3 = false ∧
    tflds Try.prog 3 = none :=
  ⟨by kernel_rfl, by kernel_rfl, by kernel_rfl, by kernel_rfl, by kernel_rfl, by kernel_rfl, by kernel_rfl, by kernel_rfl, by kernel_rfl, by kernel_rfl, by kernel_rfl, by kernel_rfl⟩
theorem ty4 : tagg Try.prog 4 = (some false) ∧
    tsz Try.prog 4 = (some 1) ∧
    tel Try.prog 4 = none ∧
    tint Try.prog 4 = none ∧
    tstr Try.prog 4 = false ∧
    tbool Try.prog 4 = true ∧
    tarr Try.prog 4 = none ∧
    tby Try.prog 4 = (some 1) ∧
    tzero Try.prog 4 = (some [(Value.bool false)]) ∧
    (Try.prog.underlying 4).isSome = true ∧
    tcmp Try.prog 4 = false ∧
    tflds Try.prog 4 = none :=
  ⟨by kernel_rfl, by kernel_rfl, by kernel_rfl, by kernel_rfl, by kernel_rfl, by kernel_rfl, by kernel_rfl, by kernel_rfl, by kernel_rfl, by kernel_rfl, by kernel_rfl, by kernel_rfl⟩
theorem ty5 : tagg Try.prog 5 = (some false) ∧
    tsz Try.prog 5 = (some 1) ∧
    tel Try.prog 5 = none ∧
    tint Try.prog 5 = (some .u8) ∧
    tstr Try.prog 5 = false ∧
    tbool Try.prog 5 = false ∧
    tarr Try.prog 5 = none ∧
    tby Try.prog 5 = (some 1) ∧
    tzero Try.prog 5 = (some [(Value.int .u8 0)]) ∧
    (Try.prog.underlying 5).isSome = true ∧
    tcmp Try.prog 5 = false ∧
    tflds Try.prog 5 = none :=
  ⟨by kernel_rfl, by kernel_rfl, by kernel_rfl, by kernel_rfl, by kernel_rfl, by kernel_rfl, by kernel_rfl, by kernel_rfl, by kernel_rfl, by kernel_rfl, by kernel_rfl, by kernel_rfl⟩
theorem ty9 : tagg Try.prog 9 = (some false) ∧
    tsz Try.prog 9 = (some 1) ∧
    tel Try.prog 9 = none ∧
    tint Try.prog 9 = none ∧
    tstr Try.prog 9 = true ∧
    tbool Try.prog 9 = false ∧
    tarr Try.prog 9 = none ∧
    tby Try.prog 9 = (some 16) ∧
    tzero Try.prog 9 = (some [(Value.string ⟨#[]⟩)]) ∧
    (Try.prog.underlying 9).isSome = true ∧
    tcmp Try.prog 9 = false ∧
    tflds Try.prog 9 = none :=
  ⟨by kernel_rfl, by kernel_rfl, by kernel_rfl, by kernel_rfl, by kernel_rfl, by kernel_rfl, by kernel_rfl, by kernel_rfl, by kernel_rfl, by kernel_rfl, by kernel_rfl, by kernel_rfl⟩
theorem ty23 : tagg Try.prog 23 = (some true) ∧
    tsz Try.prog 23 = (some 5) ∧
    tel Try.prog 23 = none ∧
    tint Try.prog 23 = none ∧
    tstr Try.prog 23 = false ∧
    tbool Try.prog 23 = false ∧
    tarr Try.prog 23 = none ∧
    tby Try.prog 23 = (some 40) ∧
    tzero Try.prog 23 = (some [(Value.int .i64 0), (Value.int .i64 0), (Value.int .i64 0), (Value.int .i64 0), (Value.int .i64 0)]) ∧
    (Try.prog.underlying 23).isSome = true ∧
    tcmp Try.prog 23 = true ∧
    tflds Try.prog 23 = (some [(0, 1), (1, 1), (2, 1), (3, 1), (4, 1)]) ∧
    tfld Try.prog 23 0 = (some (0, 1)) ∧
    tfagg Try.prog 23 0 = (some false) ∧
    tfld Try.prog 23 1 = (some (1, 1)) ∧
    tfagg Try.prog 23 1 = (some false) ∧
    tfld Try.prog 23 2 = (some (2, 1)) ∧
    tfagg Try.prog 23 2 = (some false) ∧
    tfld Try.prog 23 3 = (some (3, 1)) ∧
    tfagg Try.prog 23 3 = (some false) ∧
    tfld Try.prog 23 4 = (some (4, 1)) ∧
    tfagg Try.prog 23 4 = (some false) :=
  ⟨by kernel_rfl, by kernel_rfl, by kernel_rfl, by kernel_rfl, by kernel_rfl, by kernel_rfl, by kernel_rfl, by kernel_rfl, by kernel_rfl, by kernel_rfl, by kernel_rfl, by kernel_rfl, by kernel_rfl, by kernel_rfl, by kernel_rfl, by kernel_rfl, by kernel_rfl, by kernel_rfl, by kernel_rfl, by kernel_rfl, by kernel_rfl, by kernel_rfl⟩
theorem ty24 : tagg Try.prog 24 = (some false) ∧
    tsz Try.prog 24 = (some 1) ∧
    tel Try.prog 24 = (some 78) ∧
    tint Try.prog 24 = none ∧
    tstr Try.prog 24 = false ∧
    tbool Try.prog 24 = false ∧
    tarr Try.prog 24 = none ∧
    tby Try.prog 24 = (some 24) ∧
    tzero Try.prog 24 = (some [(Value.slice none 0 0)]) ∧
    (Try.prog.underlying 24).isSome = true ∧
    tcmp Try.prog 24 = false ∧
    tflds Try.prog 24 = none :=
  ⟨by kernel_rfl, by kernel_rfl, by kernel_rfl, by kernel_rfl, by kernel_rfl, by kernel_rfl, by kernel_rfl, by kernel_rfl, by kernel_rfl, by kernel_rfl, by kernel_rfl, by kernel_rfl⟩
theorem ty25 : tagg Try.prog 25 = (some false) ∧
    tsz Try.prog 25 = (some 1) ∧
    tel Try.prog 25 = (some 57) ∧
    tint Try.prog 25 = none ∧
    tstr Try.prog 25 = false ∧
    tbool Try.prog 25 = false ∧
    tarr Try.prog 25 = none ∧
    tby Try.prog 25 = (some 24) ∧
    tzero Try.prog 25 = (some [(Value.slice none 0 0)]) ∧
    (Try.prog.underlying 25).isSome = true ∧
    tcmp Try.prog 25 = false ∧
    tflds Try.prog 25 = none :=
  ⟨by kernel_rfl, by kernel_rfl, by kernel_rfl, by kernel_rfl, by kernel_rfl, by kernel_rfl, by kernel_rfl, by kernel_rfl, by kernel_rfl, by kernel_rfl, by kernel_rfl, by kernel_rfl⟩
theorem ty26 : tagg Try.prog 26 = (some false) ∧
    tsz Try.prog 26 = (some 1) ∧
    tel Try.prog 26 = (some 65) ∧
    tint Try.prog 26 = none ∧
    tstr Try.prog 26 = false ∧
    tbool Try.prog 26 = false ∧
    tarr Try.prog 26 = none ∧
    tby Try.prog 26 = (some 24) ∧
    tzero Try.prog 26 = (some [(Value.slice none 0 0)]) ∧
    (Try.prog.underlying 26).isSome = true ∧
    tcmp Try.prog 26 = false ∧
    tflds Try.prog 26 = none :=
  ⟨by kernel_rfl, by kernel_rfl, by kernel_rfl, by kernel_rfl, by kernel_rfl, by kernel_rfl, by kernel_rfl, by kernel_rfl, by kernel_rfl, by kernel_rfl, by kernel_rfl, by kernel_rfl⟩
theorem ty27 : tagg Try.prog 27 = (some false) ∧
    tsz Try.prog 27 = (some 1) ∧
    tel Try.prog 27 = (some 41) ∧
    tint Try.prog 27 = none ∧
    tstr Try.prog 27 = false ∧
    tbool Try.prog 27 = false ∧
    tarr Try.prog 27 = none ∧
    tby Try.prog 27 = (some 24) ∧
    tzero Try.prog 27 = (some [(Value.slice none 0 0)]) ∧
    (Try.prog.underlying 27).isSome = true ∧
    tcmp Try.prog 27 = false ∧
    tflds Try.prog 27 = none :=
  ⟨by kernel_rfl, by kernel_rfl, by kernel_rfl, by kernel_rfl, by kernel_rfl, by kernel_rfl, by kernel_rfl, by kernel_rfl, by kernel_rfl, by kernel_rfl, by kernel_rfl, by kernel_rfl⟩
theorem ty28 : tagg Try.prog 28 = (some false) ∧
    tsz Try.prog 28 = (some 1) ∧
    tel Try.prog 28 = (some 3) ∧
    tint Try.prog 28 = none ∧
    tstr Try.prog 28 = false ∧
    tbool Try.prog 28 = false ∧
    tarr Try.prog 28 = none ∧
    tby Try.prog 28 = (some 24) ∧
    tzero Try.prog 28 = (some [(Value.slice none 0 0)]) ∧
    (Try.prog.underlying 28).isSome = true ∧
    tcmp Try.prog 28 = false ∧
    tflds Try.prog 28 = none :=
  ⟨by kernel_rfl, by kernel_rfl, by kernel_rfl, by kernel_rfl, by kernel_rfl, by kernel_rfl, by kernel_rfl, by kernel_rfl, by kernel_rfl, by kernel_rfl, by kernel_rfl, by kernel_rfl⟩
theorem ty30 : tagg Try.prog 30 = (some true) ∧
    tsz Try.prog 30 = (some 7) ∧
    tel Try.prog 30 = none ∧
    tint Try.prog 30 = none ∧
    tstr Try.prog 30 = false ∧
    tbool Try.prog 30 = false ∧
    tarr Try.prog 30 = none ∧
    tby Try.prog 30 = (some 136) ∧
    tzero Try.prog 30 = (some [(Value.int .i64 0), (Value.int .i64 0), (Value.slice none 0 0), (Value.slice none 0 0), (Value.slice none 0 0), (Value.slice none 0 0), (Value.slice none 0 0)]) ∧
    (Try.prog.underlying 30).isSome = true ∧
    tcmp Try.prog 30 = true ∧
    tflds Try.prog 30 = (some [(0, 1), (1, 1), (2, 1), (3, 1), (4, 1), (5, 1), (6, 1)]) ∧
    tfld Try.prog 30 0 = (some (0, 1)) ∧
    tfagg Try.prog 30 0 = (some false) ∧
    tfld Try.prog 30 1 = (some (1, 1)) ∧
    tfagg Try.prog 30 1 = (some false) ∧
    tfld Try.prog 30 2 = (some (2, 1)) ∧
    tfagg Try.prog 30 2 = (some false) ∧
    tfld Try.prog 30 3 = (some (3, 1)) ∧
    tfagg Try.prog 30 3 = (some false) ∧
    tfld Try.prog 30 4 = (some (4, 1)) ∧
    tfagg Try.prog 30 4 = (some false) ∧
    tfld Try.prog 30 5 = (some (5, 1)) ∧
    tfagg Try.prog 30 5 = (some false) ∧
    tfld Try.prog 30 6 = (some (6, 1)) ∧
    tfagg Try.prog 30 6 = (some false) :=
  ⟨by kernel_rfl, by kernel_rfl, by kernel_rfl, by kernel_rfl, by kernel_rfl, by kernel_rfl, by kernel_rfl, by kernel_rfl, by kernel_rfl, by kernel_rfl, by kernel_rfl, by kernel_rfl, by kernel_rfl, by kernel_rfl, by kernel_rfl, by kernel_rfl, by kernel_rfl, by kernel_rfl, by kernel_rfl, by kernel_rfl, by kernel_rfl, by kernel_rfl, by kernel_rfl, by kernel_rfl, by kernel_rfl, by kernel_rfl⟩
theorem ty31 : tagg Try.prog 31 = (some false) ∧
    tsz Try.prog 31 = (some 1) ∧
    tel Try.prog 31 = none ∧
    tint Try.prog 31 = (some .i64) ∧
    tstr Try.prog 31 = false ∧
    tbool Try.prog 31 = false ∧
    tarr Try.prog 31 = none ∧
    tby Try.prog 31 = (some 8) ∧
    tzero Try.prog 31 = (some [(Value.int .i64 0)]) ∧
    (Try.prog.underlying 31).isSome = true ∧
    tcmp Try.prog 31 = false ∧
    tflds Try.prog 31 = none :=
  ⟨by kernel_rfl, by kernel_rfl, by kernel_rfl, by kernel_rfl, by kernel_rfl, by kernel_rfl, by kernel_rfl, by kernel_rfl, by kernel_rfl, by kernel_rfl, by kernel_rfl, by kernel_rfl⟩
theorem ty41 : tagg Try.prog 41 = (some true) ∧
    tsz Try.prog 41 = (some 3) ∧
    tel Try.prog 41 = none ∧
    tint Try.prog 41 = none ∧
    tstr Try.prog 41 = false ∧
    tbool Try.prog 41 = false ∧
    tarr Try.prog 41 = none ∧
    tby Try.prog 41 = (some 24) ∧
    tzero Try.prog 41 = (some [(Value.int .i64 0), (Value.int .i64 0), (Value.int .i64 0)]) ∧
    (Try.prog.underlying 41).isSome = true ∧
    tcmp Try.prog 41 = true ∧
    tflds Try.prog 41 = (some [(0, 1), (1, 1), (2, 1)]) ∧
    tfld Try.prog 41 0 = (some (0, 1)) ∧
    tfagg Try.prog 41 0 = (some false) ∧
    tfld Try.prog 41 1 = (some (1, 1)) ∧
    tfagg Try.prog 41 1 = (some false) ∧
    tfld Try.prog 41 2 = (some (2, 1)) ∧
    tfagg Try.prog 41 2 = (some false) :=
  ⟨by kernel_rfl, by kernel_rfl, by kernel_rfl, by kernel_rfl, by kernel_rfl, by kernel_rfl, by kernel_rfl, by kernel_rfl, by kernel_rfl, by kernel_rfl, by kernel_rfl, by kernel_rfl, by kernel_rfl, by kernel_rfl, by kernel_rfl, by kernel_rfl, by kernel_rfl, by kernel_rfl⟩
theorem ty57 : tagg Try.prog 57 = (some true) ∧
    tsz Try.prog 57 = (some 12) ∧
    tel Try.prog 57 = none ∧
    tint Try.prog 57 = none ∧
    tstr Try.prog 57 = false ∧
    tbool Try.prog 57 = false ∧
    tarr Try.prog 57 = none ∧
    tby Try.prog 57 = (some 120) ∧
    tzero Try.prog 57 = (some [(Value.int .i64 0), (Value.string ⟨#[]⟩), (Value.string ⟨#[]⟩), (Value.bool false), (Value.bool false), (Value.int .i64 0), (Value.int .i64 0), (Value.int .i64 0), (Value.slice none 0 0), (Value.int .i64 0), (Value.int .i64 0), (Value.int .i64 0)]) ∧
    (Try.prog.underlying 57).isSome = true ∧
    tcmp Try.prog 57 = true ∧
    tflds Try.prog 57 = (some [(0, 1), (1, 1), (2, 1), (3, 1), (4, 1), (5, 1), (6, 1), (7, 1), (8, 1), (9, 1), (10, 1), (11, 1)]) ∧
    tfld Try.prog 57 0 = (some (0, 1)) ∧
    tfagg Try.prog 57 0 = (some false) ∧
    tfld Try.prog 57 1 = (some (1, 1)) ∧
    tfagg Try.prog 57 1 = (some false) ∧
    tfld Try.prog 57 2 = (some (2, 1)) ∧
    tfagg Try.prog 57 2 = (some false) ∧
    tfld Try.prog 57 3 = (some (3, 1)) ∧
    tfagg Try.prog 57 3 = (some false) ∧
    tfld Try.prog 57 4 = (some (4, 1)) ∧
    tfagg Try.prog 57 4 = (some false) ∧
    tfld Try.prog 57 5 = (some (5, 1)) ∧
    tfagg Try.prog 57 5 = (some false) ∧
    tfld Try.prog 57 6 = (some (6, 1)) ∧
    tfagg Try.prog 57 6 = (some false) ∧
    tfld Try.prog 57 7 = (some (7, 1)) ∧
    tfagg Try.prog 57 7 = (some false) ∧
    tfld Try.prog 57 8 = (some (8, 1)) ∧
    tfagg Try.prog 57 8 = (some false) ∧
    tfld Try.prog 57 9 = (some (9, 1)) ∧
    tfagg Try.prog 57 9 = (some false) ∧
    tfld Try.prog 57 10 = (some (10, 1)) ∧
    tfagg Try.prog 57 10 = (some false) ∧
    tfld Try.prog 57 11 = (some (11, 1)) ∧
    tfagg Try.prog 57 11 = (some false) :=
  ⟨by kernel_rfl, by kernel_rfl, by kernel_rfl, by kernel_rfl, by kernel_rfl, by kernel_rfl, by kernel_rfl, by kernel_rfl, by kernel_rfl, by kernel_rfl, by kernel_rfl, by kernel_rfl, by kernel_rfl, by kernel_rfl, by kernel_rfl, by kernel_rfl, by kernel_rfl, by kernel_rfl, by kernel_rfl, by kernel_rfl, by kernel_rfl, by kernel_rfl, by kernel_rfl, by kernel_rfl, by kernel_rfl, by kernel_rfl, by kernel_rfl, by kernel_rfl, by kernel_rfl, by kernel_rfl, by kernel_rfl, by kernel_rfl, by kernel_rfl, by kernel_rfl, by kernel_rfl, by kernel_rfl⟩
theorem ty62 : tagg Try.prog 62 = (some false) ∧
    tsz Try.prog 62 = (some 1) ∧
    tel Try.prog 62 = none ∧
    tint Try.prog 62 = none ∧
    tstr Try.prog 62 = false ∧
    tbool Try.prog 62 = false ∧
    tarr Try.prog 62 = none ∧
    tby Try.prog 62 = (some 8) ∧
    tzero Try.prog 62 = (some [(Value.map none)]) ∧
    (Try.prog.underlying 62).isSome = true ∧
    tcmp Try.prog 62 = false ∧
    tflds Try.prog 62 = none ∧
    tmapk Try.prog 62 = (some false) :=
  ⟨by kernel_rfl, by kernel_rfl, by kernel_rfl, by kernel_rfl, by kernel_rfl, by kernel_rfl, by kernel_rfl, by kernel_rfl, by kernel_rfl, by kernel_rfl, by kernel_rfl, by kernel_rfl, by kernel_rfl⟩
theorem ty63 : tagg Try.prog 63 = (some false) ∧
    tsz Try.prog 63 = (some 1) ∧
    tel Try.prog 63 = (some 67) ∧
    tint Try.prog 63 = none ∧
    tstr Try.prog 63 = false ∧
    tbool Try.prog 63 = false ∧
    tarr Try.prog 63 = none ∧
    tby Try.prog 63 = (some 24) ∧
    tzero Try.prog 63 = (some [(Value.slice none 0 0)]) ∧
    (Try.prog.underlying 63).isSome = true ∧
    tcmp Try.prog 63 = false ∧
    tflds Try.prog 63 = none :=
  ⟨by kernel_rfl, by kernel_rfl, by kernel_rfl, by kernel_rfl, by kernel_rfl, by kernel_rfl, by kernel_rfl, by kernel_rfl, by kernel_rfl, by kernel_rfl, by kernel_rfl, by kernel_rfl⟩
theorem ty65 : tagg Try.prog 65 = (some true) ∧
    tsz Try.prog 65 = (some 4) ∧
    tel Try.prog 65 = none ∧
    tint Try.prog 65 = none ∧
    tstr Try.prog 65 = false ∧
    tbool Try.prog 65 = false ∧
    tarr Try.prog 65 = none ∧
    tby Try.prog 65 = (some 64) ∧
    tzero Try.prog 65 = (some [(Value.int .i64 0), (Value.string ⟨#[]⟩), (Value.string ⟨#[]⟩), (Value.slice none 0 0)]) ∧
    (Try.prog.underlying 65).isSome = true ∧
    tcmp Try.prog 65 = true ∧
    tflds Try.prog 65 = (some [(0, 1), (1, 1), (2, 1), (3, 1)]) ∧
    tfld Try.prog 65 0 = (some (0, 1)) ∧
    tfagg Try.prog 65 0 = (some false) ∧
    tfld Try.prog 65 1 = (some (1, 1)) ∧
    tfagg Try.prog 65 1 = (some false) ∧
    tfld Try.prog 65 2 = (some (2, 1)) ∧
    tfagg Try.prog 65 2 = (some false) ∧
    tfld Try.prog 65 3 = (some (3, 1)) ∧
    tfagg Try.prog 65 3 = (some false) :=
  ⟨by kernel_rfl, by kernel_rfl, by kernel_rfl, by kernel_rfl, by kernel_rfl, by kernel_rfl, by kernel_rfl, by kernel_rfl, by kernel_rfl, by kernel_rfl, by kernel_rfl, by kernel_rfl, by kernel_rfl, by kernel_rfl, by kernel_rfl, by kernel_rfl, by kernel_rfl, by kernel_rfl, by kernel_rfl, by kernel_rfl⟩
theorem ty67 : tagg Try.prog 67 = (some true) ∧
    tsz Try.prog 67 = (some 3) ∧
    tel Try.prog 67 = none ∧
    tint Try.prog 67 = none ∧
    tstr Try.prog 67 = false ∧
    tbool Try.prog 67 = false ∧
    tarr Try.prog 67 = none ∧
    tby Try.prog 67 = (some 40) ∧
    tzero Try.prog 67 = (some [(Value.int .i64 0), (Value.int .i64 0), (Value.slice none 0 0)]) ∧
    (Try.prog.underlying 67).isSome = true ∧
    tcmp Try.prog 67 = true ∧
    tflds Try.prog 67 = (some [(0, 1), (1, 1), (2, 1)]) ∧
    tfld Try.prog 67 0 = (some (0, 1)) ∧
    tfagg Try.prog 67 0 = (some false) ∧
    tfld Try.prog 67 1 = (some (1, 1)) ∧
    tfagg Try.prog 67 1 = (some false) ∧
    tfld Try.prog 67 2 = (some (2, 1)) ∧
    tfagg Try.prog 67 2 = (some false) :=
  ⟨by kernel_rfl, by kernel_rfl, by kernel_rfl, by kernel_rfl, by kernel_rfl, by kernel_rfl, by kernel_rfl, by kernel_rfl, by kernel_rfl, by kernel_rfl, by kernel_rfl, by kernel_rfl, by kernel_rfl, by kernel_rfl, by kernel_rfl, by kernel_rfl, by kernel_rfl, by kernel_rfl⟩
theorem ty76 : tagg Try.prog 76 = (some true) ∧
    tsz Try.prog 76 = (some 3) ∧
    tel Try.prog 76 = none ∧
    tint Try.prog 76 = none ∧
    tstr Try.prog 76 = false ∧
    tbool Try.prog 76 = false ∧
    tarr Try.prog 76 = none ∧
    tby Try.prog 76 = (some 32) ∧
    tzero Try.prog 76 = (some [(Value.string ⟨#[]⟩), (Value.int .i64 0), (Value.int .i64 0)]) ∧
    (Try.prog.underlying 76).isSome = true ∧
    tcmp Try.prog 76 = true ∧
    tflds Try.prog 76 = (some [(0, 1), (1, 1), (2, 1)]) ∧
    tfld Try.prog 76 0 = (some (0, 1)) ∧
    tfagg Try.prog 76 0 = (some false) ∧
    tfld Try.prog 76 1 = (some (1, 1)) ∧
    tfagg Try.prog 76 1 = (some false) ∧
    tfld Try.prog 76 2 = (some (2, 1)) ∧
    tfagg Try.prog 76 2 = (some false) :=
  ⟨by kernel_rfl, by kernel_rfl, by kernel_rfl, by kernel_rfl, by kernel_rfl, by kernel_rfl, by kernel_rfl, by kernel_rfl, by kernel_rfl, by kernel_rfl, by kernel_rfl, by kernel_rfl, by kernel_rfl, by kernel_rfl, by kernel_rfl, by kernel_rfl, by kernel_rfl, by kernel_rfl⟩
theorem ty78 : tagg Try.prog 78 = (some true) ∧
    tsz Try.prog 78 = (some 5) ∧
    tel Try.prog 78 = none ∧
    tint Try.prog 78 = none ∧
    tstr Try.prog 78 = false ∧
    tbool Try.prog 78 = false ∧
    tarr Try.prog 78 = none ∧
    tby Try.prog 78 = (some 56) ∧
    tzero Try.prog 78 = (some [(Value.string ⟨#[]⟩), (Value.int .i64 0), (Value.string ⟨#[]⟩), (Value.int .i64 0), (Value.int .i64 0)]) ∧
    (Try.prog.underlying 78).isSome = true ∧
    tcmp Try.prog 78 = true ∧
    tflds Try.prog 78 = (some [(0, 1), (1, 1), (2, 3)]) ∧
    tfld Try.prog 78 0 = (some (0, 1)) ∧
    tfagg Try.prog 78 0 = (some false) ∧
    tfld Try.prog 78 1 = (some (1, 1)) ∧
    tfagg Try.prog 78 1 = (some false) ∧
    tfld Try.prog 78 2 = (some (2, 3)) ∧
    tfagg Try.prog 78 2 = (some true) :=
  ⟨by kernel_rfl, by kernel_rfl, by kernel_rfl, by kernel_rfl, by kernel_rfl, by kernel_rfl, by kernel_rfl, by kernel_rfl, by kernel_rfl, by kernel_rfl, by kernel_rfl, by kernel_rfl, by kernel_rfl, by kernel_rfl, by kernel_rfl, by kernel_rfl, by kernel_rfl, by kernel_rfl⟩
theorem ty84 : tagg Try.prog 84 = (some false) ∧
    tsz Try.prog 84 = (some 1) ∧
    tel Try.prog 84 = none ∧
    tint Try.prog 84 = none ∧
    tstr Try.prog 84 = false ∧
    tbool Try.prog 84 = false ∧
    tarr Try.prog 84 = none ∧
    tby Try.prog 84 = (some 8) ∧
    tzero Try.prog 84 = (some [(Value.map none)]) ∧
    (Try.prog.underlying 84).isSome = true ∧
    tcmp Try.prog 84 = false ∧
    tflds Try.prog 84 = none ∧
    tmapk Try.prog 84 = (some true) :=
  ⟨by kernel_rfl, by kernel_rfl, by kernel_rfl, by kernel_rfl, by kernel_rfl, by kernel_rfl, by kernel_rfl, by kernel_rfl, by kernel_rfl, by kernel_rfl, by kernel_rfl, by kernel_rfl, by kernel_rfl⟩
theorem ty86 : tagg Try.prog 86 = (some true) ∧
    tsz Try.prog 86 = (some 2) ∧
    tel Try.prog 86 = none ∧
    tint Try.prog 86 = none ∧
    tstr Try.prog 86 = false ∧
    tbool Try.prog 86 = false ∧
    tarr Try.prog 86 = (some (2, 9)) ∧
    tby Try.prog 86 = (some 32) ∧
    tzero Try.prog 86 = (some [(Value.string ⟨#[]⟩), (Value.string ⟨#[]⟩)]) ∧
    (Try.prog.underlying 86).isSome = true ∧
    tcmp Try.prog 86 = true ∧
    tflds Try.prog 86 = none :=
  ⟨by kernel_rfl, by kernel_rfl, by kernel_rfl, by kernel_rfl, by kernel_rfl, by kernel_rfl, by kernel_rfl, by kernel_rfl, by kernel_rfl, by kernel_rfl, by kernel_rfl, by kernel_rfl⟩
theorem ty100 : tagg Try.prog 100 = (some false) ∧
    tsz Try.prog 100 = (some 1) ∧
    tel Try.prog 100 = none ∧
    tint Try.prog 100 = (some .u64) ∧
    tstr Try.prog 100 = false ∧
    tbool Try.prog 100 = false ∧
    tarr Try.prog 100 = none ∧
    tby Try.prog 100 = (some 8) ∧
    tzero Try.prog 100 = (some [(Value.int .u64 0)]) ∧
    (Try.prog.underlying 100).isSome = true ∧
    tcmp Try.prog 100 = false ∧
    tflds Try.prog 100 = none :=
  ⟨by kernel_rfl, by kernel_rfl, by kernel_rfl, by kernel_rfl, by kernel_rfl, by kernel_rfl, by kernel_rfl, by kernel_rfl, by kernel_rfl, by kernel_rfl, by kernel_rfl, by kernel_rfl⟩
theorem mt62 : MapT Try.prog 62 false := mapT_int (kt := 3) (et := 4) (by kernel_rfl) (by kernel_rfl) (by kernel_rfl)
theorem mt84 : MapT Try.prog 84 true := mapT_s2 (kt := 86) (et := 4) (st := 9) (by kernel_rfl) (by kernel_rfl) (by kernel_rfl) (by kernel_rfl) (by kernel_rfl) (by kernel_rfl) (by kernel_rfl)
end Go.Proofs.Yteaojhieghakfaa
