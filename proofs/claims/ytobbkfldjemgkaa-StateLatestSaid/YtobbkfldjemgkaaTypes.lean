/- Facts on the types of the program. -/
import Derived.Test.YtobbkfldjemgkaaEngC
import Derived.Test.YtobbkfldjemgkaaEngM
import Derived.Test.YtobbkfldjemgkaaProg
namespace Go.Proofs.Ytobbkfldjemgkaa
open Go.RowKit
set_option linter.unusedSimpArgs false
set_option linter.unusedVariables false
set_option maxRecDepth 100000
theorem ty3 : tagg Try.prog 3 = (some false) ∧
    tsz Try.prog 3 = (some 1) ∧
    tel Try.prog 3 = none ∧
    tint Try.prog 3 = (some .i64) ∧
    tstr Try.prog 3 = false ∧
    tbool Try.prog 3 = false ∧
    tarr Try.prog 3 = none ∧
    tby Try.prog 3 = (some 8) ∧
    tzero Try.prog 3 = (some [(Value.int .i64 0)]) ∧
    (Try.prog.underlying 3).isSome = true ∧
    tcmp Try.prog 3 = false ∧
    tflds Try.prog 3 = none :=
  ⟨by kernel_rfl, by kernel_rfl, by kernel_rfl, by kernel_rfl, by kernel_rfl, by kernel_rfl, by kernel_rfl, by kernel_rfl, by kernel_rfl, by kernel_rfl, by kernel_rfl, by kernel_rfl⟩
theorem ty4 : tagg Try.prog 4 = (some false) ∧
    tsz Try.prog 4 = (some 1) ∧
    tel Try.prog 4 = none ∧
    tint Try.prog 4 = none ∧
    tstr Try.prog 4 = false ∧
    tbool Try.prog 4 = true ∧
    tarr Try.prog 4 = none ∧
    tby Try.prog 4 = (some 1) ∧
    tzero Try.prog 4 = (some [(Value.bool false)]) ∧
    (Try.prog.underlying 4).isSome = true ∧
    tcmp Try.prog 4 = false ∧
    tflds Try.prog 4 = none :=
  ⟨by kernel_rfl, by kernel_rfl, by kernel_rfl, by kernel_rfl, by kernel_rfl, by kernel_rfl, by kernel_rfl, by kernel_rfl, by kernel_rfl, by kernel_rfl, by kernel_rfl, by kernel_rfl⟩
theorem ty5 : tagg Try.prog 5 = (some false) ∧
    tsz Try.prog 5 = (some 1) ∧
    tel Try.prog 5 = none ∧
    tint Try.prog 5 = (some .u8) ∧
    tstr Try.prog 5 = false ∧
    tbool Try.prog 5 = false ∧
    tarr Try.prog 5 = none ∧
    tby Try.prog 5 = (some 1) ∧
    tzero Try.prog 5 = (some [(Value.int .u8 0)]) ∧
    (Try.prog.underlying 5).isSome = true ∧
    tcmp Try.prog 5 = false ∧
    tflds Try.prog 5 = none :=
  ⟨by kernel_rfl, by kernel_rfl, by kernel_rfl, by kernel_rfl, by kernel_rfl, by kernel_rfl, by kernel_rfl, by kernel_rfl, by kernel_rfl, by kernel_rfl, by kernel_rfl, by kernel_rfl⟩
theorem ty9 : tagg Try.prog 9 = (some false) ∧
    tsz Try.prog 9 = (some 1) ∧
    tel Try.prog 9 = none ∧
    tint Try.prog 9 = none ∧
    tstr Try.prog 9 = true ∧
    tbool Try.prog 9 = false ∧
    tarr Try.prog 9 = none ∧
    tby Try.prog 9 = (some 16) ∧
    tzero Try.prog 9 = (some [(Value.string ⟨#[]⟩)]) ∧
    (Try.prog.underlying 9).isSome = true ∧
    tcmp Try.prog 9 = false ∧
    tflds Try.prog 9 = none :=
  ⟨by kernel_rfl, by kernel_rfl, by kernel_rfl, by kernel_rfl, by kernel_rfl, by kernel_rfl, by kernel_rfl, by kernel_rfl, by kernel_rfl, by kernel_rfl, by kernel_rfl, by kernel_rfl⟩
theorem ty24 : tagg Try.prog 24 = (some false) ∧
    tsz Try.prog 24 = (some 1) ∧
    tel Try.prog 24 = (some 63) ∧
    tint Try.prog 24 = none ∧
    tstr Try.prog 24 = false ∧
    tbool Try.prog 24 = false ∧
    tarr Try.prog 24 = none ∧
    tby Try.prog 24 = (some 24) ∧
    tzero Try.prog 24 = (some [(Value.slice none 0 0)]) ∧
    (Try.prog.underlying 24).isSome = true ∧
    tcmp Try.prog 24 = false ∧
    tflds Try.prog 24 = none :=
  ⟨by kernel_rfl, by kernel_rfl, by kernel_rfl, by kernel_rfl, by kernel_rfl, by kernel_rfl, by kernel_rfl, by kernel_rfl, by kernel_rfl, by kernel_rfl, by kernel_rfl, by kernel_rfl⟩
theorem ty25 : tagg Try.prog 25 = (some false) ∧
    tsz Try.prog 25 = (some 1) ∧
    tel Try.prog 25 = (some 37) ∧
    tint Try.prog 25 = none ∧
    tstr Try.prog 25 = false ∧
    tbool Try.prog 25 = false ∧
    tarr Try.prog 25 = none ∧
    tby Try.prog 25 = (some 24) ∧
    tzero Try.prog 25 = (some [(Value.slice none 0 0)]) ∧
    (Try.prog.underlying 25).isSome = true ∧
    tcmp Try.prog 25 = false ∧
    tflds Try.prog 25 = none :=
  ⟨by kernel_rfl, by kernel_rfl, by kernel_rfl, by kernel_rfl, by kernel_rfl, by kernel_rfl, by kernel_rfl, by kernel_rfl, by kernel_rfl, by kernel_rfl, by kernel_rfl, by kernel_rfl⟩
theorem ty26 : tagg Try.prog 26 = (some false) ∧
    tsz Try.prog 26 = (some 1) ∧
    tel Try.prog 26 = (some 69) ∧
    tint Try.prog 26 = none ∧
    tstr Try.prog 26 = false ∧
    tbool Try.prog 26 = false ∧
    tarr Try.prog 26 = none ∧
    tby Try.prog 26 = (some 24) ∧
    tzero Try.prog 26 = (some [(Value.slice none 0 0)]) ∧
    (Try.prog.underlying 26).isSome = true ∧
    tcmp Try.prog 26 = false ∧
    tflds Try.prog 26 = none :=
  ⟨by kernel_rfl, by kernel_rfl, by kernel_rfl, by kernel_rfl, by kernel_rfl, by kernel_rfl, by kernel_rfl, by kernel_rfl, by kernel_rfl, by kernel_rfl, by kernel_rfl, by kernel_rfl⟩
theorem ty27 : tagg Try.prog 27 = (some false) ∧
    tsz Try.prog 27 = (some 1) ∧
    tel Try.prog 27 = (some 75) ∧
    tint Try.prog 27 = none ∧
    tstr Try.prog 27 = false ∧
    tbool Try.prog 27 = false ∧
    tarr Try.prog 27 = none ∧
    tby Try.prog 27 = (some 24) ∧
    tzero Try.prog 27 = (some [(Value.slice none 0 0)]) ∧
    (Try.prog.underlying 27).isSome = true ∧
    tcmp Try.prog 27 = false ∧
    tflds Try.prog 27 = none :=
  ⟨by kernel_rfl, by kernel_rfl, by kernel_rfl, by kernel_rfl, by kernel_rfl, by kernel_rfl, by kernel_rfl, by kernel_rfl, by kernel_rfl, by kernel_rfl, by kernel_rfl, by kernel_rfl⟩
theorem ty28 : tagg Try.prog 28 = (some false) ∧
    tsz Try.prog 28 = (some 1) ∧
    tel Try.prog 28 = (some 3) ∧
    tint Try.prog 28 = none ∧
    tstr Try.prog 28 = false ∧
    tbool Try.prog 28 = false ∧
    tarr Try.prog 28 = none ∧
    tby Try.prog 28 = (some 24) ∧
    tzero Try.prog 28 = (some [(Value.slice none 0 0)]) ∧
    (Try.prog.underlying 28).isSome = true ∧
    tcmp Try.prog 28 = false ∧
    tflds Try.prog 28 = none :=
  ⟨by kernel_rfl, by kernel_rfl, by kernel_rfl, by kernel_rfl, by kernel_rfl, by kernel_rfl, by kernel_rfl, by kernel_rfl, by kernel_rfl, by kernel_rfl, by kernel_rfl, by kernel_rfl⟩
theorem ty30 : tagg Try.prog 30 = (some true) ∧
    tsz Try.prog 30 = (some 7) ∧
    tel Try.prog 30 = none ∧
    tint Try.prog 30 = none ∧
    tstr Try.prog 30 = false ∧
    tbool Try.prog 30 = false ∧
    tarr Try.prog 30 = none ∧
    tby Try.prog 30 = (some 136) ∧
    tzero Try.prog 30 = (some [(Value.int .i64 0), (Value.int .i64 0), (Value.slice none 0 0), (Value.slice none 0 0), (Value.slice none 0 0), (Value.slice none 0 0), (Value.slice none 0 0)]) ∧
    (Try.prog.underlying 30).isSome = true ∧
    tcmp Try.prog 30 = true ∧
    tflds Try.prog 30 = (some [(0, 1), (1, 1), (2, 1), (3, 1), (4, 1), (5, 1), (6, 1)]) ∧
    tfld Try.prog 30 0 = (some (0, 1)) ∧
    tfagg Try.prog 30 0 = (some false) ∧
    tfld Try.prog 30 1 = (some (1, 1)) ∧
    tfagg Try.prog 30 1 = (some false) ∧
    tfld Try.prog 30 2 = (some (2, 1)) ∧
    tfagg Try.prog 30 2 = (some false) ∧
    tfld Try.prog 30 3 = (some (3, 1)) ∧
    tfagg Try.prog 30 3 = (some false) ∧
    tfld Try.prog 30 4 = (some (4, 1)) ∧
    tfagg Try.prog 30 4 = (some false) ∧
    tfld Try.prog 30 5 = (some (5, 1)) ∧
    tfagg Try.prog 30 5 = (some false) ∧
    tfld Try.prog 30 6 = (some (6, 1)) ∧
    tfagg Try.prog 30 6 = (some false) :=
  ⟨by kernel_rfl, by kernel_rfl, by kernel_rfl, by kernel_rfl, by kernel_rfl, by kernel_rfl, by kernel_rfl, by kernel_rfl, by kernel_rfl, by kernel_rfl, by kernel_rfl, by kernel_rfl, by kernel_rfl, by kernel_rfl, by kernel_rfl, by kernel_rfl, by kernel_rfl, by kernel_rfl, by kernel_rfl, by kernel_rfl, by kernel_rfl, by kernel_rfl, by kernel_rfl, by kernel_rfl, by kernel_rfl, by kernel_rfl⟩
theorem ty31 : tagg Try.prog 31 = (some false) ∧
    tsz Try.prog 31 = (some 1) ∧
    tel Try.prog 31 = none ∧
    tint Try.prog 31 = (some .i64) ∧
    tstr Try.prog 31 = false ∧
    tbool Try.prog 31 = false ∧
    tarr Try.prog 31 = none ∧
    tby Try.prog 31 = (some 8) ∧
    tzero Try.prog 31 = (some [(Value.int .i64 0)]) ∧
    (Try.prog.underlying 31).isSome = true ∧
    tcmp Try.prog 31 = false ∧
    tflds Try.prog 31 = none :=
  ⟨by kernel_rfl, by kernel_rfl, by kernel_rfl, by kernel_rfl, by kernel_rfl, by kernel_rfl, by kernel_rfl, by kernel_rfl, by kernel_rfl, by kernel_rfl, by kernel_rfl, by kernel_rfl⟩
theorem ty37 : tagg Try.prog 37 = (some true) ∧
    tsz Try.prog 37 = (some 12) ∧
    tel Try.prog 37 = none ∧
    tint Try.prog 37 = none ∧
    tstr Try.prog 37 = false ∧
    tbool Try.prog 37 = false ∧
    tarr Try.prog 37 = none ∧
    tby Try.prog 37 = (some 120) ∧
    tzero Try.prog 37 = (some [(Value.int .i64 0), (Value.string ⟨#[]⟩), (Value.string ⟨#[]⟩), (Value.bool false), (Value.bool false), (Value.int .i64 0), (Value.int .i64 0), (Value.int .i64 0), (Value.slice none 0 0), (Value.int .i64 0), (Value.int .i64 0), (Value.int .i64 0)]) ∧
    (Try.prog.underlying 37).isSome = true ∧
    tcmp Try.prog 37 = true ∧
    tflds Try.prog 37 = (some [(0, 1), (1, 1), (2, 1), (3, 1), (4, 1), (5, 1), (6, 1), (7, 1), (8, 1), (9, 1), (10, 1), (11, 1)]) ∧
    tfld Try.prog 37 0 = (some (0, 1)) ∧
    tfagg Try.prog 37 0 = (some false) ∧
    tfld Try.prog 37 1 = (some (1, 1)) ∧
    tfagg Try.prog 37 1 = (some false) ∧
    tfld Try.prog 37 2 = (some (2, 1)) ∧
    tfagg Try.prog 37 2 = (some false) ∧
    tfld Try.prog 37 3 = (some (3, 1)) ∧
    tfagg Try.prog 37 3 = (some false) ∧
    tfld Try.prog 37 4 = (some (4, 1)) ∧
    tfagg Try.prog 37 4 = (some false) ∧
    tfld Try.prog 37 5 = (some (5, 1)) ∧
    tfagg Try.prog 37 5 = (some false) ∧
    tfld Try.prog 37 6 = (some (6, 1)) ∧
    tfagg Try.prog 37 6 = (some false) ∧
    tfld Try.prog 37 7 = (some (7, 1)) ∧
    tfagg Try.prog 37 7 = (some false) ∧
    tfld Try.prog 37 8 = (some (8, 1)) ∧
    tfagg Try.prog 37 8 = (some false) ∧
    tfld Try.prog 37 9 = (some (9, 1)) ∧
    tfagg Try.prog 37 9 = (some false) ∧
    tfld Try.prog 37 10 = (some (10, 1)) ∧
    tfagg Try.prog 37 10 = (some false) ∧
    tfld Try.prog 37 11 = (some (11, 1)) ∧
    tfagg Try.prog 37 11 = (some false) :=
  ⟨by kernel_rfl, by kernel_rfl, by kernel_rfl, by kernel_rfl, by kernel_rfl, by kernel_rfl, by kernel_rfl, by kernel_rfl, by kernel_rfl, by kernel_rfl, by kernel_rfl, by kernel_rfl, by kernel_rfl, by kernel_rfl, by kernel_rfl, by kernel_rfl, by kernel_rfl, by kernel_rfl, by kernel_rfl, by kernel_rfl, by kernel_rfl, by kernel_rfl, by kernel_rfl, by kernel_rfl, by kernel_rfl, by kernel_rfl, by kernel_rfl, by kernel_rfl, by kernel_rfl, by kernel_rfl, by kernel_rfl, by kernel_rfl, by kernel_rfl, by kernel_rfl, by kernel_rfl, by kernel_rfl⟩
theorem ty55 : tagg Try.prog 55 = (some false) ∧
    tsz Try.prog 55 = (some 1) ∧
    tel Try.prog 55 = none ∧
    tint Try.prog 55 = none ∧
    tstr Try.prog 55 = false ∧
    tbool Try.prog 55 = false ∧
    tarr Try.prog 55 = none ∧
    tby Try.prog 55 = (some 8) ∧
    tzero Try.prog 55 = (some [(Value.map none)]) ∧
    (Try.prog.underlying 55).isSome = true ∧
    tcmp Try.prog 55 = false ∧
    tflds Try.prog 55 = none ∧
    tmapk Try.prog 55 = (some false) :=
  ⟨by kernel_rfl, by kernel_rfl, by kernel_rfl, by kernel_rfl, by kernel_rfl, by kernel_rfl, by kernel_rfl, by kernel_rfl, by kernel_rfl, by kernel_rfl, by kernel_rfl, by kernel_rfl, by kernel_rfl⟩
theorem ty61 : tagg Try.prog 61 = (some true) ∧
    tsz Try.prog 61 = (some 3) ∧
    tel Try.prog 61 = none ∧
    tint Try.prog 61 = none ∧
    tstr Try.prog 61 = false ∧
    tbool Try.prog 61 = false ∧
    tarr Try.prog 61 = none ∧
    tby Try.prog 61 = (some 32) ∧
    tzero Try.prog 61 = (some [(Value.string ⟨#[]⟩), (Value.int .i64 0), (Value.int .i64 0)]) ∧
    (Try.prog.underlying 61).isSome = true ∧
    tcmp Try.prog 61 = true ∧
    tflds Try.prog 61 = (some [(0, 1), (1, 1), (2, 1)]) ∧
    tfld Try.prog 61 0 = (some (0, 1)) ∧
    tfagg Try.prog 61 0 = (some false) ∧
    tfld Try.prog 61 1 = (some (1, 1)) ∧
    tfagg Try.prog 61 1 = (some false) ∧
    tfld Try.prog 61 2 = (some (2, 1)) ∧
    tfagg Try.prog 61 2 = (some false) :=
  ⟨by kernel_rfl, by kernel_rfl, by kernel_rfl, by kernel_rfl, by kernel_rfl, by kernel_rfl, by kernel_rfl, by kernel_rfl, by kernel_rfl, by kernel_rfl, by kernel_rfl, by kernel_rfl, by kernel_rfl, by kernel_rfl, by kernel_rfl, by kernel_rfl, by kernel_rfl, by kernel_rfl⟩
theorem ty63 : tagg Try.prog 63 = (some true) ∧
    tsz Try.prog 63 = (some 5) ∧
    tel Try.prog 63 = none ∧
    tint Try.prog 63 = none ∧
    tstr Try.prog 63 = false ∧
    tbool Try.prog 63 = false ∧
    tarr Try.prog 63 = none ∧
    tby Try.prog 63 = (some 56) ∧
    tzero Try.prog 63 = (some [(Value.string ⟨#[]⟩), (Value.int .i64 0), (Value.string ⟨#[]⟩), (Value.int .i64 0), (Value.int .i64 0)]) ∧
    (Try.prog.underlying 63).isSome = true ∧
    tcmp Try.prog 63 = true ∧
    tflds Try.prog 63 = (some [(0, 1), (1, 1), (2, 3)]) ∧
    tfld Try.prog 63 0 = (some (0, 1)) ∧
    tfagg Try.prog 63 0 = (some false) ∧
    tfld Try.prog 63 1 = (some (1, 1)) ∧
    tfagg Try.prog 63 1 = (some false) ∧
    tfld Try.prog 63 2 = (some (2, 3)) ∧
    tfagg Try.prog 63 2 = (some true) :=
  ⟨by kernel_rfl, by kernel_rfl, by kernel_rfl, by kernel_rfl, by kernel_rfl, by kernel_rfl, by kernel_rfl, by kernel_rfl, by kernel_rfl, by kernel_rfl, by kernel_rfl, by kernel_rfl, by kernel_rfl, by kernel_rfl, by kernel_rfl, by kernel_rfl, by kernel_rfl, by kernel_rfl⟩
theorem ty67 : tagg Try.prog 67 = (some false) ∧
    tsz Try.prog 67 = (some 1) ∧
    tel Try.prog 67 = (some 72) ∧
    tint Try.prog 67 = none ∧
    tstr Try.prog 67 = false ∧
    tbool Try.prog 67 = false ∧
    tarr Try.prog 67 = none ∧
    tby Try.prog 67 = (some 24) ∧
    tzero Try.prog 67 = (some [(Value.slice none 0 0)]) ∧
    (Try.prog.underlying 67).isSome = true ∧
    tcmp Try.prog 67 = false ∧
    tflds Try.prog 67 = none :=
  ⟨by kernel_rfl, by kernel_rfl, by kernel_rfl, by kernel_rfl, by kernel_rfl, by kernel_rfl, by kernel_rfl, by kernel_rfl, by kernel_rfl, by kernel_rfl, by kernel_rfl, by kernel_rfl⟩
theorem ty69 : tagg Try.prog 69 = (some true) ∧
    tsz Try.prog 69 = (some 4) ∧
    tel Try.prog 69 = none ∧
    tint Try.prog 69 = none ∧
    tstr Try.prog 69 = false ∧
    tbool Try.prog 69 = false ∧
    tarr Try.prog 69 = none ∧
    tby Try.prog 69 = (some 64) ∧
    tzero Try.prog 69 = (some [(Value.int .i64 0), (Value.string ⟨#[]⟩), (Value.string ⟨#[]⟩), (Value.slice none 0 0)]) ∧
    (Try.prog.underlying 69).isSome = true ∧
    tcmp Try.prog 69 = true ∧
    tflds Try.prog 69 = (some [(0, 1), (1, 1), (2, 1), (3, 1)]) ∧
    tfld Try.prog 69 0 = (some (0, 1)) ∧
    tfagg Try.prog 69 0 = (some false) ∧
    tfld Try.prog 69 1 = (some (1, 1)) ∧
    tfagg Try.prog 69 1 = (some false) ∧
    tfld Try.prog 69 2 = (some (2, 1)) ∧
    tfagg Try.prog 69 2 = (some false) ∧
    tfld Try.prog 69 3 = (some (3, 1)) ∧
    tfagg Try.prog 69 3 = (some false) :=
  ⟨by kernel_rfl, by kernel_rfl, by kernel_rfl, by kernel_rfl, by kernel_rfl, by kernel_rfl, by kernel_rfl, by kernel_rfl, by kernel_rfl, by kernel_rfl, by kernel_rfl, by kernel_rfl, by kernel_rfl, by kernel_rfl, by kernel_rfl, by kernel_rfl, by kernel_rfl, by kernel_rfl, by kernel_rfl, by kernel_rfl⟩
theorem ty72 : tagg Try.prog 72 = (some true) ∧
    tsz Try.prog 72 = (some 3) ∧
    tel Try.prog 72 = none ∧
    tint Try.prog 72 = none ∧
    tstr Try.prog 72 = false ∧
    tbool Try.prog 72 = false ∧
    tarr Try.prog 72 = none ∧
    tby Try.prog 72 = (some 40) ∧
    tzero Try.prog 72 = (some [(Value.int .i64 0), (Value.int .i64 0), (Value.slice none 0 0)]) ∧
    (Try.prog.underlying 72).isSome = true ∧
    tcmp Try.prog 72 = true ∧
    tflds Try.prog 72 = (some [(0, 1), (1, 1), (2, 1)]) ∧
    tfld Try.prog 72 0 = (some (0, 1)) ∧
    tfagg Try.prog 72 0 = (some false) ∧
    tfld Try.prog 72 1 = (some (1, 1)) ∧
    tfagg Try.prog 72 1 = (some false) ∧
    tfld Try.prog 72 2 = (some (2, 1)) ∧
    tfagg Try.prog 72 2 = (some false) :=
  ⟨by kernel_rfl, by kernel_rfl, by kernel_rfl, by kernel_rfl, by kernel_rfl, by kernel_rfl, by kernel_rfl, by kernel_rfl, by kernel_rfl, by kernel_rfl, by kernel_rfl, by kernel_rfl, by kernel_rfl, by kernel_rfl, by kernel_rfl, by kernel_rfl, by kernel_rfl, by kernel_rfl⟩
theorem ty75 : tagg Try.prog 75 = (some true) ∧
    tsz Try.prog 75 = (some 3) ∧
    tel Try.prog 75 = none ∧
    tint Try.prog 75 = none ∧
    tstr Try.prog 75 = false ∧
    tbool Try.prog 75 = false ∧
    tarr Try.prog 75 = none ∧
    tby Try.prog 75 = (some 24) ∧
    tzero Try.prog 75 = (some [(Value.int .i64 0), (Value.int .i64 0), (Value.int .i64 0)]) ∧
    (Try.prog.underlying 75).isSome = true ∧
    tcmp Try.prog 75 = true ∧
    tflds Try.prog 75 = (some [(0, 1), (1, 1), (2, 1)]) ∧
    tfld Try.prog 75 0 = (some (0, 1)) ∧
    tfagg Try.prog 75 0 = (some false) ∧
    tfld Try.prog 75 1 = (some (1, 1)) ∧
    tfagg Try.prog 75 1 = (some false) ∧
    tfld Try.prog 75 2 = (some (2, 1)) ∧
    tfagg Try.prog 75 2 = (some false) :=
  ⟨by kernel_rfl, by kernel_rfl, by kernel_rfl, by kernel_rfl, by kernel_rfl, by kernel_rfl, by kernel_rfl, by kernel_rfl, by kernel_rfl, by kernel_rfl, by kernel_rfl, by kernel_rfl, by kernel_rfl, by kernel_rfl, by kernel_rfl, by kernel_rfl, by kernel_rfl, by kernel_rfl⟩
theorem ty79 : tagg Try.prog 79 = (some false) ∧
    tsz Try.prog 79 = (some 1) ∧
    tel Try.prog 79 = none ∧
    tint Try.prog 79 = none ∧
    tstr Try.prog 79 = false ∧
    tbool Try.prog 79 = false ∧
    tarr Try.prog 79 = none ∧
    tby Try.prog 79 = (some 8) ∧
    tzero Try.prog 79 = (some [(Value.map none)]) ∧
    (Try.prog.underlying 79).isSome = true ∧
    tcmp Try.prog 79 = false ∧
    tflds Try.prog 79 = none ∧
    tmapk Try.prog 79 = (some true) :=
  ⟨by kernel_rfl, by kernel_rfl, by kernel_rfl, by kernel_rfl, by kernel_rfl, by kernel_rfl, by kernel_rfl, by kernel_rfl, by kernel_rfl, by kernel_rfl, by kernel_rfl, by kernel_rfl, by kernel_rfl⟩
theorem ty81 : tagg Try.prog 81 = (some true) ∧
    tsz Try.prog 81 = (some 2) ∧
    tel Try.prog 81 = none ∧
    tint Try.prog 81 = none ∧
    tstr Try.prog 81 = false ∧
    tbool Try.prog 81 = false ∧
    tarr Try.prog 81 = (some (2, 9)) ∧
    tby Try.prog 81 = (some 32) ∧
    tzero Try.prog 81 = (some [(Value.string ⟨#[]⟩), (Value.string ⟨#[]⟩)]) ∧
    (Try.prog.underlying 81).isSome = true ∧
    tcmp Try.prog 81 = true ∧
    tflds Try.prog 81 = none :=
  ⟨by kernel_rfl, by kernel_rfl, by kernel_rfl, by kernel_rfl, by kernel_rfl, by kernel_rfl, by kernel_rfl, by kernel_rfl, by kernel_rfl, by kernel_rfl, by kernel_rfl, by kernel_rfl⟩
theorem ty96 : tagg Try.prog 96 = (some false) ∧
    tsz Try.prog 96 = (some 1) ∧
    tel Try.prog 96 = none ∧
    tint Try.prog 96 = (some .u64) ∧
    tstr Try.prog 96 = false ∧
    tbool Try.prog 96 = false ∧
    tarr Try.prog 96 = none ∧
    tby Try.prog 96 = (some 8) ∧
    tzero Try.prog 96 = (some [(Value.int .u64 0)]) ∧
    (Try.prog.underlying 96).isSome = true ∧
    tcmp Try.prog 96 = false ∧
    tflds Try.prog 96 = none :=
  ⟨by kernel_rfl, by kernel_rfl, by kernel_rfl, by kernel_rfl, by kernel_rfl, by kernel_rfl, by kernel_rfl, by kernel_rfl, by kernel_rfl, by kernel_rfl, by kernel_rfl, by kernel_rfl⟩
theorem mt55 : MapT Try.prog 55 false := mapT_int (kt := 3) (et := 4) (by kernel_rfl) (by kernel_rfl) (by kernel_rfl)
theorem mt79 : MapT Try.prog 79 true := mapT_s2 (kt := 81) (et := 4) (st := 9) (by kernel_rfl) (by kernel_rfl) (by kernel_rfl) (by kernel_rfl) (by kernel_rfl) (by kernel_rfl) (by kernel_rfl)
end Go.Proofs.Ytobbkfldjemgkaa
