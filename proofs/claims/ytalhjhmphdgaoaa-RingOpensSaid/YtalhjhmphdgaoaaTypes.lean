/- Facts on the types of the program. -/
import Derived.Test.YtalhjhmphdgaoaaEngC
import Derived.Test.YtalhjhmphdgaoaaProg
namespace Go.Proofs.Ytalhjhmphdgaoaa
open Go.RowKit
set_option linter.unusedSimpArgs false
set_option linter.unusedVariables false
set_option maxRecDepth 100000
theorem ty3 : tagg Try.prog 3 = (some false) ∧
    tsz Try.prog 3 = (some 1) ∧
    tel Try.prog 3 = none ∧
    tint Try.prog 3 = (some .i64) ∧
    tstr Try.prog 3 = false ∧
    tbool Try.prog 3 = false ∧
    tarr Try.prog 3 = none ∧
    tby Try.prog 3 = (some 8) ∧
    tzero Try.prog 3 = (some [(Value.int .i64 0)]) ∧
    (Try.prog.underlying 3).isSome = true ∧
    tcmp Try.prog 3 = false ∧
    tflds Try.prog 3 = none :=
  ⟨by kernel_rfl, by kernel_rfl, by kernel_rfl, by kernel_rfl, by kernel_rfl, by kernel_rfl, by kernel_rfl, by kernel_rfl, by kernel_rfl, by kernel_rfl, by kernel_rfl, by kernel_rfl⟩
theorem ty4 : tagg Try.prog 4 = (some false) ∧
    tsz Try.prog 4 = (some 1) ∧
    tel Try.prog 4 = none ∧
    tint Try.prog 4 = none ∧
    tstr Try.prog 4 = false ∧
    tbool Try.prog 4 = true ∧
    tarr Try.prog 4 = none ∧
    tby Try.prog 4 = (some 1) ∧
    tzero Try.prog 4 = (some [(Value.bool false)]) ∧
    (Try.prog.underlying 4).isSome = true ∧
    tcmp Try.prog 4 = false ∧
    tflds Try.prog 4 = none :=
  ⟨by kernel_rfl, by kernel_rfl, by kernel_rfl, by kernel_rfl, by kernel_rfl, by kernel_rfl, by kernel_rfl, by kernel_rfl, by kernel_rfl, by kernel_rfl, by kernel_rfl, by kernel_rfl⟩
theorem ty5 : tagg Try.prog 5 = (some false) ∧
    tsz Try.prog 5 = (some 1) ∧
    tel Try.prog 5 = none ∧
    tint Try.prog 5 = (some .u8) ∧
    tstr Try.prog 5 = false ∧
    tbool Try.prog 5 = false ∧
    tarr Try.prog 5 = none ∧
    tby Try.prog 5 = (some 1) ∧
    tzero Try.prog 5 = (some [(Value.int .u8 0)]) ∧
    (Try.prog.underlying 5).isSome = true ∧
    tcmp Try.prog 5 = false ∧
    tflds Try.prog 5 = none :=
  ⟨by kernel_rfl, by kernel_rfl, by kernel_rfl, by kernel_rfl, by kernel_rfl, by kernel_rfl, by kernel_rfl, by kernel_rfl, by kernel_rfl, by kernel_rfl, by kernel_rfl, by kernel_rfl⟩
theorem ty9 : tagg Try.prog 9 = (some false) ∧
    tsz Try.prog 9 = (some 1) ∧
    tel Try.prog 9 = none ∧
    tint Try.prog 9 = none ∧
    tstr Try.prog 9 = true ∧
    tbool Try.prog 9 = false ∧
    tarr Try.prog 9 = none ∧
    tby Try.prog 9 = (some 16) ∧
    tzero Try.prog 9 = (some [(Value.string ⟨#[]⟩)]) ∧
    (Try.prog.underlying 9).isSome = true ∧
    tcmp Try.prog 9 = false ∧
    tflds Try.prog 9 = none :=
  ⟨by kernel_rfl, by kernel_rfl, by kernel_rfl, by kernel_rfl, by kernel_rfl, by kernel_rfl, by kernel_rfl, by kernel_rfl, by kernel_rfl, by kernel_rfl, by kernel_rfl, by kernel_rfl⟩
theorem ty23 : tagg Try.prog 23 = (some true) ∧
    tsz Try.prog 23 = (some 5) ∧
    tel Try.prog 23 = none ∧
    tint Try.prog 23 = none ∧
    tstr Try.prog 23 = false ∧
    tbool Try.prog 23 = false ∧
    tarr Try.prog 23 = none ∧
    tby Try.prog 23 = (some 40) ∧
    tzero Try.prog 23 = (some [(Value.int .i64 0), (Value.int .i64 0), (Value.int .i64 0), (Value.int .i64 0), (Value.int .i64 0)]) ∧
    (Try.prog.underlying 23).isSome = true ∧
    tcmp Try.prog 23 = true ∧
    tflds Try.prog 23 = (some [(0, 1), (1, 1), (2, 1), (3, 1), (4, 1)]) ∧
    tfld Try.prog 23 0 = (some (0, 1)) ∧
    tfagg Try.prog 23 0 = (some false) ∧
    tfld Try.prog 23 1 = (some (1, 1)) ∧
    tfagg Try.prog 23 1 = (some false) ∧
    tfld Try.prog 23 2 = (some (2, 1)) ∧
    tfagg Try.prog 23 2 = (some false) ∧
    tfld Try.prog 23 3 = (some (3, 1)) ∧
    tfagg Try.prog 23 3 = (some false) ∧
    tfld Try.prog 23 4 = (some (4, 1)) ∧
    tfagg Try.prog 23 4 = (some false) :=
  ⟨by kernel_rfl, by kernel_rfl, by kernel_rfl, by kernel_rfl, by kernel_rfl, by kernel_rfl, by kernel_rfl, by kernel_rfl, by kernel_rfl, by kernel_rfl, by kernel_rfl, by kernel_rfl, by kernel_rfl, by kernel_rfl, by kernel_rfl, by kernel_rfl, by kernel_rfl, by kernel_rfl, by kernel_rfl, by kernel_rfl, by kernel_rfl, by kernel_rfl⟩
theorem ty24 : tagg Try.prog 24 = (some false) ∧
    tsz Try.prog 24 = (some 1) ∧
    tel Try.prog 24 = (some 29) ∧
    tint Try.prog 24 = none ∧
    tstr Try.prog 24 = false ∧
    tbool Try.prog 24 = false ∧
    tarr Try.prog 24 = none ∧
    tby Try.prog 24 = (some 24) ∧
    tzero Try.prog 24 = (some [(Value.slice none 0 0)]) ∧
    (Try.prog.underlying 24).isSome = true ∧
    tcmp Try.prog 24 = false ∧
    tflds Try.prog 24 = none :=
  ⟨by kernel_rfl, by kernel_rfl, by kernel_rfl, by kernel_rfl, by kernel_rfl, by kernel_rfl, by kernel_rfl, by kernel_rfl, by kernel_rfl, by kernel_rfl, by kernel_rfl, by kernel_rfl⟩
theorem ty25 : tagg Try.prog 25 = (some false) ∧
    tsz Try.prog 25 = (some 1) ∧
    tel Try.prog 25 = (some 55) ∧
    tint Try.prog 25 = none ∧
    tstr Try.prog 25 = false ∧
    tbool Try.prog 25 = false ∧
    tarr Try.prog 25 = none ∧
    tby Try.prog 25 = (some 24) ∧
    tzero Try.prog 25 = (some [(Value.slice none 0 0)]) ∧
    (Try.prog.underlying 25).isSome = true ∧
    tcmp Try.prog 25 = false ∧
    tflds Try.prog 25 = none :=
  ⟨by kernel_rfl, by kernel_rfl, by kernel_rfl, by kernel_rfl, by kernel_rfl, by kernel_rfl, by kernel_rfl, by kernel_rfl, by kernel_rfl, by kernel_rfl, by kernel_rfl, by kernel_rfl⟩
theorem ty26 : tagg Try.prog 26 = (some false) ∧
    tsz Try.prog 26 = (some 1) ∧
    tel Try.prog 26 = (some 59) ∧
    tint Try.prog 26 = none ∧
    tstr Try.prog 26 = false ∧
    tbool Try.prog 26 = false ∧
    tarr Try.prog 26 = none ∧
    tby Try.prog 26 = (some 24) ∧
    tzero Try.prog 26 = (some [(Value.slice none 0 0)]) ∧
    (Try.prog.underlying 26).isSome = true ∧
    tcmp Try.prog 26 = false ∧
    tflds Try.prog 26 = none :=
  ⟨by kernel_rfl, by kernel_rfl, by kernel_rfl, by kernel_rfl, by kernel_rfl, by kernel_rfl, by kernel_rfl, by kernel_rfl, by kernel_rfl, by kernel_rfl, by kernel_rfl, by kernel_rfl⟩
theorem ty28 : tagg Try.prog 28 = (some true) ∧
    tsz Try.prog 28 = (some 4) ∧
    tel Try.prog 28 = none ∧
    tint Try.prog 28 = none ∧
    tstr Try.prog 28 = false ∧
    tbool Try.prog 28 = false ∧
    tarr Try.prog 28 = none ∧
    tby Try.prog 28 = (some 80) ∧
    tzero Try.prog 28 = (some [(Value.slice none 0 0), (Value.slice none 0 0), (Value.slice none 0 0), (Value.int .i64 0)]) ∧
    (Try.prog.underlying 28).isSome = true ∧
    tcmp Try.prog 28 = true ∧
    tflds Try.prog 28 = (some [(0, 1), (1, 1), (2, 1), (3, 1)]) ∧
    tfld Try.prog 28 0 = (some (0, 1)) ∧
    tfagg Try.prog 28 0 = (some false) ∧
    tfld Try.prog 28 1 = (some (1, 1)) ∧
    tfagg Try.prog 28 1 = (some false) ∧
    tfld Try.prog 28 2 = (some (2, 1)) ∧
    tfagg Try.prog 28 2 = (some false) ∧
    tfld Try.prog 28 3 = (some (3, 1)) ∧
    tfagg Try.prog 28 3 = (some false) :=
  ⟨by kernel_rfl, by kernel_rfl, by kernel_rfl, by kernel_rfl, by kernel_rfl, by kernel_rfl, by kernel_rfl, by kernel_rfl, by kernel_rfl, by kernel_rfl, by kernel_rfl, by kernel_rfl, by kernel_rfl, by kernel_rfl, by kernel_rfl, by kernel_rfl, by kernel_rfl, by kernel_rfl, by kernel_rfl, by kernel_rfl⟩
theorem ty29 : tagg Try.prog 29 = (some false) ∧
    tsz Try.prog 29 = (some 1) ∧
    tel Try.prog 29 = (some 5) ∧
    tint Try.prog 29 = none ∧
    tstr Try.prog 29 = false ∧
    tbool Try.prog 29 = false ∧
    tarr Try.prog 29 = none ∧
    tby Try.prog 29 = (some 24) ∧
    tzero Try.prog 29 = (some [(Value.slice none 0 0)]) ∧
    (Try.prog.underlying 29).isSome = true ∧
    tcmp Try.prog 29 = false ∧
    tflds Try.prog 29 = none :=
  ⟨by kernel_rfl, by kernel_rfl, by kernel_rfl, by kernel_rfl, by kernel_rfl, by kernel_rfl, by kernel_rfl, by kernel_rfl, by kernel_rfl, by kernel_rfl, by kernel_rfl, by kernel_rfl⟩
theorem ty30 : tagg Try.prog 30 = (some false) ∧
    tsz Try.prog 30 = (some 1) ∧
    tel Try.prog 30 = none ∧
    tint Try.prog 30 = (some .i64) ∧
    tstr Try.prog 30 = false ∧
    tbool Try.prog 30 = false ∧
    tarr Try.prog 30 = none ∧
    tby Try.prog 30 = (some 8) ∧
    tzero Try.prog 30 = (some [(Value.int .i64 0)]) ∧
    (Try.prog.underlying 30).isSome = true ∧
    tcmp Try.prog 30 = false ∧
    tflds Try.prog 30 = none :=
  ⟨by kernel_rfl, by kernel_rfl, by kernel_rfl, by kernel_rfl, by kernel_rfl, by kernel_rfl, by kernel_rfl, by kernel_rfl, by kernel_rfl, by kernel_rfl, by kernel_rfl, by kernel_rfl⟩
theorem ty45 : tagg Try.prog 45 = (some true) ∧
    tsz Try.prog 45 = (some 9) ∧
    tel Try.prog 45 = none ∧
    tint Try.prog 45 = none ∧
    tstr Try.prog 45 = false ∧
    tbool Try.prog 45 = false ∧
    tarr Try.prog 45 = none ∧
    tby Try.prog 45 = (some 72) ∧
    tzero Try.prog 45 = (some [(Value.int .i64 0), (Value.int .i64 0), (Value.int .i64 0), (Value.int .i64 0), (Value.int .i64 0), (Value.int .i64 0), (Value.int .i64 0), (Value.int .i64 0), (Value.int .i64 0)]) ∧
    (Try.prog.underlying 45).isSome = true ∧
    tcmp Try.prog 45 = true ∧
    tflds Try.prog 45 = (some [(0, 1), (1, 1), (2, 1), (3, 1), (4, 1), (5, 1), (6, 1), (7, 1), (8, 1)]) ∧
    tfld Try.prog 45 0 = (some (0, 1)) ∧
    tfagg Try.prog 45 0 = (some false) ∧
    tfld Try.prog 45 1 = (some (1, 1)) ∧
    tfagg Try.prog 45 1 = (some false) ∧
    tfld Try.prog 45 2 = (some (2, 1)) ∧
    tfagg Try.prog 45 2 = (some false) ∧
    tfld Try.prog 45 3 = (some (3, 1)) ∧
    tfagg Try.prog 45 3 = (some false) ∧
    tfld Try.prog 45 4 = (some (4, 1)) ∧
    tfagg Try.prog 45 4 = (some false) ∧
    tfld Try.prog 45 5 = (some (5, 1)) ∧
    tfagg Try.prog 45 5 = (some false) ∧
    tfld Try.prog 45 6 = (some (6, 1)) ∧
    tfagg Try.prog 45 6 = (some false) ∧
    tfld Try.prog 45 7 = (some (7, 1)) ∧
    tfagg Try.prog 45 7 = (some false) ∧
    tfld Try.prog 45 8 = (some (8, 1)) ∧
    tfagg Try.prog 45 8 = (some false) :=
  ⟨by kernel_rfl, by kernel_rfl, by kernel_rfl, by kernel_rfl, by kernel_rfl, by kernel_rfl, by kernel_rfl, by kernel_rfl, by kernel_rfl, by kernel_rfl, by kernel_rfl, by kernel_rfl, by kernel_rfl, by kernel_rfl, by kernel_rfl, by kernel_rfl, by kernel_rfl, by kernel_rfl, by kernel_rfl, by kernel_rfl, by kernel_rfl, by kernel_rfl, by kernel_rfl, by kernel_rfl, by kernel_rfl, by kernel_rfl, by kernel_rfl, by kernel_rfl, by kernel_rfl, by kernel_rfl⟩
theorem ty55 : tagg Try.prog 55 = (some true) ∧
    tsz Try.prog 55 = (some 2) ∧
    tel Try.prog 55 = none ∧
    tint Try.prog 55 = none ∧
    tstr Try.prog 55 = false ∧
    tbool Try.prog 55 = false ∧
    tarr Try.prog 55 = none ∧
    tby Try.prog 55 = (some 32) ∧
    tzero Try.prog 55 = (some [(Value.int .i64 0), (Value.slice none 0 0)]) ∧
    (Try.prog.underlying 55).isSome = true ∧
    tcmp Try.prog 55 = true ∧
    tflds Try.prog 55 = (some [(0, 1), (1, 1)]) ∧
    tfld Try.prog 55 0 = (some (0, 1)) ∧
    tfagg Try.prog 55 0 = (some false) ∧
    tfld Try.prog 55 1 = (some (1, 1)) ∧
    tfagg Try.prog 55 1 = (some false) :=
  ⟨by kernel_rfl, by kernel_rfl, by kernel_rfl, by kernel_rfl, by kernel_rfl, by kernel_rfl, by kernel_rfl, by kernel_rfl, by kernel_rfl, by kernel_rfl, by kernel_rfl, by kernel_rfl, by kernel_rfl, by kernel_rfl, by kernel_rfl, by kernel_rfl⟩
theorem ty59 : tagg Try.prog 59 = (some true) ∧
    tsz Try.prog 59 = (some 3) ∧
    tel Try.prog 59 = none ∧
    tint Try.prog 59 = none ∧
    tstr Try.prog 59 = false ∧
    tbool Try.prog 59 = false ∧
    tarr Try.prog 59 = none ∧
    tby Try.prog 59 = (some 40) ∧
    tzero Try.prog 59 = (some [(Value.slice none 0 0), (Value.int .i64 0), (Value.bool false)]) ∧
    (Try.prog.underlying 59).isSome = true ∧
    tcmp Try.prog 59 = true ∧
    tflds Try.prog 59 = (some [(0, 1), (1, 1), (2, 1)]) ∧
    tfld Try.prog 59 0 = (some (0, 1)) ∧
    tfagg Try.prog 59 0 = (some false) ∧
    tfld Try.prog 59 1 = (some (1, 1)) ∧
    tfagg Try.prog 59 1 = (some false) ∧
    tfld Try.prog 59 2 = (some (2, 1)) ∧
    tfagg Try.prog 59 2 = (some false) :=
  ⟨by kernel_rfl, by kernel_rfl, by kernel_rfl, by kernel_rfl, by kernel_rfl, by kernel_rfl, by kernel_rfl, by kernel_rfl, by kernel_rfl, by kernel_rfl, by kernel_rfl, by kernel_rfl, by kernel_rfl, by kernel_rfl, by kernel_rfl, by kernel_rfl, by kernel_rfl, by kernel_rfl⟩
theorem ty72 : tagg Try.prog 72 = (some true) ∧
    tsz Try.prog 72 = (some 10) ∧
    tel Try.prog 72 = none ∧
    tint Try.prog 72 = none ∧
    tstr Try.prog 72 = false ∧
    tbool Try.prog 72 = false ∧
    tarr Try.prog 72 = none ∧
    tby Try.prog 72 = (some 128) ∧
    tzero Try.prog 72 = (some [(Value.int .i64 0), (Value.int .i64 0), (Value.int .i64 0), (Value.int .i64 0), (Value.int .i64 0), (Value.slice none 0 0), (Value.slice none 0 0), (Value.slice none 0 0), (Value.int .i64 0), (Value.int .i64 0)]) ∧
    (Try.prog.underlying 72).isSome = true ∧
    tcmp Try.prog 72 = true ∧
    tflds Try.prog 72 = (some [(0, 5), (5, 4), (9, 1)]) ∧
    tfld Try.prog 72 0 = (some (0, 5)) ∧
    tfagg Try.prog 72 0 = (some true) ∧
    tfld Try.prog 72 1 = (some (5, 4)) ∧
    tfagg Try.prog 72 1 = (some true) ∧
    tfld Try.prog 72 2 = (some (9, 1)) ∧
    tfagg Try.prog 72 2 = (some false) :=
  ⟨by kernel_rfl, by kernel_rfl, by kernel_rfl, by kernel_rfl, by kernel_rfl, by kernel_rfl, by kernel_rfl, by kernel_rfl, by kernel_rfl, by kernel_rfl, by kernel_rfl, by kernel_rfl, by kernel_rfl, by kernel_rfl, by kernel_rfl, by kernel_rfl, by kernel_rfl, by kernel_rfl⟩
theorem ty82 : tagg Try.prog 82 = (some true) ∧
    tsz Try.prog 82 = (some 3) ∧
    tel Try.prog 82 = none ∧
    tint Try.prog 82 = none ∧
    tstr Try.prog 82 = false ∧
    tbool Try.prog 82 = false ∧
    tarr Try.prog 82 = none ∧
    tby Try.prog 82 = (some 40) ∧
    tzero Try.prog 82 = (some [(Value.bool false), (Value.int .i64 0), (Value.slice none 0 0)]) ∧
    (Try.prog.underlying 82).isSome = true ∧
    tcmp Try.prog 82 = true ∧
    tflds Try.prog 82 = (some [(0, 1), (1, 1), (2, 1)]) ∧
    tfld Try.prog 82 0 = (some (0, 1)) ∧
    tfagg Try.prog 82 0 = (some false) ∧
    tfld Try.prog 82 1 = (some (1, 1)) ∧
    tfagg Try.prog 82 1 = (some false) ∧
    tfld Try.prog 82 2 = (some (2, 1)) ∧
    tfagg Try.prog 82 2 = (some false) :=
  ⟨by kernel_rfl, by kernel_rfl, by kernel_rfl, by kernel_rfl, by kernel_rfl, by kernel_rfl, by kernel_rfl, by kernel_rfl, by kernel_rfl, by kernel_rfl, by kernel_rfl, by kernel_rfl, by kernel_rfl, by kernel_rfl, by kernel_rfl, by kernel_rfl, by kernel_rfl, by kernel_rfl⟩
theorem ty83 : tagg Try.prog 83 = (some false) ∧
    tsz Try.prog 83 = (some 1) ∧
    tel Try.prog 83 = (some 82) ∧
    tint Try.prog 83 = none ∧
    tstr Try.prog 83 = false ∧
    tbool Try.prog 83 = false ∧
    tarr Try.prog 83 = none ∧
    tby Try.prog 83 = (some 24) ∧
    tzero Try.prog 83 = (some [(Value.slice none 0 0)]) ∧
    (Try.prog.underlying 83).isSome = true ∧
    tcmp Try.prog 83 = false ∧
    tflds Try.prog 83 = none :=
  ⟨by kernel_rfl, by kernel_rfl, by kernel_rfl, by kernel_rfl, by kernel_rfl, by kernel_rfl, by kernel_rfl, by kernel_rfl, by kernel_rfl, by kernel_rfl, by kernel_rfl, by kernel_rfl⟩
theorem ty96 : tagg Try.prog 96 = (some true) ∧
    tsz Try.prog 96 = (some 5) ∧
    tel Try.prog 96 = none ∧
    tint Try.prog 96 = none ∧
    tstr Try.prog 96 = false ∧
    tbool Try.prog 96 = false ∧
    tarr Try.prog 96 = none ∧
    tby Try.prog 96 = (some 56) ∧
    tzero Try.prog 96 = (some [(Value.int .i64 0), (Value.int .i64 0), (Value.int .i64 0), (Value.bool false), (Value.slice none 0 0)]) ∧
    (Try.prog.underlying 96).isSome = true ∧
    tcmp Try.prog 96 = true ∧
    tflds Try.prog 96 = (some [(0, 1), (1, 1), (2, 1), (3, 1), (4, 1)]) ∧
    tfld Try.prog 96 0 = (some (0, 1)) ∧
    tfagg Try.prog 96 0 = (some false) ∧
    tfld Try.prog 96 1 = (some (1, 1)) ∧
    tfagg Try.prog 96 1 = (some false) ∧
    tfld Try.prog 96 2 = (some (2, 1)) ∧
    tfagg Try.prog 96 2 = (some false) ∧
    tfld Try.prog 96 3 = (some (3, 1)) ∧
    tfagg Try.prog 96 3 = (some false) ∧
    tfld Try.prog 96 4 = (some (4, 1)) ∧
    tfagg Try.prog 96 4 = (some false) :=
  ⟨by kernel_rfl, by kernel_rfl, by kernel_rfl, by kernel_rfl, by kernel_rfl, by kernel_rfl, by kernel_rfl, by kernel_rfl, by kernel_rfl, by kernel_rfl, by kernel_rfl, by kernel_rfl, by kernel_rfl, by kernel_rfl, by kernel_rfl, by kernel_rfl, by kernel_rfl, by kernel_rfl, by kernel_rfl, by kernel_rfl, by kernel_rfl, by kernel_rfl⟩
theorem ty101 : tagg Try.prog 101 = (some true) ∧
    tsz Try.prog 101 = (some 3) ∧
    tel Try.prog 101 = none ∧
    tint Try.prog 101 = none ∧
    tstr Try.prog 101 = false ∧
    tbool Try.prog 101 = false ∧
    tarr Try.prog 101 = (some (3, 3)) ∧
    tby Try.prog 101 = (some 24) ∧
    tzero Try.prog 101 = (some [(Value.int .i64 0), (Value.int .i64 0), (Value.int .i64 0)]) ∧
    (Try.prog.underlying 101).isSome = true ∧
    tcmp Try.prog 101 = true ∧
    tflds Try.prog 101 = none :=
  ⟨by kernel_rfl, by kernel_rfl, by kernel_rfl, by kernel_rfl, by kernel_rfl, by kernel_rfl, by kernel_rfl, by kernel_rfl, by kernel_rfl, by kernel_rfl, by kernel_rfl, by kernel_rfl⟩
theorem ty102 : tagg Try.prog 102 = (some false) ∧
    tsz Try.prog 102 = (some 1) ∧
    tel Try.prog 102 = (some 101) ∧
    tint Try.prog 102 = none ∧
    tstr Try.prog 102 = false ∧
    tbool Try.prog 102 = false ∧
    tarr Try.prog 102 = none ∧
    tby Try.prog 102 = (some 24) ∧
    tzero Try.prog 102 = (some [(Value.slice none 0 0)]) ∧
    (Try.prog.underlying 102).isSome = true ∧
    tcmp Try.prog 102 = false ∧
    tflds Try.prog 102 = none :=
  ⟨by kernel_rfl, by kernel_rfl, by kernel_rfl, by kernel_rfl, by kernel_rfl, by kernel_rfl, by kernel_rfl, by kernel_rfl, by kernel_rfl, by kernel_rfl, by kernel_rfl, by kernel_rfl⟩
end Go.Proofs.Ytalhjhmphdgaoaa
