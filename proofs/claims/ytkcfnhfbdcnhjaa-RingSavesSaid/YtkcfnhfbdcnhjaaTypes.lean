/- Facts on the types of the program. -/
import Derived.Test.YtkcfnhfbdcnhjaaEngC
import Derived.Test.YtkcfnhfbdcnhjaaProg
namespace Go.Proofs.Ytkcfnhfbdcnhjaa
open Go.RowKit
set_option maxRecDepth 100000
theorem ty3 : tagg Try.prog 3 = (some false) ∧
    tsz Try.prog 3 = (some 1) ∧
    tel Try.prog 3 = none ∧
    tint Try.prog 3 = (some .i64) ∧
    tstr Try.prog 3 = false ∧
    tbool Try.prog 3 = false ∧
    tarr Try.prog 3 = none ∧
    tby Try.prog 3 = (some 8) ∧
    tzero Try.prog 3 = (some [(Value.int .i64 0)]) ∧
    (Try.prog.underlying 3).isSome = true ∧
    tcmp Try.prog 3 = false ∧
    tflds Try.prog 3 = none :=
  ⟨by kernel_rfl, by kernel_rfl, by kernel_rfl, by kernel_rfl, by kernel_rfl, by kernel_rfl, by kernel_rfl, by kernel_rfl, by kernel_rfl, by kernel_rfl, by kernel_rfl, by kernel_rfl⟩
theorem ty4 : tagg Try.prog 4 = (some false) ∧
    tsz Try.prog 4 = (some 1) ∧
    tel Try.prog 4 = none ∧
    tint Try.prog 4 = none ∧
    tstr Try.prog 4 = false ∧
    tbool Try.prog 4 = true ∧
    tarr Try.prog 4 = none ∧
    tby Try.prog 4 = (some 1) ∧
    tzero Try.prog 4 = (some [(Value.bool false)]) ∧
    (Try.prog.underlying 4).isSome = true ∧
    tcmp Try.prog 4 = false ∧
    tflds Try.prog 4 = none :=
  ⟨by kernel_rfl, by kernel_rfl, by kernel_rfl, by kernel_rfl, by kernel_rfl, by kernel_rfl, by kernel_rfl, by kernel_rfl, by kernel_rfl, by kernel_rfl, by kernel_rfl, by kernel_rfl⟩
theorem ty5 : tagg Try.prog 5 = (some false) ∧
    tsz Try.prog 5 = (some 1) ∧
    tel Try.prog 5 = none ∧
    tint Try.prog 5 = (some .u8) ∧
    tstr Try.prog 5 = false ∧
    tbool Try.prog 5 = false ∧
    tarr Try.prog 5 = none ∧
    tby Try.prog 5 = (some 1) ∧
    tzero Try.prog 5 = (some [(Value.int .u8 0)]) ∧
    (Try.prog.underlying 5).isSome = true ∧
    tcmp Try.prog 5 = false ∧
    tflds Try.prog 5 = none :=
  ⟨by kernel_rfl, by kernel_rfl, by kernel_rfl, by kernel_rfl, by kernel_rfl, by kernel_rfl, by kernel_rfl, by kernel_rfl, by kernel_rfl, by kernel_rfl, by kernel_rfl, by kernel_rfl⟩
theorem ty9 : tagg Try.prog 9 = (some false) ∧
    tsz Try.prog 9 = (some 1) ∧
    tel Try.prog 9 = none ∧
    tint Try.prog 9 = none ∧
    tstr Try.prog 9 = true ∧
    tbool Try.prog 9 = false ∧
    tarr Try.prog 9 = none ∧
    tby Try.prog 9 = (some 16) ∧
    tzero Try.prog 9 = (some [(Value.string ⟨#[]⟩)]) ∧
    (Try.prog.underlying 9).isSome = true ∧
    tcmp Try.prog 9 = false ∧
    tflds Try.prog 9 = none :=
  ⟨by kernel_rfl, by kernel_rfl, by kernel_rfl, by kernel_rfl, by kernel_rfl, by kernel_rfl, by kernel_rfl, by kernel_rfl, by kernel_rfl, by kernel_rfl, by kernel_rfl, by kernel_rfl⟩
theorem ty23 : tagg Try.prog 23 = (some true) ∧
    tsz Try.prog 23 = (some 5) ∧
    tel Try.prog 23 = none ∧
    tint Try.prog 23 = none ∧
    tstr Try.prog 23 = false ∧
    tbool Try.prog 23 = false ∧
    tarr Try.prog 23 = none ∧
    tby Try.prog 23 = (some 40) ∧
    tzero Try.prog 23 = (some [(Value.int .i64 0), (Value.int .i64 0), (Value.int .i64 0), (Value.int .i64 0), (Value.int .i64 0)]) ∧
    (Try.prog.underlying 23).isSome = true ∧
    tcmp Try.prog 23 = true ∧
    tflds Try.prog 23 = (some [(0, 1), (1, 1), (2, 1), (3, 1), (4, 1)]) ∧
    tfld Try.prog 23 0 = (some (0, 1)) ∧
    tfagg Try.prog 23 0 = (some false) ∧
    tfld Try.prog 23 1 = (some (1, 1)) ∧
    tfagg Try.prog 23 1 = (some false) ∧
    tfld Try.prog 23 2 = (some (2, 1)) ∧
    tfagg Try.prog 23 2 = (some false) ∧
    tfld Try.prog 23 3 = (some (3, 1)) ∧
    tfagg Try.prog 23 3 = (some false) ∧
    tfld Try.prog 23 4 = (some (4, 1)) ∧
    tfagg Try.prog 23 4 = (some false) :=
  ⟨by kernel_rfl, by kernel_rfl, by kernel_rfl, by kernel_rfl, by kernel_rfl, by kernel_rfl, by kernel_rfl, by kernel_rfl, by kernel_rfl, by kernel_rfl, by kernel_rfl, by kernel_rfl, by kernel_rfl, by kernel_rfl, by kernel_rfl, by kernel_rfl, by kernel_rfl, by kernel_rfl, by kernel_rfl, by kernel_rfl, by kernel_rfl, by kernel_rfl⟩
theorem ty24 : tagg Try.prog 24 = (some false) ∧
    tsz Try.prog 24 = (some 1) ∧
    tel Try.prog 24 = (some 29) ∧
    tint Try.prog 24 = none ∧
    tstr Try.prog 24 = false ∧
    tbool Try.prog 24 = false ∧
    tarr Try.prog 24 = none ∧
    tby Try.prog 24 = (some 24) ∧
    tzero Try.prog 24 = (some [(Value.slice none 0 0)]) ∧
    (Try.prog.underlying 24).isSome = true ∧
    tcmp Try.prog 24 = false ∧
    tflds Try.prog 24 = none :=
  ⟨by kernel_rfl, by kernel_rfl, by kernel_rfl, by kernel_rfl, by kernel_rfl, by kernel_rfl, by kernel_rfl, by kernel_rfl, by kernel_rfl, by kernel_rfl, by kernel_rfl, by kernel_rfl⟩
theorem ty25 : tagg Try.prog 25 = (some false) ∧
    tsz Try.prog 25 = (some 1) ∧
    tel Try.prog 25 = (some 61) ∧
    tint Try.prog 25 = none ∧
    tstr Try.prog 25 = false ∧
    tbool Try.prog 25 = false ∧
    tarr Try.prog 25 = none ∧
    tby Try.prog 25 = (some 24) ∧
    tzero Try.prog 25 = (some [(Value.slice none 0 0)]) ∧
    (Try.prog.underlying 25).isSome = true ∧
    tcmp Try.prog 25 = false ∧
    tflds Try.prog 25 = none :=
  ⟨by kernel_rfl, by kernel_rfl, by kernel_rfl, by kernel_rfl, by kernel_rfl, by kernel_rfl, by kernel_rfl, by kernel_rfl, by kernel_rfl, by kernel_rfl, by kernel_rfl, by kernel_rfl⟩
theorem ty26 : tagg Try.prog 26 = (some false) ∧
    tsz Try.prog 26 = (some 1) ∧
    tel Try.prog 26 = (some 65) ∧
    tint Try.prog 26 = none ∧
    tstr Try.prog 26 = false ∧
    tbool Try.prog 26 = false ∧
    tarr Try.prog 26 = none ∧
    tby Try.prog 26 = (some 24) ∧
    tzero Try.prog 26 = (some [(Value.slice none 0 0)]) ∧
    (Try.prog.underlying 26).isSome = true ∧
    tcmp Try.prog 26 = false ∧
    tflds Try.prog 26 = none :=
  ⟨by kernel_rfl, by kernel_rfl, by kernel_rfl, by kernel_rfl, by kernel_rfl, by kernel_rfl, by kernel_rfl, by kernel_rfl, by kernel_rfl, by kernel_rfl, by kernel_rfl, by kernel_rfl⟩
theorem ty28 : tagg Try.prog 28 = (some true) ∧
    tsz Try.prog 28 = (some 4) ∧
    tel Try.prog 28 = none ∧
    tint Try.prog 28 = none ∧
    tstr Try.prog 28 = false ∧
    tbool Try.prog 28 = false ∧
    tarr Try.prog 28 = none ∧
    tby Try.prog 28 = (some 80) ∧
    tzero Try.prog 28 = (some [(Value.slice none 0 0), (Value.slice none 0 0), (Value.slice none 0 0), (Value.int .i64 0)]) ∧
    (Try.prog.underlying 28).isSome = true ∧
    tcmp Try.prog 28 = true ∧
    tflds Try.prog 28 = (some [(0, 1), (1, 1), (2, 1), (3, 1)]) ∧
    tfld Try.prog 28 0 = (some (0, 1)) ∧
    tfagg Try.prog 28 0 = (some false) ∧
    tfld Try.prog 28 1 = (some (1, 1)) ∧
    tfagg Try.prog 28 1 = (some false) ∧
    tfld Try.prog 28 2 = (some (2, 1)) ∧
    tfagg Try.prog 28 2 = (some false) ∧
    tfld Try.prog 28 3 = (some (3, 1)) ∧
    tfagg Try.prog 28 3 = (some false) :=
  ⟨by kernel_rfl, by kernel_rfl, by kernel_rfl, by kernel_rfl, by kernel_rfl, by kernel_rfl, by kernel_rfl, by kernel_rfl, by kernel_rfl, by kernel_rfl, by kernel_rfl, by kernel_rfl, by kernel_rfl, by kernel_rfl, by kernel_rfl, by kernel_rfl, by kernel_rfl, by kernel_rfl, by kernel_rfl, by kernel_rfl⟩
theorem ty29 : tagg Try.prog 29 = (some false) ∧
    tsz Try.prog 29 = (some 1) ∧
    tel Try.prog 29 = (some 5) ∧
    tint Try.prog 29 = none ∧
    tstr Try.prog 29 = false ∧
    tbool Try.prog 29 = false ∧
    tarr Try.prog 29 = none ∧
    tby Try.prog 29 = (some 24) ∧
    tzero Try.prog 29 = (some [(Value.slice none 0 0)]) ∧
    (Try.prog.underlying 29).isSome = true ∧
    tcmp Try.prog 29 = false ∧
    tflds Try.prog 29 = none :=
  ⟨by kernel_rfl, by kernel_rfl, by kernel_rfl, by kernel_rfl, by kernel_rfl, by kernel_rfl, by kernel_rfl, by kernel_rfl, by kernel_rfl, by kernel_rfl, by kernel_rfl, by kernel_rfl⟩
theorem ty30 : tagg Try.prog 30 = (some false) ∧
    tsz Try.prog 30 = (some 1) ∧
    tel Try.prog 30 = none ∧
    tint Try.prog 30 = (some .i64) ∧
    tstr Try.prog 30 = false ∧
    tbool Try.prog 30 = false ∧
    tarr Try.prog 30 = none ∧
    tby Try.prog 30 = (some 8) ∧
    tzero Try.prog 30 = (some [(Value.int .i64 0)]) ∧
    (Try.prog.underlying 30).isSome = true ∧
    tcmp Try.prog 30 = false ∧
    tflds Try.prog 30 = none :=
  ⟨by kernel_rfl, by kernel_rfl, by kernel_rfl, by kernel_rfl, by kernel_rfl, by kernel_rfl, by kernel_rfl, by kernel_rfl, by kernel_rfl, by kernel_rfl, by kernel_rfl, by kernel_rfl⟩
theorem ty47 : tagg Try.prog 47 = (some true) ∧
    tsz Try.prog 47 = (some 9) ∧
    tel Try.prog 47 = none ∧
    tint Try.prog 47 = none ∧
    tstr Try.prog 47 = false ∧
    tbool Try.prog 47 = false ∧
    tarr Try.prog 47 = none ∧
    tby Try.prog 47 = (some 72) ∧
    tzero Try.prog 47 = (some [(Value.int .i64 0), (Value.int .i64 0), (Value.int .i64 0), (Value.int .i64 0), (Value.int .i64 0), (Value.int .i64 0), (Value.int .i64 0), (Value.int .i64 0), (Value.int .i64 0)]) ∧
    (Try.prog.underlying 47).isSome = true ∧
    tcmp Try.prog 47 = true ∧
    tflds Try.prog 47 = (some [(0, 1), (1, 1), (2, 1), (3, 1), (4, 1), (5, 1), (6, 1), (7, 1), (8, 1)]) ∧
    tfld Try.prog 47 0 = (some (0, 1)) ∧
    tfagg Try.prog 47 0 = (some false) ∧
    tfld Try.prog 47 1 = (some (1, 1)) ∧
    tfagg Try.prog 47 1 = (some false) ∧
    tfld Try.prog 47 2 = (some (2, 1)) ∧
    tfagg Try.prog 47 2 = (some false) ∧
    tfld Try.prog 47 3 = (some (3, 1)) ∧
    tfagg Try.prog 47 3 = (some false) ∧
    tfld Try.prog 47 4 = (some (4, 1)) ∧
    tfagg Try.prog 47 4 = (some false) ∧
    tfld Try.prog 47 5 = (some (5, 1)) ∧
    tfagg Try.prog 47 5 = (some false) ∧
    tfld Try.prog 47 6 = (some (6, 1)) ∧
    tfagg Try.prog 47 6 = (some false) ∧
    tfld Try.prog 47 7 = (some (7, 1)) ∧
    tfagg Try.prog 47 7 = (some false) ∧
    tfld Try.prog 47 8 = (some (8, 1)) ∧
    tfagg Try.prog 47 8 = (some false) :=
  ⟨by kernel_rfl, by kernel_rfl, by kernel_rfl, by kernel_rfl, by kernel_rfl, by kernel_rfl, by kernel_rfl, by kernel_rfl, by kernel_rfl, by kernel_rfl, by kernel_rfl, by kernel_rfl, by kernel_rfl, by kernel_rfl, by kernel_rfl, by kernel_rfl, by kernel_rfl, by kernel_rfl, by kernel_rfl, by kernel_rfl, by kernel_rfl, by kernel_rfl, by kernel_rfl, by kernel_rfl, by kernel_rfl, by kernel_rfl, by kernel_rfl, by kernel_rfl, by kernel_rfl, by kernel_rfl⟩
theorem ty61 : tagg Try.prog 61 = (some true) ∧
    tsz Try.prog 61 = (some 2) ∧
    tel Try.prog 61 = none ∧
    tint Try.prog 61 = none ∧
    tstr Try.prog 61 = false ∧
    tbool Try.prog 61 = false ∧
    tarr Try.prog 61 = none ∧
    tby Try.prog 61 = (some 32) ∧
    tzero Try.prog 61 = (some [(Value.int .i64 0), (Value.slice none 0 0)]) ∧
    (Try.prog.underlying 61).isSome = true ∧
    tcmp Try.prog 61 = true ∧
    tflds Try.prog 61 = (some [(0, 1), (1, 1)]) ∧
    tfld Try.prog 61 0 = (some (0, 1)) ∧
    tfagg Try.prog 61 0 = (some false) ∧
    tfld Try.prog 61 1 = (some (1, 1)) ∧
    tfagg Try.prog 61 1 = (some false) :=
  ⟨by kernel_rfl, by kernel_rfl, by kernel_rfl, by kernel_rfl, by kernel_rfl, by kernel_rfl, by kernel_rfl, by kernel_rfl, by kernel_rfl, by kernel_rfl, by kernel_rfl, by kernel_rfl, by kernel_rfl, by kernel_rfl, by kernel_rfl, by kernel_rfl⟩
theorem ty65 : tagg Try.prog 65 = (some true) ∧
    tsz Try.prog 65 = (some 3) ∧
    tel Try.prog 65 = none ∧
    tint Try.prog 65 = none ∧
    tstr Try.prog 65 = false ∧
    tbool Try.prog 65 = false ∧
    tarr Try.prog 65 = none ∧
    tby Try.prog 65 = (some 40) ∧
    tzero Try.prog 65 = (some [(Value.slice none 0 0), (Value.int .i64 0), (Value.bool false)]) ∧
    (Try.prog.underlying 65).isSome = true ∧
    tcmp Try.prog 65 = true ∧
    tflds Try.prog 65 = (some [(0, 1), (1, 1), (2, 1)]) ∧
    tfld Try.prog 65 0 = (some (0, 1)) ∧
    tfagg Try.prog 65 0 = (some false) ∧
    tfld Try.prog 65 1 = (some (1, 1)) ∧
    tfagg Try.prog 65 1 = (some false) ∧
    tfld Try.prog 65 2 = (some (2, 1)) ∧
    tfagg Try.prog 65 2 = (some false) :=
  ⟨by kernel_rfl, by kernel_rfl, by kernel_rfl, by kernel_rfl, by kernel_rfl, by kernel_rfl, by kernel_rfl, by kernel_rfl, by kernel_rfl, by kernel_rfl, by kernel_rfl, by kernel_rfl, by kernel_rfl, by kernel_rfl, by kernel_rfl, by kernel_rfl, by kernel_rfl, by kernel_rfl⟩
theorem ty71 : tagg Try.prog 71 = (some false) ∧
    tsz Try.prog 71 = (some 1) ∧
    tel Try.prog 71 = (some 74) ∧
    tint Try.prog 71 = none ∧
    tstr Try.prog 71 = false ∧
    tbool Try.prog 71 = false ∧
    tarr Try.prog 71 = none ∧
    tby Try.prog 71 = (some 24) ∧
    tzero Try.prog 71 = (some [(Value.slice none 0 0)]) ∧
    (Try.prog.underlying 71).isSome = true ∧
    tcmp Try.prog 71 = false ∧
    tflds Try.prog 71 = none :=
  ⟨by kernel_rfl, by kernel_rfl, by kernel_rfl, by kernel_rfl, by kernel_rfl, by kernel_rfl, by kernel_rfl, by kernel_rfl, by kernel_rfl, by kernel_rfl, by kernel_rfl, by kernel_rfl⟩
theorem ty74 : tagg Try.prog 74 = (some true) ∧
    tsz Try.prog 74 = (some 3) ∧
    tel Try.prog 74 = none ∧
    tint Try.prog 74 = none ∧
    tstr Try.prog 74 = false ∧
    tbool Try.prog 74 = false ∧
    tarr Try.prog 74 = none ∧
    tby Try.prog 74 = (some 40) ∧
    tzero Try.prog 74 = (some [(Value.bool false), (Value.int .i64 0), (Value.slice none 0 0)]) ∧
    (Try.prog.underlying 74).isSome = true ∧
    tcmp Try.prog 74 = true ∧
    tflds Try.prog 74 = (some [(0, 1), (1, 1), (2, 1)]) ∧
    tfld Try.prog 74 0 = (some (0, 1)) ∧
    tfagg Try.prog 74 0 = (some false) ∧
    tfld Try.prog 74 1 = (some (1, 1)) ∧
    tfagg Try.prog 74 1 = (some false) ∧
    tfld Try.prog 74 2 = (some (2, 1)) ∧
    tfagg Try.prog 74 2 = (some false) :=
  ⟨by kernel_rfl, by kernel_rfl, by kernel_rfl, by kernel_rfl, by kernel_rfl, by kernel_rfl, by kernel_rfl, by kernel_rfl, by kernel_rfl, by kernel_rfl, by kernel_rfl, by kernel_rfl, by kernel_rfl, by kernel_rfl, by kernel_rfl, by kernel_rfl, by kernel_rfl, by kernel_rfl⟩
theorem ty78 : tagg Try.prog 78 = (some true) ∧
    tsz Try.prog 78 = (some 10) ∧
    tel Try.prog 78 = none ∧
    tint Try.prog 78 = none ∧
    tstr Try.prog 78 = false ∧
    tbool Try.prog 78 = false ∧
    tarr Try.prog 78 = none ∧
    tby Try.prog 78 = (some 128) ∧
    tzero Try.prog 78 = (some [(Value.int .i64 0), (Value.int .i64 0), (Value.int .i64 0), (Value.int .i64 0), (Value.int .i64 0), (Value.slice none 0 0), (Value.slice none 0 0), (Value.slice none 0 0), (Value.int .i64 0), (Value.int .i64 0)]) ∧
    (Try.prog.underlying 78).isSome = true ∧
    tcmp Try.prog 78 = true ∧
    tflds Try.prog 78 = (some [(0, 5), (5, 4), (9, 1)]) ∧
    tfld Try.prog 78 0 = (some (0, 5)) ∧
    tfagg Try.prog 78 0 = (some true) ∧
    tfld Try.prog 78 1 = (some (5, 4)) ∧
    tfagg Try.prog 78 1 = (some true) ∧
    tfld Try.prog 78 2 = (some (9, 1)) ∧
    tfagg Try.prog 78 2 = (some false) :=
  ⟨by kernel_rfl, by kernel_rfl, by kernel_rfl, by kernel_rfl, by kernel_rfl, by kernel_rfl, by kernel_rfl, by kernel_rfl, by kernel_rfl, by kernel_rfl, by kernel_rfl, by kernel_rfl, by kernel_rfl, by kernel_rfl, by kernel_rfl, by kernel_rfl, by kernel_rfl, by kernel_rfl⟩
theorem ty109 : tagg Try.prog 109 = (some true) ∧
    tsz Try.prog 109 = (some 3) ∧
    tel Try.prog 109 = none ∧
    tint Try.prog 109 = none ∧
    tstr Try.prog 109 = false ∧
    tbool Try.prog 109 = false ∧
    tarr Try.prog 109 = (some (3, 3)) ∧
    tby Try.prog 109 = (some 24) ∧
    tzero Try.prog 109 = (some [(Value.int .i64 0), (Value.int .i64 0), (Value.int .i64 0)]) ∧
    (Try.prog.underlying 109).isSome = true ∧
    tcmp Try.prog 109 = true ∧
    tflds Try.prog 109 = none :=
  ⟨by kernel_rfl, by kernel_rfl, by kernel_rfl, by kernel_rfl, by kernel_rfl, by kernel_rfl, by kernel_rfl, by kernel_rfl, by kernel_rfl, by kernel_rfl, by kernel_rfl, by kernel_rfl⟩
theorem ty110 : tagg Try.prog 110 = (some false) ∧
    tsz Try.prog 110 = (some 1) ∧
    tel Try.prog 110 = (some 109) ∧
    tint Try.prog 110 = none ∧
    tstr Try.prog 110 = false ∧
    tbool Try.prog 110 = false ∧
    tarr Try.prog 110 = none ∧
    tby Try.prog 110 = (some 24) ∧
    tzero Try.prog 110 = (some [(Value.slice none 0 0)]) ∧
    (Try.prog.underlying 110).isSome = true ∧
    tcmp Try.prog 110 = false ∧
    tflds Try.prog 110 = none :=
  ⟨by kernel_rfl, by kernel_rfl, by kernel_rfl, by kernel_rfl, by kernel_rfl, by kernel_rfl, by kernel_rfl, by kernel_rfl, by kernel_rfl, by kernel_rfl, by kernel_rfl, by kernel_rfl⟩
end Go.Proofs.Ytkcfnhfbdcnhjaa
