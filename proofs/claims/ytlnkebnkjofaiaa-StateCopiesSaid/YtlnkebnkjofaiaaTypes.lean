/- Facts on the types of the program. -/
import Derived.Test.YtlnkebnkjofaiaaEngC
import Derived.Test.YtlnkebnkjofaiaaProg
namespace Go.Proofs.Ytlnkebnkjofaiaa
open Go.RowKit
set_option maxRecDepth 100000
theorem ty3 : tagg Try.prog 3 = (some false) ∧
    tsz Try.prog 3 = (some 1) ∧
    tel Try.prog 3 = none ∧
    tint Try.prog 3 = (some .i64) ∧
    tstr Try.prog 3 = false ∧
    tbool Try.prog 3 = false ∧
    tarr Try.prog 3 = none ∧
    tby Try.prog 3 = (some 8) ∧
    tzero Try.prog 3 = (some [(Value.int .i64 0)]) ∧
    (Try.prog.underlying 3).isSome = true ∧
    tcmp Try.prog 3 = false ∧
    tflds Try.prog 3 = none :=
  ⟨by kernel_rfl, by kernel_rfl, by kernel_rfl, by kernel_rfl, by kernel_rfl, by kernel_rfl, by kernel_rfl, by kernel_rfl, by kernel_rfl, by kernel_rfl, by kernel_rfl, by kernel_rfl⟩
theorem ty4 : tagg Try.prog 4 = (some false) ∧
    tsz Try.prog 4 = (some 1) ∧
    tel Try.prog 4 = none ∧
    tint Try.prog 4 = none ∧
    tstr Try.prog 4 = false ∧
    tbool Try.prog 4 = true ∧
    tarr Try.prog 4 = none ∧
    tby Try.prog 4 = (some 1) ∧
    tzero Try.prog 4 = (some [(Value.bool false)]) ∧
    (Try.prog.underlying 4).isSome = true ∧
    tcmp Try.prog 4 = false ∧
    tflds Try.prog 4 = none :=
  ⟨by kernel_rfl, by kernel_rfl, by kernel_rfl, by kernel_rfl, by kernel_rfl, by kernel_rfl, by kernel_rfl, by kernel_rfl, by kernel_rfl, by kernel_rfl, by kernel_rfl, by kernel_rfl⟩
theorem ty9 : tagg Try.prog 9 = (some false) ∧
    tsz Try.prog 9 = (some 1) ∧
    tel Try.prog 9 = none ∧
    tint Try.prog 9 = none ∧
    tstr Try.prog 9 = true ∧
    tbool Try.prog 9 = false ∧
    tarr Try.prog 9 = none ∧
    tby Try.prog 9 = (some 16) ∧
    tzero Try.prog 9 = (some [(Value.string ⟨#[]⟩)]) ∧
    (Try.prog.underlying 9).isSome = true ∧
    tcmp Try.prog 9 = false ∧
    tflds Try.prog 9 = none :=
  ⟨by kernel_rfl, by kernel_rfl, by kernel_rfl, by kernel_rfl, by kernel_rfl, by kernel_rfl, by kernel_rfl, by kernel_rfl, by kernel_rfl, by kernel_rfl, by kernel_rfl, by kernel_rfl⟩
theorem ty22 : tagg Try.prog 22 = (some false) ∧
    tsz Try.prog 22 = (some 1) ∧
    tel Try.prog 22 = none ∧
    tint Try.prog 22 = (some .i64) ∧
    tstr Try.prog 22 = false ∧
    tbool Try.prog 22 = false ∧
    tarr Try.prog 22 = none ∧
    tby Try.prog 22 = (some 8) ∧
    tzero Try.prog 22 = (some [(Value.int .i64 0)]) ∧
    (Try.prog.underlying 22).isSome = true ∧
    tcmp Try.prog 22 = false ∧
    tflds Try.prog 22 = none :=
  ⟨by kernel_rfl, by kernel_rfl, by kernel_rfl, by kernel_rfl, by kernel_rfl, by kernel_rfl, by kernel_rfl, by kernel_rfl, by kernel_rfl, by kernel_rfl, by kernel_rfl, by kernel_rfl⟩
theorem ty23 : tagg Try.prog 23 = (some false) ∧
    tsz Try.prog 23 = (some 1) ∧
    tel Try.prog 23 = (some 22) ∧
    tint Try.prog 23 = none ∧
    tstr Try.prog 23 = false ∧
    tbool Try.prog 23 = false ∧
    tarr Try.prog 23 = none ∧
    tby Try.prog 23 = (some 24) ∧
    tzero Try.prog 23 = (some [(Value.slice none 0 0)]) ∧
    (Try.prog.underlying 23).isSome = true ∧
    tcmp Try.prog 23 = false ∧
    tflds Try.prog 23 = none :=
  ⟨by kernel_rfl, by kernel_rfl, by kernel_rfl, by kernel_rfl, by kernel_rfl, by kernel_rfl, by kernel_rfl, by kernel_rfl, by kernel_rfl, by kernel_rfl, by kernel_rfl, by kernel_rfl⟩
theorem ty24 : tagg Try.prog 24 = (some false) ∧
    tsz Try.prog 24 = (some 1) ∧
    tel Try.prog 24 = (some 3) ∧
    tint Try.prog 24 = none ∧
    tstr Try.prog 24 = false ∧
    tbool Try.prog 24 = false ∧
    tarr Try.prog 24 = none ∧
    tby Try.prog 24 = (some 24) ∧
    tzero Try.prog 24 = (some [(Value.slice none 0 0)]) ∧
    (Try.prog.underlying 24).isSome = true ∧
    tcmp Try.prog 24 = false ∧
    tflds Try.prog 24 = none :=
  ⟨by kernel_rfl, by kernel_rfl, by kernel_rfl, by kernel_rfl, by kernel_rfl, by kernel_rfl, by kernel_rfl, by kernel_rfl, by kernel_rfl, by kernel_rfl, by kernel_rfl, by kernel_rfl⟩
theorem ty26 : tagg Try.prog 26 = (some false) ∧
    tsz Try.prog 26 = (some 1) ∧
    tel Try.prog 26 = (some 39) ∧
    tint Try.prog 26 = none ∧
    tstr Try.prog 26 = false ∧
    tbool Try.prog 26 = false ∧
    tarr Try.prog 26 = none ∧
    tby Try.prog 26 = (some 24) ∧
    tzero Try.prog 26 = (some [(Value.slice none 0 0)]) ∧
    (Try.prog.underlying 26).isSome = true ∧
    tcmp Try.prog 26 = false ∧
    tflds Try.prog 26 = none :=
  ⟨by kernel_rfl, by kernel_rfl, by kernel_rfl, by kernel_rfl, by kernel_rfl, by kernel_rfl, by kernel_rfl, by kernel_rfl, by kernel_rfl, by kernel_rfl, by kernel_rfl, by kernel_rfl⟩
theorem ty27 : tagg Try.prog 27 = (some false) ∧
    tsz Try.prog 27 = (some 1) ∧
    tel Try.prog 27 = (some 45) ∧
    tint Try.prog 27 = none ∧
    tstr Try.prog 27 = false ∧
    tbool Try.prog 27 = false ∧
    tarr Try.prog 27 = none ∧
    tby Try.prog 27 = (some 24) ∧
    tzero Try.prog 27 = (some [(Value.slice none 0 0)]) ∧
    (Try.prog.underlying 27).isSome = true ∧
    tcmp Try.prog 27 = false ∧
    tflds Try.prog 27 = none :=
  ⟨by kernel_rfl, by kernel_rfl, by kernel_rfl, by kernel_rfl, by kernel_rfl, by kernel_rfl, by kernel_rfl, by kernel_rfl, by kernel_rfl, by kernel_rfl, by kernel_rfl, by kernel_rfl⟩
theorem ty28 : tagg Try.prog 28 = (some false) ∧
    tsz Try.prog 28 = (some 1) ∧
    tel Try.prog 28 = (some 48) ∧
    tint Try.prog 28 = none ∧
    tstr Try.prog 28 = false ∧
    tbool Try.prog 28 = false ∧
    tarr Try.prog 28 = none ∧
    tby Try.prog 28 = (some 24) ∧
    tzero Try.prog 28 = (some [(Value.slice none 0 0)]) ∧
    (Try.prog.underlying 28).isSome = true ∧
    tcmp Try.prog 28 = false ∧
    tflds Try.prog 28 = none :=
  ⟨by kernel_rfl, by kernel_rfl, by kernel_rfl, by kernel_rfl, by kernel_rfl, by kernel_rfl, by kernel_rfl, by kernel_rfl, by kernel_rfl, by kernel_rfl, by kernel_rfl, by kernel_rfl⟩
theorem ty29 : tagg Try.prog 29 = (some false) ∧
    tsz Try.prog 29 = (some 1) ∧
    tel Try.prog 29 = (some 42) ∧
    tint Try.prog 29 = none ∧
    tstr Try.prog 29 = false ∧
    tbool Try.prog 29 = false ∧
    tarr Try.prog 29 = none ∧
    tby Try.prog 29 = (some 24) ∧
    tzero Try.prog 29 = (some [(Value.slice none 0 0)]) ∧
    (Try.prog.underlying 29).isSome = true ∧
    tcmp Try.prog 29 = false ∧
    tflds Try.prog 29 = none :=
  ⟨by kernel_rfl, by kernel_rfl, by kernel_rfl, by kernel_rfl, by kernel_rfl, by kernel_rfl, by kernel_rfl, by kernel_rfl, by kernel_rfl, by kernel_rfl, by kernel_rfl, by kernel_rfl⟩
theorem ty31 : tagg Try.prog 31 = (some true) ∧
    tsz Try.prog 31 = (some 7) ∧
    tel Try.prog 31 = none ∧
    tint Try.prog 31 = none ∧
    tstr Try.prog 31 = false ∧
    tbool Try.prog 31 = false ∧
    tarr Try.prog 31 = none ∧
    tby Try.prog 31 = (some 136) ∧
    tzero Try.prog 31 = (some [(Value.int .i64 0), (Value.int .i64 0), (Value.slice none 0 0), (Value.slice none 0 0), (Value.slice none 0 0), (Value.slice none 0 0), (Value.slice none 0 0)]) ∧
    (Try.prog.underlying 31).isSome = true ∧
    tcmp Try.prog 31 = true ∧
    tflds Try.prog 31 = (some [(0, 1), (1, 1), (2, 1), (3, 1), (4, 1), (5, 1), (6, 1)]) ∧
    tfld Try.prog 31 0 = (some (0, 1)) ∧
    tfagg Try.prog 31 0 = (some false) ∧
    tfld Try.prog 31 1 = (some (1, 1)) ∧
    tfagg Try.prog 31 1 = (some false) ∧
    tfld Try.prog 31 2 = (some (2, 1)) ∧
    tfagg Try.prog 31 2 = (some false) ∧
    tfld Try.prog 31 3 = (some (3, 1)) ∧
    tfagg Try.prog 31 3 = (some false) ∧
    tfld Try.prog 31 4 = (some (4, 1)) ∧
    tfagg Try.prog 31 4 = (some false) ∧
    tfld Try.prog 31 5 = (some (5, 1)) ∧
    tfagg Try.prog 31 5 = (some false) ∧
    tfld Try.prog 31 6 = (some (6, 1)) ∧
    tfagg Try.prog 31 6 = (some false) :=
  ⟨by kernel_rfl, by kernel_rfl, by kernel_rfl, by kernel_rfl, by kernel_rfl, by kernel_rfl, by kernel_rfl, by kernel_rfl, by kernel_rfl, by kernel_rfl, by kernel_rfl, by kernel_rfl, by kernel_rfl, by kernel_rfl, by kernel_rfl, by kernel_rfl, by kernel_rfl, by kernel_rfl, by kernel_rfl, by kernel_rfl, by kernel_rfl, by kernel_rfl, by kernel_rfl, by kernel_rfl, by kernel_rfl, by kernel_rfl⟩
theorem ty39 : tagg Try.prog 39 = (some true) ∧
    tsz Try.prog 39 = (some 5) ∧
    tel Try.prog 39 = none ∧
    tint Try.prog 39 = none ∧
    tstr Try.prog 39 = false ∧
    tbool Try.prog 39 = false ∧
    tarr Try.prog 39 = none ∧
    tby Try.prog 39 = (some 56) ∧
    tzero Try.prog 39 = (some [(Value.string ⟨#[]⟩), (Value.int .i64 0), (Value.string ⟨#[]⟩), (Value.int .i64 0), (Value.int .i64 0)]) ∧
    (Try.prog.underlying 39).isSome = true ∧
    tcmp Try.prog 39 = true ∧
    tflds Try.prog 39 = (some [(0, 1), (1, 1), (2, 3)]) ∧
    tfld Try.prog 39 0 = (some (0, 1)) ∧
    tfagg Try.prog 39 0 = (some false) ∧
    tfld Try.prog 39 1 = (some (1, 1)) ∧
    tfagg Try.prog 39 1 = (some false) ∧
    tfld Try.prog 39 2 = (some (2, 3)) ∧
    tfagg Try.prog 39 2 = (some true) :=
  ⟨by kernel_rfl, by kernel_rfl, by kernel_rfl, by kernel_rfl, by kernel_rfl, by kernel_rfl, by kernel_rfl, by kernel_rfl, by kernel_rfl, by kernel_rfl, by kernel_rfl, by kernel_rfl, by kernel_rfl, by kernel_rfl, by kernel_rfl, by kernel_rfl, by kernel_rfl, by kernel_rfl⟩
theorem ty42 : tagg Try.prog 42 = (some true) ∧
    tsz Try.prog 42 = (some 3) ∧
    tel Try.prog 42 = none ∧
    tint Try.prog 42 = none ∧
    tstr Try.prog 42 = false ∧
    tbool Try.prog 42 = false ∧
    tarr Try.prog 42 = none ∧
    tby Try.prog 42 = (some 24) ∧
    tzero Try.prog 42 = (some [(Value.int .i64 0), (Value.int .i64 0), (Value.int .i64 0)]) ∧
    (Try.prog.underlying 42).isSome = true ∧
    tcmp Try.prog 42 = true ∧
    tflds Try.prog 42 = (some [(0, 1), (1, 1), (2, 1)]) ∧
    tfld Try.prog 42 0 = (some (0, 1)) ∧
    tfagg Try.prog 42 0 = (some false) ∧
    tfld Try.prog 42 1 = (some (1, 1)) ∧
    tfagg Try.prog 42 1 = (some false) ∧
    tfld Try.prog 42 2 = (some (2, 1)) ∧
    tfagg Try.prog 42 2 = (some false) :=
  ⟨by kernel_rfl, by kernel_rfl, by kernel_rfl, by kernel_rfl, by kernel_rfl, by kernel_rfl, by kernel_rfl, by kernel_rfl, by kernel_rfl, by kernel_rfl, by kernel_rfl, by kernel_rfl, by kernel_rfl, by kernel_rfl, by kernel_rfl, by kernel_rfl, by kernel_rfl, by kernel_rfl⟩
theorem ty45 : tagg Try.prog 45 = (some true) ∧
    tsz Try.prog 45 = (some 12) ∧
    tel Try.prog 45 = none ∧
    tint Try.prog 45 = none ∧
    tstr Try.prog 45 = false ∧
    tbool Try.prog 45 = false ∧
    tarr Try.prog 45 = none ∧
    tby Try.prog 45 = (some 120) ∧
    tzero Try.prog 45 = (some [(Value.int .i64 0), (Value.string ⟨#[]⟩), (Value.string ⟨#[]⟩), (Value.bool false), (Value.bool false), (Value.int .i64 0), (Value.int .i64 0), (Value.int .i64 0), (Value.slice none 0 0), (Value.int .i64 0), (Value.int .i64 0), (Value.int .i64 0)]) ∧
    (Try.prog.underlying 45).isSome = true ∧
    tcmp Try.prog 45 = true ∧
    tflds Try.prog 45 = (some [(0, 1), (1, 1), (2, 1), (3, 1), (4, 1), (5, 1), (6, 1), (7, 1), (8, 1), (9, 1), (10, 1), (11, 1)]) ∧
    tfld Try.prog 45 0 = (some (0, 1)) ∧
    tfagg Try.prog 45 0 = (some false) ∧
    tfld Try.prog 45 1 = (some (1, 1)) ∧
    tfagg Try.prog 45 1 = (some false) ∧
    tfld Try.prog 45 2 = (some (2, 1)) ∧
    tfagg Try.prog 45 2 = (some false) ∧
    tfld Try.prog 45 3 = (some (3, 1)) ∧
    tfagg Try.prog 45 3 = (some false) ∧
    tfld Try.prog 45 4 = (some (4, 1)) ∧
    tfagg Try.prog 45 4 = (some false) ∧
    tfld Try.prog 45 5 = (some (5, 1)) ∧
    tfagg Try.prog 45 5 = (some false) ∧
    tfld Try.prog 45 6 = (some (6, 1)) ∧
    tfagg Try.prog 45 6 = (some false) ∧
    tfld Try.prog 45 7 = (some (7, 1)) ∧
    tfagg Try.prog 45 7 = (some false) ∧
    tfld Try.prog 45 8 = (some (8, 1)) ∧
    tfagg Try.prog 45 8 = (some false) ∧
    tfld Try.prog 45 9 = (some (9, 1)) ∧
    tfagg Try.prog 45 9 = (some false) ∧
    tfld Try.prog 45 10 = (some (10, 1)) ∧
    tfagg Try.prog 45 10 = (some false) ∧
    tfld Try.prog 45 11 = (some (11, 1)) ∧
    tfagg Try.prog 45 11 = (some false) :=
  ⟨by kernel_rfl, by kernel_rfl, by kernel_rfl, by kernel_rfl, by kernel_rfl, by kernel_rfl, by kernel_rfl, by kernel_rfl, by kernel_rfl, by kernel_rfl, by kernel_rfl, by kernel_rfl, by kernel_rfl, by kernel_rfl, by kernel_rfl, by kernel_rfl, by kernel_rfl, by kernel_rfl, by kernel_rfl, by kernel_rfl, by kernel_rfl, by kernel_rfl, by kernel_rfl, by kernel_rfl, by kernel_rfl, by kernel_rfl, by kernel_rfl, by kernel_rfl, by kernel_rfl, by kernel_rfl, by kernel_rfl, by kernel_rfl, by kernel_rfl, by kernel_rfl, by kernel_rfl, by kernel_rfl⟩
theorem ty46 : tagg Try.prog 46 = (some false) ∧
    tsz Try.prog 46 = (some 1) ∧
    tel Try.prog 46 = (some 50) ∧
    tint Try.prog 46 = none ∧
    tstr Try.prog 46 = false ∧
    tbool Try.prog 46 = false ∧
    tarr Try.prog 46 = none ∧
    tby Try.prog 46 = (some 24) ∧
    tzero Try.prog 46 = (some [(Value.slice none 0 0)]) ∧
    (Try.prog.underlying 46).isSome = true ∧
    tcmp Try.prog 46 = false ∧
    tflds Try.prog 46 = none :=
  ⟨by kernel_rfl, by kernel_rfl, by kernel_rfl, by kernel_rfl, by kernel_rfl, by kernel_rfl, by kernel_rfl, by kernel_rfl, by kernel_rfl, by kernel_rfl, by kernel_rfl, by kernel_rfl⟩
theorem ty48 : tagg Try.prog 48 = (some true) ∧
    tsz Try.prog 48 = (some 4) ∧
    tel Try.prog 48 = none ∧
    tint Try.prog 48 = none ∧
    tstr Try.prog 48 = false ∧
    tbool Try.prog 48 = false ∧
    tarr Try.prog 48 = none ∧
    tby Try.prog 48 = (some 64) ∧
    tzero Try.prog 48 = (some [(Value.int .i64 0), (Value.string ⟨#[]⟩), (Value.string ⟨#[]⟩), (Value.slice none 0 0)]) ∧
    (Try.prog.underlying 48).isSome = true ∧
    tcmp Try.prog 48 = true ∧
    tflds Try.prog 48 = (some [(0, 1), (1, 1), (2, 1), (3, 1)]) ∧
    tfld Try.prog 48 0 = (some (0, 1)) ∧
    tfagg Try.prog 48 0 = (some false) ∧
    tfld Try.prog 48 1 = (some (1, 1)) ∧
    tfagg Try.prog 48 1 = (some false) ∧
    tfld Try.prog 48 2 = (some (2, 1)) ∧
    tfagg Try.prog 48 2 = (some false) ∧
    tfld Try.prog 48 3 = (some (3, 1)) ∧
    tfagg Try.prog 48 3 = (some false) :=
  ⟨by kernel_rfl, by kernel_rfl, by kernel_rfl, by kernel_rfl, by kernel_rfl, by kernel_rfl, by kernel_rfl, by kernel_rfl, by kernel_rfl, by kernel_rfl, by kernel_rfl, by kernel_rfl, by kernel_rfl, by kernel_rfl, by kernel_rfl, by kernel_rfl, by kernel_rfl, by kernel_rfl, by kernel_rfl, by kernel_rfl⟩
theorem ty50 : tagg Try.prog 50 = (some true) ∧
    tsz Try.prog 50 = (some 3) ∧
    tel Try.prog 50 = none ∧
    tint Try.prog 50 = none ∧
    tstr Try.prog 50 = false ∧
    tbool Try.prog 50 = false ∧
    tarr Try.prog 50 = none ∧
    tby Try.prog 50 = (some 40) ∧
    tzero Try.prog 50 = (some [(Value.int .i64 0), (Value.int .i64 0), (Value.slice none 0 0)]) ∧
    (Try.prog.underlying 50).isSome = true ∧
    tcmp Try.prog 50 = true ∧
    tflds Try.prog 50 = (some [(0, 1), (1, 1), (2, 1)]) ∧
    tfld Try.prog 50 0 = (some (0, 1)) ∧
    tfagg Try.prog 50 0 = (some false) ∧
    tfld Try.prog 50 1 = (some (1, 1)) ∧
    tfagg Try.prog 50 1 = (some false) ∧
    tfld Try.prog 50 2 = (some (2, 1)) ∧
    tfagg Try.prog 50 2 = (some false) :=
  ⟨by kernel_rfl, by kernel_rfl, by kernel_rfl, by kernel_rfl, by kernel_rfl, by kernel_rfl, by kernel_rfl, by kernel_rfl, by kernel_rfl, by kernel_rfl, by kernel_rfl, by kernel_rfl, by kernel_rfl, by kernel_rfl, by kernel_rfl, by kernel_rfl, by kernel_rfl, by kernel_rfl⟩
end Go.Proofs.Ytlnkebnkjofaiaa
