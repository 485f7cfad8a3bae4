/- Facts on the types of the program. -/
import Derived.Test.YtckjgipcephmfaaDoorEngC
import Derived.Test.YtckjgipcephmfaaDoorProg
namespace Go.Proofs.YtckjgipcephmfaaDoor
open Go.RowKit
set_option linter.unusedSimpArgs false
set_option linter.unusedVariables false
set_option maxRecDepth 100000
theorem ty3 : tagg Tryd.prog 3 = (some false) ∧
    tsz Tryd.prog 3 = (some 1) ∧
    tel Tryd.prog 3 = none ∧
    tint Tryd.prog 3 = (some .i64) ∧
    tstr Tryd.prog 3 = false ∧
    tbool Tryd.prog 3 = false ∧
    tarr Tryd.prog 3 = none ∧
    tby Tryd.prog 3 = (some 8) ∧
    tzero Tryd.prog 3 = (some [(Value.int .i64 0)]) ∧
    (Tryd.prog.underlying 3).isSome = true ∧
    tcmp Tryd.prog 3 = false ∧
    tflds Tryd.prog 3 = none :=
  ⟨by kernel_rfl, by kernel_rfl, by kernel_rfl, by kernel_rfl, by kernel_rfl, by kernel_rfl, by kernel_rfl, by kernel_rfl, by kernel_rfl, by kernel_rfl, by kernel_rfl, by kernel_rfl⟩
theorem ty4 : tagg Tryd.prog 4 = (some false) ∧
    tsz Tryd.prog 4 = (some 1) ∧
    tel Tryd.prog 4 = none ∧
    tint Tryd.prog 4 = none ∧
    tstr Tryd.prog 4 = false ∧
    tbool Tryd.prog 4 = true ∧
    tarr Tryd.prog 4 = none ∧
    tby Tryd.prog 4 = (some 1) ∧
    tzero Tryd.prog 4 = (some [(Value.bool false)]) ∧
    (Tryd.prog.underlying 4).isSome = true ∧
    tcmp Tryd.prog 4 = false ∧
    tflds Tryd.prog 4 = none :=
  ⟨by kernel_rfl, by kernel_rfl, by kernel_rfl, by kernel_rfl, by kernel_rfl, by kernel_rfl, by kernel_rfl, by kernel_rfl, by kernel_rfl, by kernel_rfl, by kernel_rfl, by kernel_rfl⟩
theorem ty5 : tagg Tryd.prog 5 = (some false) ∧
    tsz Tryd.prog 5 = (some 1) ∧
    tel Tryd.prog 5 = none ∧
    tint Tryd.prog 5 = (some .u8) ∧
    tstr Tryd.prog 5 = false ∧
    tbool Tryd.prog 5 = false ∧
    tarr Tryd.prog 5 = none ∧
    tby Tryd.prog 5 = (some 1) ∧
    tzero Tryd.prog 5 = (some [(Value.int .u8 0)]) ∧
    (Tryd.prog.underlying 5).isSome = true ∧
    tcmp Tryd.prog 5 = false ∧
    tflds Tryd.prog 5 = none :=
  ⟨by kernel_rfl, by kernel_rfl, by kernel_rfl, by kernel_rfl, by kernel_rfl, by kernel_rfl, by kernel_rfl, by kernel_rfl, by kernel_rfl, by kernel_rfl, by kernel_rfl, by kernel_rfl⟩
theorem ty9 : tagg Tryd.prog 9 = (some false) ∧
    tsz Tryd.prog 9 = (some 1) ∧
    tel Tryd.prog 9 = none ∧
    tint Tryd.prog 9 = none ∧
    tstr Tryd.prog 9 = true ∧
    tbool Tryd.prog 9 = false ∧
    tarr Tryd.prog 9 = none ∧
    tby Tryd.prog 9 = (some 16) ∧
    tzero Tryd.prog 9 = (some [(Value.string ⟨#[]⟩)]) ∧
    (Tryd.prog.underlying 9).isSome = true ∧
    tcmp Tryd.prog 9 = false ∧
    tflds Tryd.prog 9 = none :=
  ⟨by kernel_rfl, by kernel_rfl, by kernel_rfl, by kernel_rfl, by kernel_rfl, by kernel_rfl, by kernel_rfl, by kernel_rfl, by kernel_rfl, by kernel_rfl, by kernel_rfl, by kernel_rfl⟩
theorem ty22 : tagg Tryd.prog 22 = (some false) ∧
    tsz Tryd.prog 22 = (some 1) ∧
    tel Tryd.prog 22 = (some 42) ∧
    tint Tryd.prog 22 = none ∧
    tstr Tryd.prog 22 = false ∧
    tbool Tryd.prog 22 = false ∧
    tarr Tryd.prog 22 = none ∧
    tby Tryd.prog 22 = (some 24) ∧
    tzero Tryd.prog 22 = (some [(Value.slice none 0 0)]) ∧
    (Tryd.prog.underlying 22).isSome = true ∧
    tcmp Tryd.prog 22 = false ∧
    tflds Tryd.prog 22 = none :=
  ⟨by kernel_rfl, by kernel_rfl, by kernel_rfl, by kernel_rfl, by kernel_rfl, by kernel_rfl, by kernel_rfl, by kernel_rfl, by kernel_rfl, by kernel_rfl, by kernel_rfl, by kernel_rfl⟩
theorem ty23 : tagg Tryd.prog 23 = (some false) ∧
    tsz Tryd.prog 23 = (some 1) ∧
    tel Tryd.prog 23 = (some 5) ∧
    tint Tryd.prog 23 = none ∧
    tstr Tryd.prog 23 = false ∧
    tbool Tryd.prog 23 = false ∧
    tarr Tryd.prog 23 = none ∧
    tby Tryd.prog 23 = (some 24) ∧
    tzero Tryd.prog 23 = (some [(Value.slice none 0 0)]) ∧
    (Tryd.prog.underlying 23).isSome = true ∧
    tcmp Tryd.prog 23 = false ∧
    tflds Tryd.prog 23 = none :=
  ⟨by kernel_rfl, by kernel_rfl, by kernel_rfl, by kernel_rfl, by kernel_rfl, by kernel_rfl, by kernel_rfl, by kernel_rfl, by kernel_rfl, by kernel_rfl, by kernel_rfl, by kernel_rfl⟩
theorem ty24 : tagg Tryd.prog 24 = (some false) ∧
    tsz Tryd.prog 24 = (some 1) ∧
    tel Tryd.prog 24 = none ∧
    tint Tryd.prog 24 = (some .i64) ∧
    tstr Tryd.prog 24 = false ∧
    tbool Tryd.prog 24 = false ∧
    tarr Tryd.prog 24 = none ∧
    tby Tryd.prog 24 = (some 8) ∧
    tzero Tryd.prog 24 = (some [(Value.int .i64 0)]) ∧
    (Tryd.prog.underlying 24).isSome = true ∧
    tcmp Tryd.prog 24 = false ∧
    tflds Tryd.prog 24 = none :=
  ⟨by kernel_rfl, by kernel_rfl, by kernel_rfl, by kernel_rfl, by kernel_rfl, by kernel_rfl, by kernel_rfl, by kernel_rfl, by kernel_rfl, by kernel_rfl, by kernel_rfl, by kernel_rfl⟩
theorem ty30 : tagg Tryd.prog 30 = (some true) ∧
    tsz Tryd.prog 30 = (some 1) ∧
    tel Tryd.prog 30 = none ∧
    tint Tryd.prog 30 = none ∧
    tstr Tryd.prog 30 = false ∧
    tbool Tryd.prog 30 = false ∧
    tarr Tryd.prog 30 = none ∧
    tby Tryd.prog 30 = (some 24) ∧
    tzero Tryd.prog 30 = (some [(Value.slice none 0 0)]) ∧
    (Tryd.prog.underlying 30).isSome = true ∧
    tcmp Tryd.prog 30 = true ∧
    tflds Tryd.prog 30 = (some [(0, 1)]) ∧
    tfld Tryd.prog 30 0 = (some (0, 1)) ∧
    tfagg Tryd.prog 30 0 = (some false) :=
  ⟨by kernel_rfl, by kernel_rfl, by kernel_rfl, by kernel_rfl, by kernel_rfl, by kernel_rfl, by kernel_rfl, by kernel_rfl, by kernel_rfl, by kernel_rfl, by kernel_rfl, by kernel_rfl, by kernel_rfl, by kernel_rfl⟩
theorem ty33 : tagg Tryd.prog 33 = (some true) ∧
    tsz Tryd.prog 33 = (some 3) ∧
    tel Tryd.prog 33 = none ∧
    tint Tryd.prog 33 = none ∧
    tstr Tryd.prog 33 = false ∧
    tbool Tryd.prog 33 = false ∧
    tarr Tryd.prog 33 = none ∧
    tby Tryd.prog 33 = (some 32) ∧
    tzero Tryd.prog 33 = (some [(Value.string ⟨#[]⟩), (Value.int .i64 0), (Value.int .i64 0)]) ∧
    (Tryd.prog.underlying 33).isSome = true ∧
    tcmp Tryd.prog 33 = true ∧
    tflds Tryd.prog 33 = (some [(0, 1), (1, 1), (2, 1)]) ∧
    tfld Tryd.prog 33 0 = (some (0, 1)) ∧
    tfagg Tryd.prog 33 0 = (some false) ∧
    tfld Tryd.prog 33 1 = (some (1, 1)) ∧
    tfagg Tryd.prog 33 1 = (some false) ∧
    tfld Tryd.prog 33 2 = (some (2, 1)) ∧
    tfagg Tryd.prog 33 2 = (some false) :=
  ⟨by kernel_rfl, by kernel_rfl, by kernel_rfl, by kernel_rfl, by kernel_rfl, by kernel_rfl, by kernel_rfl, by kernel_rfl, by kernel_rfl, by kernel_rfl, by kernel_rfl, by kernel_rfl, by kernel_rfl, by kernel_rfl, by kernel_rfl, by kernel_rfl, by kernel_rfl, by kernel_rfl⟩
theorem ty34 : tagg Tryd.prog 34 = (some false) ∧
    tsz Tryd.prog 34 = (some 1) ∧
    tel Tryd.prog 34 = (some 3) ∧
    tint Tryd.prog 34 = none ∧
    tstr Tryd.prog 34 = false ∧
    tbool Tryd.prog 34 = false ∧
    tarr Tryd.prog 34 = none ∧
    tby Tryd.prog 34 = (some 24) ∧
    tzero Tryd.prog 34 = (some [(Value.slice none 0 0)]) ∧
    (Tryd.prog.underlying 34).isSome = true ∧
    tcmp Tryd.prog 34 = false ∧
    tflds Tryd.prog 34 = none :=
  ⟨by kernel_rfl, by kernel_rfl, by kernel_rfl, by kernel_rfl, by kernel_rfl, by kernel_rfl, by kernel_rfl, by kernel_rfl, by kernel_rfl, by kernel_rfl, by kernel_rfl, by kernel_rfl⟩
theorem ty36 : tagg Tryd.prog 36 = (some true) ∧
    tsz Tryd.prog 36 = (some 12) ∧
    tel Tryd.prog 36 = none ∧
    tint Tryd.prog 36 = none ∧
    tstr Tryd.prog 36 = false ∧
    tbool Tryd.prog 36 = false ∧
    tarr Tryd.prog 36 = none ∧
    tby Tryd.prog 36 = (some 120) ∧
    tzero Tryd.prog 36 = (some [(Value.int .i64 0), (Value.string ⟨#[]⟩), (Value.string ⟨#[]⟩), (Value.bool false), (Value.bool false), (Value.int .i64 0), (Value.int .i64 0), (Value.int .i64 0), (Value.slice none 0 0), (Value.int .i64 0), (Value.int .i64 0), (Value.int .i64 0)]) ∧
    (Tryd.prog.underlying 36).isSome = true ∧
    tcmp Tryd.prog 36 = true ∧
    tflds Tryd.prog 36 = (some [(0, 1), (1, 1), (2, 1), (3, 1), (4, 1), (5, 1), (6, 1), (7, 1), (8, 1), (9, 1), (10, 1), (11, 1)]) ∧
    tfld Tryd.prog 36 0 = (some (0, 1)) ∧
    tfagg Tryd.prog 36 0 = (some false) ∧
    tfld Tryd.prog 36 1 = (some (1, 1)) ∧
    tfagg Tryd.prog 36 1 = (some false) ∧
    tfld Tryd.prog 36 2 = (some (2, 1)) ∧
    tfagg Tryd.prog 36 2 = (some false) ∧
    tfld Tryd.prog 36 3 = (some (3, 1)) ∧
    tfagg Tryd.prog 36 3 = (some false) ∧
    tfld Tryd.prog 36 4 = (some (4, 1)) ∧
    tfagg Tryd.prog 36 4 = (some false) ∧
    tfld Tryd.prog 36 5 = (some (5, 1)) ∧
    tfagg Tryd.prog 36 5 = (some false) ∧
    tfld Tryd.prog 36 6 = (some (6, 1)) ∧
    tfagg Tryd.prog 36 6 = (some false) ∧
    tfld Tryd.prog 36 7 = (some (7, 1)) ∧
    tfagg Tryd.prog 36 7 = (some false) ∧
    tfld Tryd.prog 36 8 = (some (8, 1)) ∧
    tfagg Tryd.prog 36 8 = (some false) ∧
    tfld Tryd.prog 36 9 = (some (9, 1)) ∧
    tfagg Tryd.prog 36 9 = (some false) ∧
    tfld Tryd.prog 36 10 = (some (10, 1)) ∧
    tfagg Tryd.prog 36 10 = (some false) ∧
    tfld Tryd.prog 36 11 = (some (11, 1)) ∧
    tfagg Tryd.prog 36 11 = (some false) :=
  ⟨by kernel_rfl, by kernel_rfl, by kernel_rfl, by kernel_rfl, by kernel_rfl, by kernel_rfl, by kernel_rfl, by kernel_rfl, by kernel_rfl, by kernel_rfl, by kernel_rfl, by kernel_rfl, by kernel_rfl, by kernel_rfl, by kernel_rfl, by kernel_rfl, by kernel_rfl, by kernel_rfl, by kernel_rfl, by kernel_rfl, by kernel_rfl, by kernel_rfl, by kernel_rfl, by kernel_rfl, by kernel_rfl, by kernel_rfl, by kernel_rfl, by kernel_rfl, by kernel_rfl, by kernel_rfl, by kernel_rfl, by kernel_rfl, by kernel_rfl, by kernel_rfl, by kernel_rfl, by kernel_rfl⟩
theorem ty38 : tagg Tryd.prog 38 = (some true) ∧
    tsz Tryd.prog 38 = (some 3) ∧
    tel Tryd.prog 38 = none ∧
    tint Tryd.prog 38 = none ∧
    tstr Tryd.prog 38 = false ∧
    tbool Tryd.prog 38 = false ∧
    tarr Tryd.prog 38 = none ∧
    tby Tryd.prog 38 = (some 24) ∧
    tzero Tryd.prog 38 = (some [(Value.int .i64 0), (Value.int .i64 0), (Value.int .i64 0)]) ∧
    (Tryd.prog.underlying 38).isSome = true ∧
    tcmp Tryd.prog 38 = true ∧
    tflds Tryd.prog 38 = (some [(0, 1), (1, 1), (2, 1)]) ∧
    tfld Tryd.prog 38 0 = (some (0, 1)) ∧
    tfagg Tryd.prog 38 0 = (some false) ∧
    tfld Tryd.prog 38 1 = (some (1, 1)) ∧
    tfagg Tryd.prog 38 1 = (some false) ∧
    tfld Tryd.prog 38 2 = (some (2, 1)) ∧
    tfagg Tryd.prog 38 2 = (some false) :=
  ⟨by kernel_rfl, by kernel_rfl, by kernel_rfl, by kernel_rfl, by kernel_rfl, by kernel_rfl, by kernel_rfl, by kernel_rfl, by kernel_rfl, by kernel_rfl, by kernel_rfl, by kernel_rfl, by kernel_rfl, by kernel_rfl, by kernel_rfl, by kernel_rfl, by kernel_rfl, by kernel_rfl⟩
theorem ty40 : tagg Tryd.prog 40 = (some true) ∧
    tsz Tryd.prog 40 = (some 3) ∧
    tel Tryd.prog 40 = none ∧
    tint Tryd.prog 40 = none ∧
    tstr Tryd.prog 40 = false ∧
    tbool Tryd.prog 40 = false ∧
    tarr Tryd.prog 40 = none ∧
    tby Tryd.prog 40 = (some 40) ∧
    tzero Tryd.prog 40 = (some [(Value.int .i64 0), (Value.int .i64 0), (Value.slice none 0 0)]) ∧
    (Tryd.prog.underlying 40).isSome = true ∧
    tcmp Tryd.prog 40 = true ∧
    tflds Tryd.prog 40 = (some [(0, 1), (1, 1), (2, 1)]) ∧
    tfld Tryd.prog 40 0 = (some (0, 1)) ∧
    tfagg Tryd.prog 40 0 = (some false) ∧
    tfld Tryd.prog 40 1 = (some (1, 1)) ∧
    tfagg Tryd.prog 40 1 = (some false) ∧
    tfld Tryd.prog 40 2 = (some (2, 1)) ∧
    tfagg Tryd.prog 40 2 = (some false) :=
  ⟨by kernel_rfl, by kernel_rfl, by kernel_rfl, by kernel_rfl, by kernel_rfl, by kernel_rfl, by kernel_rfl, by kernel_rfl, by kernel_rfl, by kernel_rfl, by kernel_rfl, by kernel_rfl, by kernel_rfl, by kernel_rfl, by kernel_rfl, by kernel_rfl, by kernel_rfl, by kernel_rfl⟩
theorem ty42 : tagg Tryd.prog 42 = (some true) ∧
    tsz Tryd.prog 42 = (some 29) ∧
    tel Tryd.prog 42 = none ∧
    tint Tryd.prog 42 = none ∧
    tstr Tryd.prog 42 = false ∧
    tbool Tryd.prog 42 = false ∧
    tarr Tryd.prog 42 = none ∧
    tby Tryd.prog 42 = (some 312) ∧
    tzero Tryd.prog 42 = (some [(Value.int .i64 0), (Value.int .i64 0), (Value.int .i64 0), (Value.string ⟨#[]⟩), (Value.string ⟨#[]⟩), (Value.string ⟨#[]⟩), (Value.int .i64 0), (Value.int .i64 0), (Value.int .i64 0), (Value.string ⟨#[]⟩), (Value.string ⟨#[]⟩), (Value.bool false), (Value.bool false), (Value.int .i64 0), (Value.int .i64 0), (Value.int .i64 0), (Value.slice none 0 0), (Value.int .i64 0), (Value.int .i64 0), (Value.int .i64 0), (Value.int .i64 0), (Value.int .i64 0), (Value.int .i64 0), (Value.int .i64 0), (Value.int .i64 0), (Value.slice none 0 0), (Value.slice none 0 0), (Value.int .i64 0), (Value.int .i64 0)]) ∧
    (Tryd.prog.underlying 42).isSome = true ∧
    tcmp Tryd.prog 42 = true ∧
    tflds Tryd.prog 42 = (some [(0, 1), (1, 1), (2, 1), (3, 1), (4, 1), (5, 3), (8, 12), (20, 3), (23, 3), (26, 1), (27, 1), (28, 1)]) ∧
    tfld Tryd.prog 42 0 = (some (0, 1)) ∧
    tfagg Tryd.prog 42 0 = (some false) ∧
    tfld Tryd.prog 42 1 = (some (1, 1)) ∧
    tfagg Tryd.prog 42 1 = (some false) ∧
    tfld Tryd.prog 42 2 = (some (2, 1)) ∧
    tfagg Tryd.prog 42 2 = (some false) ∧
    tfld Tryd.prog 42 3 = (some (3, 1)) ∧
    tfagg Tryd.prog 42 3 = (some false) ∧
    tfld Tryd.prog 42 4 = (some (4, 1)) ∧
    tfagg Tryd.prog 42 4 = (some false) ∧
    tfld Tryd.prog 42 5 = (some (5, 3)) ∧
    tfagg Tryd.prog 42 5 = (some true) ∧
    tfld Tryd.prog 42 6 = (some (8, 12)) ∧
    tfagg Tryd.prog 42 6 = (some true) ∧
    tfld Tryd.prog 42 7 = (some (20, 3)) ∧
    tfagg Tryd.prog 42 7 = (some true) ∧
    tfld Tryd.prog 42 8 = (some (23, 3)) ∧
    tfagg Tryd.prog 42 8 = (some true) ∧
    tfld Tryd.prog 42 9 = (some (26, 1)) ∧
    tfagg Tryd.prog 42 9 = (some false) ∧
    tfld Tryd.prog 42 10 = (some (27, 1)) ∧
    tfagg Tryd.prog 42 10 = (some false) ∧
    tfld Tryd.prog 42 11 = (some (28, 1)) ∧
    tfagg Tryd.prog 42 11 = (some false) :=
  ⟨by kernel_rfl, by kernel_rfl, by kernel_rfl, by kernel_rfl, by kernel_rfl, by kernel_rfl, by kernel_rfl, by kernel_rfl, by kernel_rfl, by kernel_rfl, by kernel_rfl, by kernel_rfl, by kernel_rfl, by kernel_rfl, by kernel_rfl, by kernel_rfl, by kernel_rfl, by kernel_rfl, by kernel_rfl, by kernel_rfl, by kernel_rfl, by kernel_rfl, by kernel_rfl, by kernel_rfl, by kernel_rfl, by kernel_rfl, by kernel_rfl, by kernel_rfl, by kernel_rfl, by kernel_rfl, by kernel_rfl, by kernel_rfl, by kernel_rfl, by kernel_rfl, by kernel_rfl, by kernel_rfl⟩
theorem ty51 : tagg Tryd.prog 51 = (some true) ∧
    tsz Tryd.prog 51 = (some 11) ∧
    tel Tryd.prog 51 = none ∧
    tint Tryd.prog 51 = none ∧
    tstr Tryd.prog 51 = false ∧
    tbool Tryd.prog 51 = false ∧
    tarr Tryd.prog 51 = none ∧
    tby Tryd.prog 51 = (some 11) ∧
    tzero Tryd.prog 51 = (some [(Value.bool false), (Value.bool false), (Value.bool false), (Value.bool false), (Value.bool false), (Value.bool false), (Value.bool false), (Value.bool false), (Value.bool false), (Value.bool false), (Value.bool false)]) ∧
    (Tryd.prog.underlying 51).isSome = true ∧
    tcmp Tryd.prog 51 = true ∧
    tflds Tryd.prog 51 = (some [(0, 1), (1, 1), (2, 1), (3, 1), (4, 1), (5, 1), (6, 1), (7, 1), (8, 1), (9, 1), (10, 1)]) ∧
    tfld Tryd.prog 51 0 = (some (0, 1)) ∧
    tfagg Tryd.prog 51 0 = (some false) ∧
    tfld Tryd.prog 51 1 = (some (1, 1)) ∧
    tfagg Tryd.prog 51 1 = (some false) ∧
    tfld Tryd.prog 51 2 = (some (2, 1)) ∧
    tfagg Tryd.prog 51 2 = (some false) ∧
    tfld Tryd.prog 51 3 = (some (3, 1)) ∧
    tfagg Tryd.prog 51 3 = (some false) ∧
    tfld Tryd.prog 51 4 = (some (4, 1)) ∧
    tfagg Tryd.prog 51 4 = (some false) ∧
    tfld Tryd.prog 51 5 = (some (5, 1)) ∧
    tfagg Tryd.prog 51 5 = (some false) ∧
    tfld Tryd.prog 51 6 = (some (6, 1)) ∧
    tfagg Tryd.prog 51 6 = (some false) ∧
    tfld Tryd.prog 51 7 = (some (7, 1)) ∧
    tfagg Tryd.prog 51 7 = (some false) ∧
    tfld Tryd.prog 51 8 = (some (8, 1)) ∧
    tfagg Tryd.prog 51 8 = (some false) ∧
    tfld Tryd.prog 51 9 = (some (9, 1)) ∧
    tfagg Tryd.prog 51 9 = (some false) ∧
    tfld Tryd.prog 51 10 = (some (10, 1)) ∧
    tfagg Tryd.prog 51 10 = (some false) :=
  ⟨by kernel_rfl, by kernel_rfl, by kernel_rfl, by kernel_rfl, by kernel_rfl, by kernel_rfl, by kernel_rfl, by kernel_rfl, by kernel_rfl, by kernel_rfl, by kernel_rfl, by kernel_rfl, by kernel_rfl, by kernel_rfl, by kernel_rfl, by kernel_rfl, by kernel_rfl, by kernel_rfl, by kernel_rfl, by kernel_rfl, by kernel_rfl, by kernel_rfl, by kernel_rfl, by kernel_rfl, by kernel_rfl, by kernel_rfl, by kernel_rfl, by kernel_rfl, by kernel_rfl, by kernel_rfl, by kernel_rfl, by kernel_rfl, by kernel_rfl, by kernel_rfl⟩
theorem ty52 : tagg Tryd.prog 52 = (some true) ∧
    tsz Tryd.prog 52 = (some 165) ∧
    tel Tryd.prog 52 = none ∧
    tint Tryd.prog 52 = none ∧
    tstr Tryd.prog 52 = false ∧
    tbool Tryd.prog 52 = false ∧
    tarr Tryd.prog 52 = (some (15, 51)) ∧
    tby Tryd.prog 52 = (some 165) ∧
    tzero Tryd.prog 52 = (some [(Value.bool false), (Value.bool false), (Value.bool false), (Value.bool false), (Value.bool false), (Value.bool false), (Value.bool false), (Value.bool false), (Value.bool false), (Value.bool false), (Value.bool false), (Value.bool false), (Value.bool false), (Value.bool false), (Value.bool false), (Value.bool false), (Value.bool false), (Value.bool false), (Value.bool false), (Value.bool false), (Value.bool false), (Value.bool false), (Value.bool false), (Value.bool false), (Value.bool false), (Value.bool false), (Value.bool false), (Value.bool false), (Value.bool false), (Value.bool false), (Value.bool false), (Value.bool false), (Value.bool false), (Value.bool false), (Value.bool false), (Value.bool false), (Value.bool false), (Value.bool false), (Value.bool false), (Value.bool false), (Value.bool false), (Value.bool false), (Value.bool false), (Value.bool false), (Value.bool false), (Value.bool false), (Value.bool false), (Value.bool false), (Value.bool false), (Value.bool false), (Value.bool false), (Value.bool false), (Value.bool false), (Value.bool false), (Value.bool false), (Value.bool false), (Value.bool false), (Value.bool false), (Value.bool false), (Value.bool false), (Value.bool false), (Value.bool false), (Value.bool false), (Value.bool false), (Value.bool false), (Value.bool false), (Value.bool false), (Value.bool false), (Value.bool false), (Value.bool false), (Value.bool false), (Value.bool false), (Value.bool false), (Value.bool false), (Value.bool false), (Value.bool false), (Value.bool false), (Value.bool false), (Value.bool false), (Value.bool false), (Value.bool false), (Value.bool false), (Value.bool false), (Value.bool false), (Value.bool false), (Value.bool false), (Value.bool false), (Value.bool false), (Value.bool false), (Value.bool false), (Value.bool false), (Value.bool false), (Value.bool false), (Value.bool false), (Value.bool false), (Value.bool false), (Value.bool false), (Value.bool false), (Value.bool false), (Value.bool false), (Value.bool false), (Value.bool false), (Value.bool false), (Value.bool false), (Value.bool false), (Value.bool false), (Value.bool false), (Value.bool false), (Value.bool false), (Value.bool false), (Value.bool false), (Value.bool false), (Value.bool false), (Value.bool false), (Value.bool false), (Value.bool false), (Value.bool false), (Value.bool false), (Value.bool false), (Value.bool false), (Value.bool false), (Value.bool false), (Value.bool false), (Value.bool false), (Value.bool false), (Value.bool false), (Value.bool false), (Value.bool false), (Value.bool false), (Value.bool false), (Value.bool false), (Value.bool false), (Value.bool false), (Value.bool false), (Value.bool false), (Value.bool false), (Value.bool false), (Value.bool false), (Value.bool false), (Value.bool false), (Value.bool false), (Value.bool false), (Value.bool false), (Value.bool false), (Value.bool false), (Value.bool false), (Value.bool false), (Value.bool false), (Value.bool false), (Value.bool false), (Value.bool false), (Value.bool false), (Value.bool false), (Value.bool false), (Value.bool false), (Value.bool false), (Value.bool false), (Value.bool false), (Value.bool false), (Value.bool false), (Value.bool false), (Value.bool false), (Value.bool false), (Value.bool false), (Value.bool false)]) ∧
    (Tryd.prog.underlying 52).isSome = true ∧
    tcmp Tryd.prog 52 = true ∧
    tflds Tryd.prog 52 = none :=
  ⟨by kernel_rfl, by kernel_rfl, by kernel_rfl, by kernel_rfl, by kernel_rfl, by kernel_rfl, by kernel_rfl, by kernel_rfl, by kernel_rfl, by kernel_rfl, by kernel_rfl, by kernel_rfl⟩
theorem ty61 : tagg Tryd.prog 61 = (some false) ∧
    tsz Tryd.prog 61 = (some 1) ∧
    tel Tryd.prog 61 = (some 23) ∧
    tint Tryd.prog 61 = none ∧
    tstr Tryd.prog 61 = false ∧
    tbool Tryd.prog 61 = false ∧
    tarr Tryd.prog 61 = none ∧
    tby Tryd.prog 61 = (some 24) ∧
    tzero Tryd.prog 61 = (some [(Value.slice none 0 0)]) ∧
    (Tryd.prog.underlying 61).isSome = true ∧
    tcmp Tryd.prog 61 = false ∧
    tflds Tryd.prog 61 = none :=
  ⟨by kernel_rfl, by kernel_rfl, by kernel_rfl, by kernel_rfl, by kernel_rfl, by kernel_rfl, by kernel_rfl, by kernel_rfl, by kernel_rfl, by kernel_rfl, by kernel_rfl, by kernel_rfl⟩
theorem ty71 : tagg Tryd.prog 71 = (some false) ∧
    tsz Tryd.prog 71 = (some 1) ∧
    tel Tryd.prog 71 = (some 9) ∧
    tint Tryd.prog 71 = none ∧
    tstr Tryd.prog 71 = false ∧
    tbool Tryd.prog 71 = false ∧
    tarr Tryd.prog 71 = none ∧
    tby Tryd.prog 71 = (some 24) ∧
    tzero Tryd.prog 71 = (some [(Value.slice none 0 0)]) ∧
    (Tryd.prog.underlying 71).isSome = true ∧
    tcmp Tryd.prog 71 = false ∧
    tflds Tryd.prog 71 = none :=
  ⟨by kernel_rfl, by kernel_rfl, by kernel_rfl, by kernel_rfl, by kernel_rfl, by kernel_rfl, by kernel_rfl, by kernel_rfl, by kernel_rfl, by kernel_rfl, by kernel_rfl, by kernel_rfl⟩
end Go.Proofs.YtckjgipcephmfaaDoor
