/- Facts on the types of the program. -/
import Derived.Test.YtijpmidnclbhpaaDoorEngC
import Derived.Test.YtijpmidnclbhpaaDoorProg
namespace Go.Proofs.YtijpmidnclbhpaaDoor
open Go.RowKit
set_option linter.unusedSimpArgs false
set_option linter.unusedVariables false
set_option maxRecDepth 100000
theorem ty3 : tagg Tryd.prog 3 = (some false) ∧
    tsz Tryd.prog 3 = (some 1) ∧
    tel Tryd.prog 3 = none ∧
    tint Tryd.prog 3 = (some .i64) ∧
    tstr Tryd.prog 3 = false ∧
    tbool Tryd.prog 3 = false ∧
    tarr Tryd.prog 3 = none ∧
    tby Tryd.prog 3 = (some 8) ∧
    tzero Tryd.prog 3 = (some [(Value.int .i64 0)]) ∧
    (Tryd.prog.underlying 3).isSome = true ∧
    tcmp Tryd.prog 3 = false ∧
    tflds Tryd.prog 3 = none :=
  ⟨by kernel_rfl, by kernel_rfl, by kernel_rfl, by kernel_rfl, by kernel_rfl, by kernel_rfl, by kernel_rfl, by kernel_rfl, by kernel_rfl, by kernel_rfl, by kernel_rfl, by kernel_rfl⟩
theorem ty4 : tagg Tryd.prog 4 = (some false) ∧
    tsz Tryd.prog 4 = (some 1) ∧
    tel Tryd.prog 4 = none ∧
    tint Tryd.prog 4 = none ∧
    tstr Tryd.prog 4 = false ∧
    tbool Tryd.prog 4 = true ∧
    tarr Tryd.prog 4 = none ∧
    tby Tryd.prog 4 = (some 1) ∧
    tzero Tryd.prog 4 = (some [(Value.bool false)]) ∧
    (Tryd.prog.underlying 4).isSome = true ∧
    tcmp Tryd.prog 4 = false ∧
    tflds Tryd.prog 4 = none :=
  ⟨by kernel_rfl, by kernel_rfl, by kernel_rfl, by kernel_rfl, by kernel_rfl, by kernel_rfl, by kernel_rfl, by kernel_rfl, by kernel_rfl, by kernel_rfl, by kernel_rfl, by kernel_rfl⟩
theorem ty5 : tagg Tryd.prog 5 = (some false) ∧
    tsz Tryd.prog 5 = (some 1) ∧
    tel Tryd.prog 5 = none ∧
    tint Tryd.prog 5 = (some .u8) ∧
    tstr Tryd.prog 5 = false ∧
    tbool Tryd.prog 5 = false ∧
    tarr Tryd.prog 5 = none ∧
    tby Tryd.prog 5 = (some 1) ∧
    tzero Tryd.prog 5 = (some [(Value.int .u8 0)]) ∧
    (Tryd.prog.underlying 5).isSome = true ∧
    tcmp Tryd.prog 5 = false ∧
    tflds Tryd.prog 5 = none :=
  ⟨by kernel_rfl, by kernel_rfl, by kernel_rfl, by kernel_rfl, by kernel_rfl, by kernel_rfl, by kernel_rfl, by kernel_rfl, by kernel_rfl, by kernel_rfl, by kernel_rfl, by kernel_rfl⟩
theorem ty9 : tagg Tryd.prog 9 = (some false) ∧
    tsz Tryd.prog 9 = (some 1) ∧
    tel Tryd.prog 9 = none ∧
    tint Tryd.prog 9 = none ∧
    tstr Tryd.prog 9 = true ∧
    tbool Tryd.prog 9 = false ∧
    tarr Tryd.prog 9 = none ∧
    tby Tryd.prog 9 = (some 16) ∧
    tzero Tryd.prog 9 = (some [(Value.string ⟨#[]⟩)]) ∧
    (Tryd.prog.underlying 9).isSome = true ∧
    tcmp Tryd.prog 9 = false ∧
    tflds Tryd.prog 9 = none :=
  ⟨by kernel_rfl, by kernel_rfl, by kernel_rfl, by kernel_rfl, by kernel_rfl, by kernel_rfl, by kernel_rfl, by kernel_rfl, by kernel_rfl, by kernel_rfl, by kernel_rfl, by kernel_rfl⟩
theorem ty23 : tagg Tryd.prog 23 = (some true) ∧
    tsz Tryd.prog 23 = (some 3) ∧
    tel Tryd.prog 23 = none ∧
    tint Tryd.prog 23 = none ∧
    tstr Tryd.prog 23 = false ∧
    tbool Tryd.prog 23 = false ∧
    tarr Tryd.prog 23 = none ∧
    tby Tryd.prog 23 = (some 32) ∧
    tzero Tryd.prog 23 = (some [(Value.string ⟨#[]⟩), (Value.int .i64 0), (Value.int .i64 0)]) ∧
    (Tryd.prog.underlying 23).isSome = true ∧
    tcmp Tryd.prog 23 = true ∧
    tflds Tryd.prog 23 = (some [(0, 1), (1, 1), (2, 1)]) ∧
    tfld Tryd.prog 23 0 = (some (0, 1)) ∧
    tfagg Tryd.prog 23 0 = (some false) ∧
    tfld Tryd.prog 23 1 = (some (1, 1)) ∧
    tfagg Tryd.prog 23 1 = (some false) ∧
    tfld Tryd.prog 23 2 = (some (2, 1)) ∧
    tfagg Tryd.prog 23 2 = (some false) :=
  ⟨by kernel_rfl, by kernel_rfl, by kernel_rfl, by kernel_rfl, by kernel_rfl, by kernel_rfl, by kernel_rfl, by kernel_rfl, by kernel_rfl, by kernel_rfl, by kernel_rfl, by kernel_rfl, by kernel_rfl, by kernel_rfl, by kernel_rfl, by kernel_rfl, by kernel_rfl, by kernel_rfl⟩
theorem ty24 : tagg Tryd.prog 24 = (some false) ∧
    tsz Tryd.prog 24 = (some 1) ∧
    tel Tryd.prog 24 = (some 3) ∧
    tint Tryd.prog 24 = none ∧
    tstr Tryd.prog 24 = false ∧
    tbool Tryd.prog 24 = false ∧
    tarr Tryd.prog 24 = none ∧
    tby Tryd.prog 24 = (some 24) ∧
    tzero Tryd.prog 24 = (some [(Value.slice none 0 0)]) ∧
    (Tryd.prog.underlying 24).isSome = true ∧
    tcmp Tryd.prog 24 = false ∧
    tflds Tryd.prog 24 = none :=
  ⟨by kernel_rfl, by kernel_rfl, by kernel_rfl, by kernel_rfl, by kernel_rfl, by kernel_rfl, by kernel_rfl, by kernel_rfl, by kernel_rfl, by kernel_rfl, by kernel_rfl, by kernel_rfl⟩
theorem ty26 : tagg Tryd.prog 26 = (some true) ∧
    tsz Tryd.prog 26 = (some 12) ∧
    tel Tryd.prog 26 = none ∧
    tint Tryd.prog 26 = none ∧
    tstr Tryd.prog 26 = false ∧
    tbool Tryd.prog 26 = false ∧
    tarr Tryd.prog 26 = none ∧
    tby Tryd.prog 26 = (some 120) ∧
    tzero Tryd.prog 26 = (some [(Value.int .i64 0), (Value.string ⟨#[]⟩), (Value.string ⟨#[]⟩), (Value.bool false), (Value.bool false), (Value.int .i64 0), (Value.int .i64 0), (Value.int .i64 0), (Value.slice none 0 0), (Value.int .i64 0), (Value.int .i64 0), (Value.int .i64 0)]) ∧
    (Tryd.prog.underlying 26).isSome = true ∧
    tcmp Tryd.prog 26 = true ∧
    tflds Tryd.prog 26 = (some [(0, 1), (1, 1), (2, 1), (3, 1), (4, 1), (5, 1), (6, 1), (7, 1), (8, 1), (9, 1), (10, 1), (11, 1)]) ∧
    tfld Tryd.prog 26 0 = (some (0, 1)) ∧
    tfagg Tryd.prog 26 0 = (some false) ∧
    tfld Tryd.prog 26 1 = (some (1, 1)) ∧
    tfagg Tryd.prog 26 1 = (some false) ∧
    tfld Tryd.prog 26 2 = (some (2, 1)) ∧
    tfagg Tryd.prog 26 2 = (some false) ∧
    tfld Tryd.prog 26 3 = (some (3, 1)) ∧
    tfagg Tryd.prog 26 3 = (some false) ∧
    tfld Tryd.prog 26 4 = (some (4, 1)) ∧
    tfagg Tryd.prog 26 4 = (some false) ∧
    tfld Tryd.prog 26 5 = (some (5, 1)) ∧
    tfagg Tryd.prog 26 5 = (some false) ∧
    tfld Tryd.prog 26 6 = (some (6, 1)) ∧
    tfagg Tryd.prog 26 6 = (some false) ∧
    tfld Tryd.prog 26 7 = (some (7, 1)) ∧
    tfagg Tryd.prog 26 7 = (some false) ∧
    tfld Tryd.prog 26 8 = (some (8, 1)) ∧
    tfagg Tryd.prog 26 8 = (some false) ∧
    tfld Tryd.prog 26 9 = (some (9, 1)) ∧
    tfagg Tryd.prog 26 9 = (some false) ∧
    tfld Tryd.prog 26 10 = (some (10, 1)) ∧
    tfagg Tryd.prog 26 10 = (some false) ∧
    tfld Tryd.prog 26 11 = (some (11, 1)) ∧
    tfagg Tryd.prog 26 11 = (some false) :=
  ⟨by kernel_rfl, by kernel_rfl, by kernel_rfl, by kernel_rfl, by kernel_rfl, by kernel_rfl, by kernel_rfl, by kernel_rfl, by kernel_rfl, by kernel_rfl, by kernel_rfl, by kernel_rfl, by kernel_rfl, by kernel_rfl, by kernel_rfl, by kernel_rfl, by kernel_rfl, by kernel_rfl, by kernel_rfl, by kernel_rfl, by kernel_rfl, by kernel_rfl, by kernel_rfl, by kernel_rfl, by kernel_rfl, by kernel_rfl, by kernel_rfl, by kernel_rfl, by kernel_rfl, by kernel_rfl, by kernel_rfl, by kernel_rfl, by kernel_rfl, by kernel_rfl, by kernel_rfl, by kernel_rfl⟩
theorem ty28 : tagg Tryd.prog 28 = (some true) ∧
    tsz Tryd.prog 28 = (some 3) ∧
    tel Tryd.prog 28 = none ∧
    tint Tryd.prog 28 = none ∧
    tstr Tryd.prog 28 = false ∧
    tbool Tryd.prog 28 = false ∧
    tarr Tryd.prog 28 = none ∧
    tby Tryd.prog 28 = (some 24) ∧
    tzero Tryd.prog 28 = (some [(Value.int .i64 0), (Value.int .i64 0), (Value.int .i64 0)]) ∧
    (Tryd.prog.underlying 28).isSome = true ∧
    tcmp Tryd.prog 28 = true ∧
    tflds Tryd.prog 28 = (some [(0, 1), (1, 1), (2, 1)]) ∧
    tfld Tryd.prog 28 0 = (some (0, 1)) ∧
    tfagg Tryd.prog 28 0 = (some false) ∧
    tfld Tryd.prog 28 1 = (some (1, 1)) ∧
    tfagg Tryd.prog 28 1 = (some false) ∧
    tfld Tryd.prog 28 2 = (some (2, 1)) ∧
    tfagg Tryd.prog 28 2 = (some false) :=
  ⟨by kernel_rfl, by kernel_rfl, by kernel_rfl, by kernel_rfl, by kernel_rfl, by kernel_rfl, by kernel_rfl, by kernel_rfl, by kernel_rfl, by kernel_rfl, by kernel_rfl, by kernel_rfl, by kernel_rfl, by kernel_rfl, by kernel_rfl, by kernel_rfl, by kernel_rfl, by kernel_rfl⟩
theorem ty30 : tagg Tryd.prog 30 = (some true) ∧
    tsz Tryd.prog 30 = (some 3) ∧
    tel Tryd.prog 30 = none ∧
    tint Tryd.prog 30 = none ∧
    tstr Tryd.prog 30 = false ∧
    tbool Tryd.prog 30 = false ∧
    tarr Tryd.prog 30 = none ∧
    tby Tryd.prog 30 = (some 40) ∧
    tzero Tryd.prog 30 = (some [(Value.int .i64 0), (Value.int .i64 0), (Value.slice none 0 0)]) ∧
    (Tryd.prog.underlying 30).isSome = true ∧
    tcmp Tryd.prog 30 = true ∧
    tflds Tryd.prog 30 = (some [(0, 1), (1, 1), (2, 1)]) ∧
    tfld Tryd.prog 30 0 = (some (0, 1)) ∧
    tfagg Tryd.prog 30 0 = (some false) ∧
    tfld Tryd.prog 30 1 = (some (1, 1)) ∧
    tfagg Tryd.prog 30 1 = (some false) ∧
    tfld Tryd.prog 30 2 = (some (2, 1)) ∧
    tfagg Tryd.prog 30 2 = (some false) :=
  ⟨by kernel_rfl, by kernel_rfl, by kernel_rfl, by kernel_rfl, by kernel_rfl, by kernel_rfl, by kernel_rfl, by kernel_rfl, by kernel_rfl, by kernel_rfl, by kernel_rfl, by kernel_rfl, by kernel_rfl, by kernel_rfl, by kernel_rfl, by kernel_rfl, by kernel_rfl, by kernel_rfl⟩
theorem ty32 : tagg Tryd.prog 32 = (some true) ∧
    tsz Tryd.prog 32 = (some 29) ∧
    tel Tryd.prog 32 = none ∧
    tint Tryd.prog 32 = none ∧
    tstr Tryd.prog 32 = false ∧
    tbool Tryd.prog 32 = false ∧
    tarr Tryd.prog 32 = none ∧
    tby Tryd.prog 32 = (some 312) ∧
    tzero Tryd.prog 32 = (some [(Value.int .i64 0), (Value.int .i64 0), (Value.int .i64 0), (Value.string ⟨#[]⟩), (Value.string ⟨#[]⟩), (Value.string ⟨#[]⟩), (Value.int .i64 0), (Value.int .i64 0), (Value.int .i64 0), (Value.string ⟨#[]⟩), (Value.string ⟨#[]⟩), (Value.bool false), (Value.bool false), (Value.int .i64 0), (Value.int .i64 0), (Value.int .i64 0), (Value.slice none 0 0), (Value.int .i64 0), (Value.int .i64 0), (Value.int .i64 0), (Value.int .i64 0), (Value.int .i64 0), (Value.int .i64 0), (Value.int .i64 0), (Value.int .i64 0), (Value.slice none 0 0), (Value.slice none 0 0), (Value.int .i64 0), (Value.int .i64 0)]) ∧
    (Tryd.prog.underlying 32).isSome = true ∧
    tcmp Tryd.prog 32 = true ∧
    tflds Tryd.prog 32 = (some [(0, 1), (1, 1), (2, 1), (3, 1), (4, 1), (5, 3), (8, 12), (20, 3), (23, 3), (26, 1), (27, 1), (28, 1)]) ∧
    tfld Tryd.prog 32 0 = (some (0, 1)) ∧
    tfagg Tryd.prog 32 0 = (some false) ∧
    tfld Tryd.prog 32 1 = (some (1, 1)) ∧
    tfagg Tryd.prog 32 1 = (some false) ∧
    tfld Tryd.prog 32 2 = (some (2, 1)) ∧
    tfagg Tryd.prog 32 2 = (some false) ∧
    tfld Tryd.prog 32 3 = (some (3, 1)) ∧
    tfagg Tryd.prog 32 3 = (some false) ∧
    tfld Tryd.prog 32 4 = (some (4, 1)) ∧
    tfagg Tryd.prog 32 4 = (some false) ∧
    tfld Tryd.prog 32 5 = (some (5, 3)) ∧
    tfagg Tryd.prog 32 5 = (some true) ∧
    tfld Tryd.prog 32 6 = (some (8, 12)) ∧
    tfagg Tryd.prog 32 6 = (some true) ∧
    tfld Tryd.prog 32 7 = (some (20, 3)) ∧
    tfagg Tryd.prog 32 7 = (some true) ∧
    tfld Tryd.prog 32 8 = (some (23, 3)) ∧
    tfagg Tryd.prog 32 8 = (some true) ∧
    tfld Tryd.prog 32 9 = (some (26, 1)) ∧
    tfagg Tryd.prog 32 9 = (some false) ∧
    tfld Tryd.prog 32 10 = (some (27, 1)) ∧
    tfagg Tryd.prog 32 10 = (some false) ∧
    tfld Tryd.prog 32 11 = (some (28, 1)) ∧
    tfagg Tryd.prog 32 11 = (some false) :=
  ⟨by kernel_rfl, by kernel_rfl, by kernel_rfl, by kernel_rfl, by kernel_rfl, by kernel_rfl, by kernel_rfl, by kernel_rfl, by kernel_rfl, by kernel_rfl, by kernel_rfl, by kernel_rfl, by kernel_rfl, by kernel_rfl, by kernel_rfl, by kernel_rfl, by kernel_rfl, by kernel_rfl, by kernel_rfl, by kernel_rfl, by kernel_rfl, by kernel_rfl, by kernel_rfl, by kernel_rfl, by kernel_rfl, by kernel_rfl, by kernel_rfl, by kernel_rfl, by kernel_rfl, by kernel_rfl, by kernel_rfl, by kernel_rfl, by kernel_rfl, by kernel_rfl, by kernel_rfl, by kernel_rfl⟩
theorem ty33 : tagg Tryd.prog 33 = (some false) ∧
    tsz Tryd.prog 33 = (some 1) ∧
    tel Tryd.prog 33 = none ∧
    tint Tryd.prog 33 = (some .i64) ∧
    tstr Tryd.prog 33 = false ∧
    tbool Tryd.prog 33 = false ∧
    tarr Tryd.prog 33 = none ∧
    tby Tryd.prog 33 = (some 8) ∧
    tzero Tryd.prog 33 = (some [(Value.int .i64 0)]) ∧
    (Tryd.prog.underlying 33).isSome = true ∧
    tcmp Tryd.prog 33 = false ∧
    tflds Tryd.prog 33 = none :=
  ⟨by kernel_rfl, by kernel_rfl, by kernel_rfl, by kernel_rfl, by kernel_rfl, by kernel_rfl, by kernel_rfl, by kernel_rfl, by kernel_rfl, by kernel_rfl, by kernel_rfl, by kernel_rfl⟩
theorem ty36 : tagg Tryd.prog 36 = (some false) ∧
    tsz Tryd.prog 36 = (some 1) ∧
    tel Tryd.prog 36 = (some 5) ∧
    tint Tryd.prog 36 = none ∧
    tstr Tryd.prog 36 = false ∧
    tbool Tryd.prog 36 = false ∧
    tarr Tryd.prog 36 = none ∧
    tby Tryd.prog 36 = (some 24) ∧
    tzero Tryd.prog 36 = (some [(Value.slice none 0 0)]) ∧
    (Tryd.prog.underlying 36).isSome = true ∧
    tcmp Tryd.prog 36 = false ∧
    tflds Tryd.prog 36 = none :=
  ⟨by kernel_rfl, by kernel_rfl, by kernel_rfl, by kernel_rfl, by kernel_rfl, by kernel_rfl, by kernel_rfl, by kernel_rfl, by kernel_rfl, by kernel_rfl, by kernel_rfl, by kernel_rfl⟩
theorem ty37 : tagg Tryd.prog 37 = (some false) ∧
    tsz Tryd.prog 37 = (some 1) ∧
    tel Tryd.prog 37 = (some 32) ∧
    tint Tryd.prog 37 = none ∧
    tstr Tryd.prog 37 = false ∧
    tbool Tryd.prog 37 = false ∧
    tarr Tryd.prog 37 = none ∧
    tby Tryd.prog 37 = (some 24) ∧
    tzero Tryd.prog 37 = (some [(Value.slice none 0 0)]) ∧
    (Tryd.prog.underlying 37).isSome = true ∧
    tcmp Tryd.prog 37 = false ∧
    tflds Tryd.prog 37 = none :=
  ⟨by kernel_rfl, by kernel_rfl, by kernel_rfl, by kernel_rfl, by kernel_rfl, by kernel_rfl, by kernel_rfl, by kernel_rfl, by kernel_rfl, by kernel_rfl, by kernel_rfl, by kernel_rfl⟩
theorem ty52 : tagg Tryd.prog 52 = (some true) ∧
    tsz Tryd.prog 52 = (some 2) ∧
    tel Tryd.prog 52 = none ∧
    tint Tryd.prog 52 = none ∧
    tstr Tryd.prog 52 = false ∧
    tbool Tryd.prog 52 = false ∧
    tarr Tryd.prog 52 = none ∧
    tby Tryd.prog 52 = (some 32) ∧
    tzero Tryd.prog 52 = (some [(Value.slice none 0 0), (Value.int .i64 0)]) ∧
    (Tryd.prog.underlying 52).isSome = true ∧
    tcmp Tryd.prog 52 = true ∧
    tflds Tryd.prog 52 = (some [(0, 1), (1, 1)]) ∧
    tfld Tryd.prog 52 0 = (some (0, 1)) ∧
    tfagg Tryd.prog 52 0 = (some false) ∧
    tfld Tryd.prog 52 1 = (some (1, 1)) ∧
    tfagg Tryd.prog 52 1 = (some false) :=
  ⟨by kernel_rfl, by kernel_rfl, by kernel_rfl, by kernel_rfl, by kernel_rfl, by kernel_rfl, by kernel_rfl, by kernel_rfl, by kernel_rfl, by kernel_rfl, by kernel_rfl, by kernel_rfl, by kernel_rfl, by kernel_rfl, by kernel_rfl, by kernel_rfl⟩
theorem ty58 : tagg Tryd.prog 58 = (some true) ∧
    tsz Tryd.prog 58 = (some 3) ∧
    tel Tryd.prog 58 = none ∧
    tint Tryd.prog 58 = none ∧
    tstr Tryd.prog 58 = false ∧
    tbool Tryd.prog 58 = false ∧
    tarr Tryd.prog 58 = none ∧
    tby Tryd.prog 58 = (some 40) ∧
    tzero Tryd.prog 58 = (some [(Value.slice none 0 0), (Value.int .i64 0), (Value.int .i64 0)]) ∧
    (Tryd.prog.underlying 58).isSome = true ∧
    tcmp Tryd.prog 58 = true ∧
    tflds Tryd.prog 58 = (some [(0, 1), (1, 1), (2, 1)]) ∧
    tfld Tryd.prog 58 0 = (some (0, 1)) ∧
    tfagg Tryd.prog 58 0 = (some false) ∧
    tfld Tryd.prog 58 1 = (some (1, 1)) ∧
    tfagg Tryd.prog 58 1 = (some false) ∧
    tfld Tryd.prog 58 2 = (some (2, 1)) ∧
    tfagg Tryd.prog 58 2 = (some false) :=
  ⟨by kernel_rfl, by kernel_rfl, by kernel_rfl, by kernel_rfl, by kernel_rfl, by kernel_rfl, by kernel_rfl, by kernel_rfl, by kernel_rfl, by kernel_rfl, by kernel_rfl, by kernel_rfl, by kernel_rfl, by kernel_rfl, by kernel_rfl, by kernel_rfl, by kernel_rfl, by kernel_rfl⟩
theorem ty73 : tagg Tryd.prog 73 = (some true) ∧
    tsz Tryd.prog 73 = (some 11) ∧
    tel Tryd.prog 73 = none ∧
    tint Tryd.prog 73 = none ∧
    tstr Tryd.prog 73 = false ∧
    tbool Tryd.prog 73 = false ∧
    tarr Tryd.prog 73 = none ∧
    tby Tryd.prog 73 = (some 11) ∧
    tzero Tryd.prog 73 = (some [(Value.bool false), (Value.bool false), (Value.bool false), (Value.bool false), (Value.bool false), (Value.bool false), (Value.bool false), (Value.bool false), (Value.bool false), (Value.bool false), (Value.bool false)]) ∧
    (Tryd.prog.underlying 73).isSome = true ∧
    tcmp Tryd.prog 73 = true ∧
    tflds Tryd.prog 73 = (some [(0, 1), (1, 1), (2, 1), (3, 1), (4, 1), (5, 1), (6, 1), (7, 1), (8, 1), (9, 1), (10, 1)]) ∧
    tfld Tryd.prog 73 0 = (some (0, 1)) ∧
    tfagg Tryd.prog 73 0 = (some false) ∧
    tfld Tryd.prog 73 1 = (some (1, 1)) ∧
    tfagg Tryd.prog 73 1 = (some false) ∧
    tfld Tryd.prog 73 2 = (some (2, 1)) ∧
    tfagg Tryd.prog 73 2 = (some false) ∧
    tfld Tryd.prog 73 3 = (some (3, 1)) ∧
    tfagg Tryd.prog 73 3 = (some false) ∧
    tfld Tryd.prog 73 4 = (some (4, 1)) ∧
    tfagg Tryd.prog 73 4 = (some false) ∧
    tfld Tryd.prog 73 5 = (some (5, 1)) ∧
    tfagg Tryd.prog 73 5 = (some false) ∧
    tfld Tryd.prog 73 6 = (some (6, 1)) ∧
    tfagg Tryd.prog 73 6 = (some false) ∧
    tfld Tryd.prog 73 7 = (some (7, 1)) ∧
    tfagg Tryd.prog 73 7 = (some false) ∧
    tfld Tryd.prog 73 8 = (some (8, 1)) ∧
    tfagg Tryd.prog 73 8 = (some false) ∧
    tfld Tryd.prog 73 9 = (some (9, 1)) ∧
    tfagg Tryd.prog 73 9 = (some false) ∧
    tfld Tryd.prog 73 10 = (some (10, 1)) ∧
    tfagg Tryd.prog 73 10 = (some false) :=
  ⟨by kernel_rfl, by kernel_rfl, by kernel_rfl, by kernel_rfl, by kernel_rfl, by kernel_rfl, by kernel_rfl, by kernel_rfl, by kernel_rfl, by kernel_rfl, by kernel_rfl, by kernel_rfl, by kernel_rfl, by kernel_rfl, by kernel_rfl, by kernel_rfl, by kernel_rfl, by kernel_rfl, by kernel_rfl, by kernel_rfl, by kernel_rfl, by kernel_rfl, by kernel_rfl, by kernel_rfl, by kernel_rfl, by kernel_rfl, by kernel_rfl, by kernel_rfl, by kernel_rfl, by kernel_rfl, by kernel_rfl, by kernel_rfl, by kernel_rfl, by kernel_rfl⟩
theorem ty74 : tagg Tryd.prog 74 = (some true) ∧
    tsz Tryd.prog 74 = (some 165) ∧
    tel Tryd.prog 74 = none ∧
    tint Tryd.prog 74 = none ∧
    tstr Tryd.prog 74 = false ∧
    tbool Tryd.prog 74 = false ∧
    tarr Tryd.prog 74 = (some (15, 73)) ∧
    tby Tryd.prog 74 = (some 165) ∧
    tzero Tryd.prog 74 = (some [(Value.bool false), (Value.bool false), (Value.bool false), (Value.bool false), (Value.bool false), (Value.bool false), (Value.bool false), (Value.bool false), (Value.bool false), (Value.bool false), (Value.bool false), (Value.bool false), (Value.bool false), (Value.bool false), (Value.bool false), (Value.bool false), (Value.bool false), (Value.bool false), (Value.bool false), (Value.bool false), (Value.bool false), (Value.bool false), (Value.bool false), (Value.bool false), (Value.bool false), (Value.bool false), (Value.bool false), (Value.bool false), (Value.bool false), (Value.bool false), (Value.bool false), (Value.bool false), (Value.bool false), (Value.bool false), (Value.bool false), (Value.bool false), (Value.bool false), (Value.bool false), (Value.bool false), (Value.bool false), (Value.bool false), (Value.bool false), (Value.bool false), (Value.bool false), (Value.bool false), (Value.bool false), (Value.bool false), (Value.bool false), (Value.bool false), (Value.bool false), (Value.bool false), (Value.bool false), (Value.bool false), (Value.bool false), (Value.bool false), (Value.bool false), (Value.bool false), (Value.bool false), (Value.bool false), (Value.bool false), (Value.bool false), (Value.bool false), (Value.bool false), (Value.bool false), (Value.bool false), (Value.bool false), (Value.bool false), (Value.bool false), (Value.bool false), (Value.bool false), (Value.bool false), (Value.bool false), (Value.bool false), (Value.bool false), (Value.bool false), (Value.bool false), (Value.bool false), (Value.bool false), (Value.bool false), (Value.bool false), (Value.bool false), (Value.bool false), (Value.bool false), (Value.bool false), (Value.bool false), (Value.bool false), (Value.bool false), (Value.bool false), (Value.bool false), (Value.bool false), (Value.bool false), (Value.bool false), (Value.bool false), (Value.bool false), (Value.bool false), (Value.bool false), (Value.bool false), (Value.bool false), (Value.bool false), (Value.bool false), (Value.bool false), (Value.bool false), (Value.bool false), (Value.bool false), (Value.bool false), (Value.bool false), (Value.bool false), (Value.bool false), (Value.bool false), (Value.bool false), (Value.bool false), (Value.bool false), (Value.bool false), (Value.bool false), (Value.bool false), (Value.bool false), (Value.bool false), (Value.bool false), (Value.bool false), (Value.bool false), (Value.bool false), (Value.bool false), (Value.bool false), (Value.bool false), (Value.bool false), (Value.bool false), (Value.bool false), (Value.bool false), (Value.bool false), (Value.bool false), (Value.bool false), (Value.bool false), (Value.bool false), (Value.bool false), (Value.bool false), (Value.bool false), (Value.bool false), (Value.bool false), (Value.bool false), (Value.bool false), (Value.bool false), (Value.bool false), (Value.bool false), (Value.bool false), (Value.bool false), (Value.bool false), (Value.bool false), (Value.bool false), (Value.bool false), (Value.bool false), (Value.bool false), (Value.bool false), (Value.bool false), (Value.bool false), (Value.bool false), (Value.bool false), (Value.bool false), (Value.bool false), (Value.bool false), (Value.bool false), (Value.bool false), (Value.bool false), (Value.bool false), (Value.bool false), (Value.bool false)]) ∧
    (Tryd.prog.underlying 74).isSome = true ∧
    tcmp Tryd.prog 74 = true ∧
    tflds Tryd.prog 74 = none :=
  ⟨by kernel_rfl, by kernel_rfl, by kernel_rfl, by kernel_rfl, by kernel_rfl, by kernel_rfl, by kernel_rfl, by kernel_rfl, by kernel_rfl, by kernel_rfl, by kernel_rfl, by kernel_rfl⟩
end Go.Proofs.YtijpmidnclbhpaaDoor
