/- Facts on the types of the program. -/
import Derived.Test.YtikgiadbkjmabaaEngC
import Derived.Test.YtikgiadbkjmabaaEngM
import Derived.Test.YtikgiadbkjmabaaProg
namespace Go.Proofs.Ytikgiadbkjmabaa
open Go.RowKit
set_option linter.unusedSimpArgs false
set_option linter.unusedVariables false
set_option maxRecDepth 100000
theorem ty3:tagg Try.prog 3 = (some false) ∧
    tsz Try.prog 3 = (some 1) ∧
    tel Try.prog 3 = none ∧
    tint Try.prog 3 = (some .i64) ∧
    tstr Try.prog 3 = false ∧
    tbool Try.prog 3 = false ∧
    tarr Try.prog 3 = none ∧
    tby Try.prog 3 = (some 8) ∧
    tzero Try.prog 3 = (some [(Value.int .i64 0)]) ∧
    (Try.prog.underlying 3).isSome = true ∧
    tcmp Try.prog 3 = false ∧
    tflds Try.prog 3 = none :=
  ⟨by kernel_rfl,by kernel_rfl,by kernel_rfl,by kernel_rfl,by kernel_rfl,by kernel_rfl,by kernel_rfl,by kernel_rfl,by kernel_rfl,by kernel_rfl,by kernel_rfl,by kernel_rfl⟩
theorem ty4:tagg Try.prog 4 = (some false) ∧
    tsz Try.prog 4 = (some 1) ∧
    tel Try.prog 4 = none ∧
    tint Try.prog 4 = none ∧
    tstr Try.prog 4 = false ∧
    tbool Try.prog 4 = true ∧
    tarr Try.prog 4 = none ∧
    tby Try.prog 4 = (some 1) ∧
    tzero Try.prog 4 = (some [(Value.bool false)]) ∧
    (Try.prog.underlying 4).isSome = true ∧
    tcmp Try.prog 4 = false ∧
    tflds Try.prog 4 = none :=
  ⟨by kernel_rfl,by kernel_rfl,by kernel_rfl,by kernel_rfl,by kernel_rfl,by kernel_rfl,by kernel_rfl,by kernel_rfl,by kernel_rfl,by kernel_rfl,by kernel_rfl,by kernel_rfl⟩
theorem ty5:tagg Try.prog 5 = (some false) ∧
    tsz Try.prog 5 = (some 1) ∧
    tel Try.prog 5 = none ∧
    tint Try.prog 5 = (some .u8) ∧
    tstr Try.prog 5 = false ∧
    tbool Try.prog 5 = false ∧
    tarr Try.prog 5 = none ∧
    tby Try.prog 5 = (some 1) ∧
    tzero Try.prog 5 = (some [(Value.int .u8 0)]) ∧
    (Try.prog.underlying 5).isSome = true ∧
    tcmp Try.prog 5 = false ∧
    tflds Try.prog 5 = none :=
  ⟨by kernel_rfl,by kernel_rfl,by kernel_rfl,by kernel_rfl,by kernel_rfl,by kernel_rfl,by kernel_rfl,by kernel_rfl,by kernel_rfl,by kernel_rfl,by kernel_rfl,by kernel_rfl⟩
theorem ty9:tagg Try.prog 9 = (some false) ∧
    tsz Try.prog 9 = (some 1) ∧
    tel Try.prog 9 = none ∧
    tint Try.prog 9 = none ∧
    tstr Try.prog 9 = true ∧
    tbool Try.prog 9 = false ∧
    tarr Try.prog 9 = none ∧
    tby Try.prog 9 = (some 16) ∧
    tzero Try.prog 9 = (some [(Value.string ⟨#[]⟩)]) ∧
    (Try.prog.underlying 9).isSome = true ∧
    tcmp Try.prog 9 = false ∧
    tflds Try.prog 9 = none :=
  ⟨by kernel_rfl,by kernel_rfl,by kernel_rfl,by kernel_rfl,by kernel_rfl,by kernel_rfl,by kernel_rfl,by kernel_rfl,by kernel_rfl,by kernel_rfl,by kernel_rfl,by kernel_rfl⟩
theorem ty22:tagg Try.prog 22 = (some false) ∧
    tsz Try.prog 22 = (some 1) ∧
    tel Try.prog 22 = (some 54) ∧
    tint Try.prog 22 = none ∧
    tstr Try.prog 22 = false ∧
    tbool Try.prog 22 = false ∧
    tarr Try.prog 22 = none ∧
    tby Try.prog 22 = (some 24) ∧
    tzero Try.prog 22 = (some [(Value.slice none 0 0)]) ∧
    (Try.prog.underlying 22).isSome = true ∧
    tcmp Try.prog 22 = false ∧
    tflds Try.prog 22 = none :=
  ⟨by kernel_rfl,by kernel_rfl,by kernel_rfl,by kernel_rfl,by kernel_rfl,by kernel_rfl,by kernel_rfl,by kernel_rfl,by kernel_rfl,by kernel_rfl,by kernel_rfl,by kernel_rfl⟩
theorem ty23:tagg Try.prog 23 = (some false) ∧
    tsz Try.prog 23 = (some 1) ∧
    tel Try.prog 23 = (some 41) ∧
    tint Try.prog 23 = none ∧
    tstr Try.prog 23 = false ∧
    tbool Try.prog 23 = false ∧
    tarr Try.prog 23 = none ∧
    tby Try.prog 23 = (some 24) ∧
    tzero Try.prog 23 = (some [(Value.slice none 0 0)]) ∧
    (Try.prog.underlying 23).isSome = true ∧
    tcmp Try.prog 23 = false ∧
    tflds Try.prog 23 = none :=
  ⟨by kernel_rfl,by kernel_rfl,by kernel_rfl,by kernel_rfl,by kernel_rfl,by kernel_rfl,by kernel_rfl,by kernel_rfl,by kernel_rfl,by kernel_rfl,by kernel_rfl,by kernel_rfl⟩
theorem ty24:tagg Try.prog 24 = (some false) ∧
    tsz Try.prog 24 = (some 1) ∧
    tel Try.prog 24 = (some 83) ∧
    tint Try.prog 24 = none ∧
    tstr Try.prog 24 = false ∧
    tbool Try.prog 24 = false ∧
    tarr Try.prog 24 = none ∧
    tby Try.prog 24 = (some 24) ∧
    tzero Try.prog 24 = (some [(Value.slice none 0 0)]) ∧
    (Try.prog.underlying 24).isSome = true ∧
    tcmp Try.prog 24 = false ∧
    tflds Try.prog 24 = none :=
  ⟨by kernel_rfl,by kernel_rfl,by kernel_rfl,by kernel_rfl,by kernel_rfl,by kernel_rfl,by kernel_rfl,by kernel_rfl,by kernel_rfl,by kernel_rfl,by kernel_rfl,by kernel_rfl⟩
theorem ty25:tagg Try.prog 25 = (some false) ∧
    tsz Try.prog 25 = (some 1) ∧
    tel Try.prog 25 = (some 87) ∧
    tint Try.prog 25 = none ∧
    tstr Try.prog 25 = false ∧
    tbool Try.prog 25 = false ∧
    tarr Try.prog 25 = none ∧
    tby Try.prog 25 = (some 24) ∧
    tzero Try.prog 25 = (some [(Value.slice none 0 0)]) ∧
    (Try.prog.underlying 25).isSome = true ∧
    tcmp Try.prog 25 = false ∧
    tflds Try.prog 25 = none :=
  ⟨by kernel_rfl,by kernel_rfl,by kernel_rfl,by kernel_rfl,by kernel_rfl,by kernel_rfl,by kernel_rfl,by kernel_rfl,by kernel_rfl,by kernel_rfl,by kernel_rfl,by kernel_rfl⟩
theorem ty26:tagg Try.prog 26 = (some false) ∧
    tsz Try.prog 26 = (some 1) ∧
    tel Try.prog 26 = (some 3) ∧
    tint Try.prog 26 = none ∧
    tstr Try.prog 26 = false ∧
    tbool Try.prog 26 = false ∧
    tarr Try.prog 26 = none ∧
    tby Try.prog 26 = (some 24) ∧
    tzero Try.prog 26 = (some [(Value.slice none 0 0)]) ∧
    (Try.prog.underlying 26).isSome = true ∧
    tcmp Try.prog 26 = false ∧
    tflds Try.prog 26 = none :=
  ⟨by kernel_rfl,by kernel_rfl,by kernel_rfl,by kernel_rfl,by kernel_rfl,by kernel_rfl,by kernel_rfl,by kernel_rfl,by kernel_rfl,by kernel_rfl,by kernel_rfl,by kernel_rfl⟩
theorem ty28:tagg Try.prog 28 = (some true) ∧
    tsz Try.prog 28 = (some 7) ∧
    tel Try.prog 28 = none ∧
    tint Try.prog 28 = none ∧
    tstr Try.prog 28 = false ∧
    tbool Try.prog 28 = false ∧
    tarr Try.prog 28 = none ∧
    tby Try.prog 28 = (some 136) ∧
    tzero Try.prog 28 = (some [(Value.int .i64 0),(Value.int .i64 0),(Value.slice none 0 0),(Value.slice none 0 0),(Value.slice none 0 0),(Value.slice none 0 0),(Value.slice none 0 0)]) ∧
    (Try.prog.underlying 28).isSome = true ∧
    tcmp Try.prog 28 = true ∧
    tflds Try.prog 28 = (some [(0,1),(1,1),(2,1),(3,1),(4,1),(5,1),(6,1)]) ∧
    tfld Try.prog 28 0 = (some (0,1)) ∧
    tfagg Try.prog 28 0 = (some false) ∧
    tfld Try.prog 28 1 = (some (1,1)) ∧
    tfagg Try.prog 28 1 = (some false) ∧
    tfld Try.prog 28 2 = (some (2,1)) ∧
    tfagg Try.prog 28 2 = (some false) ∧
    tfld Try.prog 28 3 = (some (3,1)) ∧
    tfagg Try.prog 28 3 = (some false) ∧
    tfld Try.prog 28 4 = (some (4,1)) ∧
    tfagg Try.prog 28 4 = (some false) ∧
    tfld Try.prog 28 5 = (some (5,1)) ∧
    tfagg Try.prog 28 5 = (some false) ∧
    tfld Try.prog 28 6 = (some (6,1)) ∧
    tfagg Try.prog 28 6 = (some false) :=
  ⟨by kernel_rfl,by kernel_rfl,by kernel_rfl,by kernel_rfl,by kernel_rfl,by kernel_rfl,by kernel_rfl,by kernel_rfl,by kernel_rfl,by kernel_rfl,by kernel_rfl,by kernel_rfl,by kernel_rfl,by kernel_rfl,by kernel_rfl,by kernel_rfl,by kernel_rfl,by kernel_rfl,by kernel_rfl,by kernel_rfl,by kernel_rfl,by kernel_rfl,by kernel_rfl,by kernel_rfl,by kernel_rfl,by kernel_rfl⟩
theorem ty29:tagg Try.prog 29 = (some false) ∧
    tsz Try.prog 29 = (some 1) ∧
    tel Try.prog 29 = (some 43) ∧
    tint Try.prog 29 = none ∧
    tstr Try.prog 29 = false ∧
    tbool Try.prog 29 = false ∧
    tarr Try.prog 29 = none ∧
    tby Try.prog 29 = (some 24) ∧
    tzero Try.prog 29 = (some [(Value.slice none 0 0)]) ∧
    (Try.prog.underlying 29).isSome = true ∧
    tcmp Try.prog 29 = false ∧
    tflds Try.prog 29 = none :=
  ⟨by kernel_rfl,by kernel_rfl,by kernel_rfl,by kernel_rfl,by kernel_rfl,by kernel_rfl,by kernel_rfl,by kernel_rfl,by kernel_rfl,by kernel_rfl,by kernel_rfl,by kernel_rfl⟩
theorem ty30:tagg Try.prog 30 = (some false) ∧
    tsz Try.prog 30 = (some 1) ∧
    tel Try.prog 30 = none ∧
    tint Try.prog 30 = (some .i64) ∧
    tstr Try.prog 30 = false ∧
    tbool Try.prog 30 = false ∧
    tarr Try.prog 30 = none ∧
    tby Try.prog 30 = (some 8) ∧
    tzero Try.prog 30 = (some [(Value.int .i64 0)]) ∧
    (Try.prog.underlying 30).isSome = true ∧
    tcmp Try.prog 30 = false ∧
    tflds Try.prog 30 = none :=
  ⟨by kernel_rfl,by kernel_rfl,by kernel_rfl,by kernel_rfl,by kernel_rfl,by kernel_rfl,by kernel_rfl,by kernel_rfl,by kernel_rfl,by kernel_rfl,by kernel_rfl,by kernel_rfl⟩
theorem ty38:tagg Try.prog 38 = (some false) ∧
    tsz Try.prog 38 = (some 1) ∧
    tel Try.prog 38 = (some 23) ∧
    tint Try.prog 38 = none ∧
    tstr Try.prog 38 = false ∧
    tbool Try.prog 38 = false ∧
    tarr Try.prog 38 = none ∧
    tby Try.prog 38 = (some 24) ∧
    tzero Try.prog 38 = (some [(Value.slice none 0 0)]) ∧
    (Try.prog.underlying 38).isSome = true ∧
    tcmp Try.prog 38 = false ∧
    tflds Try.prog 38 = none :=
  ⟨by kernel_rfl,by kernel_rfl,by kernel_rfl,by kernel_rfl,by kernel_rfl,by kernel_rfl,by kernel_rfl,by kernel_rfl,by kernel_rfl,by kernel_rfl,by kernel_rfl,by kernel_rfl⟩
theorem ty41:tagg Try.prog 41 = (some true) ∧
    tsz Try.prog 41 = (some 12) ∧
    tel Try.prog 41 = none ∧
    tint Try.prog 41 = none ∧
    tstr Try.prog 41 = false ∧
    tbool Try.prog 41 = false ∧
    tarr Try.prog 41 = none ∧
    tby Try.prog 41 = (some 120) ∧
    tzero Try.prog 41 = (some [(Value.int .i64 0),(Value.string ⟨#[]⟩),(Value.string ⟨#[]⟩),(Value.bool false),(Value.bool false),(Value.int .i64 0),(Value.int .i64 0),(Value.int .i64 0),(Value.slice none 0 0),(Value.int .i64 0),(Value.int .i64 0),(Value.int .i64 0)]) ∧
    (Try.prog.underlying 41).isSome = true ∧
    tcmp Try.prog 41 = true ∧
    tflds Try.prog 41 = (some [(0,1),(1,1),(2,1),(3,1),(4,1),(5,1),(6,1),(7,1),(8,1),(9,1),(10,1),(11,1)]) ∧
    tfld Try.prog 41 0 = (some (0,1)) ∧
    tfagg Try.prog 41 0 = (some false) ∧
    tfld Try.prog 41 1 = (some (1,1)) ∧
    tfagg Try.prog 41 1 = (some false) ∧
    tfld Try.prog 41 2 = (some (2,1)) ∧
    tfagg Try.prog 41 2 = (some false) ∧
    tfld Try.prog 41 3 = (some (3,1)) ∧
    tfagg Try.prog 41 3 = (some false) ∧
    tfld Try.prog 41 4 = (some (4,1)) ∧
    tfagg Try.prog 41 4 = (some false) ∧
    tfld Try.prog 41 5 = (some (5,1)) ∧
    tfagg Try.prog 41 5 = (some false) ∧
    tfld Try.prog 41 6 = (some (6,1)) ∧
    tfagg Try.prog 41 6 = (some false) ∧
    tfld Try.prog 41 7 = (some (7,1)) ∧
    tfagg Try.prog 41 7 = (some false) ∧
    tfld Try.prog 41 8 = (some (8,1)) ∧
    tfagg Try.prog 41 8 = (some false) ∧
    tfld Try.prog 41 9 = (some (9,1)) ∧
    tfagg Try.prog 41 9 = (some false) ∧
    tfld Try.prog 41 10 = (some (10,1)) ∧
    tfagg Try.prog 41 10 = (some false) ∧
    tfld Try.prog 41 11 = (some (11,1)) ∧
    tfagg Try.prog 41 11 = (some false) :=
  ⟨by kernel_rfl,by kernel_rfl,by kernel_rfl,by kernel_rfl,by kernel_rfl,by kernel_rfl,by kernel_rfl,by kernel_rfl,by kernel_rfl,by kernel_rfl,by kernel_rfl,by kernel_rfl,by kernel_rfl,by kernel_rfl,by kernel_rfl,by kernel_rfl,by kernel_rfl,by kernel_rfl,by kernel_rfl,by kernel_rfl,by kernel_rfl,by kernel_rfl,by kernel_rfl,by kernel_rfl,by kernel_rfl,by kernel_rfl,by kernel_rfl,by kernel_rfl,by kernel_rfl,by kernel_rfl,by kernel_rfl,by kernel_rfl,by kernel_rfl,by kernel_rfl,by kernel_rfl,by kernel_rfl⟩
theorem ty43:tagg Try.prog 43 = (some true) ∧
    tsz Try.prog 43 = (some 7) ∧
    tel Try.prog 43 = none ∧
    tint Try.prog 43 = none ∧
    tstr Try.prog 43 = false ∧
    tbool Try.prog 43 = false ∧
    tarr Try.prog 43 = none ∧
    tby Try.prog 43 = (some 56) ∧
    tzero Try.prog 43 = (some [(Value.string ⟨#[]⟩),(Value.bool false),(Value.int .i64 0),(Value.bool false),(Value.bool false),(Value.int .i64 0),(Value.int .i64 0)]) ∧
    (Try.prog.underlying 43).isSome = true ∧
    tcmp Try.prog 43 = true ∧
    tflds Try.prog 43 = (some [(0,1),(1,1),(2,1),(3,1),(4,1),(5,1),(6,1)]) ∧
    tfld Try.prog 43 0 = (some (0,1)) ∧
    tfagg Try.prog 43 0 = (some false) ∧
    tfld Try.prog 43 1 = (some (1,1)) ∧
    tfagg Try.prog 43 1 = (some false) ∧
    tfld Try.prog 43 2 = (some (2,1)) ∧
    tfagg Try.prog 43 2 = (some false) ∧
    tfld Try.prog 43 3 = (some (3,1)) ∧
    tfagg Try.prog 43 3 = (some false) ∧
    tfld Try.prog 43 4 = (some (4,1)) ∧
    tfagg Try.prog 43 4 = (some false) ∧
    tfld Try.prog 43 5 = (some (5,1)) ∧
    tfagg Try.prog 43 5 = (some false) ∧
    tfld Try.prog 43 6 = (some (6,1)) ∧
    tfagg Try.prog 43 6 = (some false) :=
  ⟨by kernel_rfl,by kernel_rfl,by kernel_rfl,by kernel_rfl,by kernel_rfl,by kernel_rfl,by kernel_rfl,by kernel_rfl,by kernel_rfl,by kernel_rfl,by kernel_rfl,by kernel_rfl,by kernel_rfl,by kernel_rfl,by kernel_rfl,by kernel_rfl,by kernel_rfl,by kernel_rfl,by kernel_rfl,by kernel_rfl,by kernel_rfl,by kernel_rfl,by kernel_rfl,by kernel_rfl,by kernel_rfl,by kernel_rfl⟩
theorem ty52:tagg Try.prog 52 = (some true) ∧
    tsz Try.prog 52 = (some 3) ∧
    tel Try.prog 52 = none ∧
    tint Try.prog 52 = none ∧
    tstr Try.prog 52 = false ∧
    tbool Try.prog 52 = false ∧
    tarr Try.prog 52 = none ∧
    tby Try.prog 52 = (some 32) ∧
    tzero Try.prog 52 = (some [(Value.string ⟨#[]⟩),(Value.int .i64 0),(Value.int .i64 0)]) ∧
    (Try.prog.underlying 52).isSome = true ∧
    tcmp Try.prog 52 = true ∧
    tflds Try.prog 52 = (some [(0,1),(1,1),(2,1)]) ∧
    tfld Try.prog 52 0 = (some (0,1)) ∧
    tfagg Try.prog 52 0 = (some false) ∧
    tfld Try.prog 52 1 = (some (1,1)) ∧
    tfagg Try.prog 52 1 = (some false) ∧
    tfld Try.prog 52 2 = (some (2,1)) ∧
    tfagg Try.prog 52 2 = (some false) :=
  ⟨by kernel_rfl,by kernel_rfl,by kernel_rfl,by kernel_rfl,by kernel_rfl,by kernel_rfl,by kernel_rfl,by kernel_rfl,by kernel_rfl,by kernel_rfl,by kernel_rfl,by kernel_rfl,by kernel_rfl,by kernel_rfl,by kernel_rfl,by kernel_rfl,by kernel_rfl,by kernel_rfl⟩
theorem ty54:tagg Try.prog 54 = (some true) ∧
    tsz Try.prog 54 = (some 5) ∧
    tel Try.prog 54 = none ∧
    tint Try.prog 54 = none ∧
    tstr Try.prog 54 = false ∧
    tbool Try.prog 54 = false ∧
    tarr Try.prog 54 = none ∧
    tby Try.prog 54 = (some 56) ∧
    tzero Try.prog 54 = (some [(Value.string ⟨#[]⟩),(Value.int .i64 0),(Value.string ⟨#[]⟩),(Value.int .i64 0),(Value.int .i64 0)]) ∧
    (Try.prog.underlying 54).isSome = true ∧
    tcmp Try.prog 54 = true ∧
    tflds Try.prog 54 = (some [(0,1),(1,1),(2,3)]) ∧
    tfld Try.prog 54 0 = (some (0,1)) ∧
    tfagg Try.prog 54 0 = (some false) ∧
    tfld Try.prog 54 1 = (some (1,1)) ∧
    tfagg Try.prog 54 1 = (some false) ∧
    tfld Try.prog 54 2 = (some (2,3)) ∧
    tfagg Try.prog 54 2 = (some true) :=
  ⟨by kernel_rfl,by kernel_rfl,by kernel_rfl,by kernel_rfl,by kernel_rfl,by kernel_rfl,by kernel_rfl,by kernel_rfl,by kernel_rfl,by kernel_rfl,by kernel_rfl,by kernel_rfl,by kernel_rfl,by kernel_rfl,by kernel_rfl,by kernel_rfl,by kernel_rfl,by kernel_rfl⟩
theorem ty70:tagg Try.prog 70 = (some false) ∧
    tsz Try.prog 70 = (some 1) ∧
    tel Try.prog 70 = none ∧
    tint Try.prog 70 = none ∧
    tstr Try.prog 70 = false ∧
    tbool Try.prog 70 = false ∧
    tarr Try.prog 70 = none ∧
    tby Try.prog 70 = (some 8) ∧
    tzero Try.prog 70 = (some [(Value.map none)]) ∧
    (Try.prog.underlying 70).isSome = true ∧
    tcmp Try.prog 70 = false ∧
    tflds Try.prog 70 = none ∧
    tmapk Try.prog 70 = (some false) :=
  ⟨by kernel_rfl,by kernel_rfl,by kernel_rfl,by kernel_rfl,by kernel_rfl,by kernel_rfl,by kernel_rfl,by kernel_rfl,by kernel_rfl,by kernel_rfl,by kernel_rfl,by kernel_rfl,by kernel_rfl⟩
theorem ty77:tagg Try.prog 77 = (some false) ∧
    tsz Try.prog 77 = (some 1) ∧
    tel Try.prog 77 = none ∧
    tint Try.prog 77 = (some .u64) ∧
    tstr Try.prog 77 = false ∧
    tbool Try.prog 77 = false ∧
    tarr Try.prog 77 = none ∧
    tby Try.prog 77 = (some 8) ∧
    tzero Try.prog 77 = (some [(Value.int .u64 0)]) ∧
    (Try.prog.underlying 77).isSome = true ∧
    tcmp Try.prog 77 = false ∧
    tflds Try.prog 77 = none :=
  ⟨by kernel_rfl,by kernel_rfl,by kernel_rfl,by kernel_rfl,by kernel_rfl,by kernel_rfl,by kernel_rfl,by kernel_rfl,by kernel_rfl,by kernel_rfl,by kernel_rfl,by kernel_rfl⟩
theorem ty81:tagg Try.prog 81 = (some false) ∧
    tsz Try.prog 81 = (some 1) ∧
    tel Try.prog 81 = (some 85) ∧
    tint Try.prog 81 = none ∧
    tstr Try.prog 81 = false ∧
    tbool Try.prog 81 = false ∧
    tarr Try.prog 81 = none ∧
    tby Try.prog 81 = (some 24) ∧
    tzero Try.prog 81 = (some [(Value.slice none 0 0)]) ∧
    (Try.prog.underlying 81).isSome = true ∧
    tcmp Try.prog 81 = false ∧
    tflds Try.prog 81 = none :=
  ⟨by kernel_rfl,by kernel_rfl,by kernel_rfl,by kernel_rfl,by kernel_rfl,by kernel_rfl,by kernel_rfl,by kernel_rfl,by kernel_rfl,by kernel_rfl,by kernel_rfl,by kernel_rfl⟩
theorem ty83:tagg Try.prog 83 = (some true) ∧
    tsz Try.prog 83 = (some 4) ∧
    tel Try.prog 83 = none ∧
    tint Try.prog 83 = none ∧
    tstr Try.prog 83 = false ∧
    tbool Try.prog 83 = false ∧
    tarr Try.prog 83 = none ∧
    tby Try.prog 83 = (some 64) ∧
    tzero Try.prog 83 = (some [(Value.int .i64 0),(Value.string ⟨#[]⟩),(Value.string ⟨#[]⟩),(Value.slice none 0 0)]) ∧
    (Try.prog.underlying 83).isSome = true ∧
    tcmp Try.prog 83 = true ∧
    tflds Try.prog 83 = (some [(0,1),(1,1),(2,1),(3,1)]) ∧
    tfld Try.prog 83 0 = (some (0,1)) ∧
    tfagg Try.prog 83 0 = (some false) ∧
    tfld Try.prog 83 1 = (some (1,1)) ∧
    tfagg Try.prog 83 1 = (some false) ∧
    tfld Try.prog 83 2 = (some (2,1)) ∧
    tfagg Try.prog 83 2 = (some false) ∧
    tfld Try.prog 83 3 = (some (3,1)) ∧
    tfagg Try.prog 83 3 = (some false) :=
  ⟨by kernel_rfl,by kernel_rfl,by kernel_rfl,by kernel_rfl,by kernel_rfl,by kernel_rfl,by kernel_rfl,by kernel_rfl,by kernel_rfl,by kernel_rfl,by kernel_rfl,by kernel_rfl,by kernel_rfl,by kernel_rfl,by kernel_rfl,by kernel_rfl,by kernel_rfl,by kernel_rfl,by kernel_rfl,by kernel_rfl⟩
theorem ty85:tagg Try.prog 85 = (some true) ∧
    tsz Try.prog 85 = (some 3) ∧
    tel Try.prog 85 = none ∧
    tint Try.prog 85 = none ∧
    tstr Try.prog 85 = false ∧
    tbool Try.prog 85 = false ∧
    tarr Try.prog 85 = none ∧
    tby Try.prog 85 = (some 40) ∧
    tzero Try.prog 85 = (some [(Value.int .i64 0),(Value.int .i64 0),(Value.slice none 0 0)]) ∧
    (Try.prog.underlying 85).isSome = true ∧
    tcmp Try.prog 85 = true ∧
    tflds Try.prog 85 = (some [(0,1),(1,1),(2,1)]) ∧
    tfld Try.prog 85 0 = (some (0,1)) ∧
    tfagg Try.prog 85 0 = (some false) ∧
    tfld Try.prog 85 1 = (some (1,1)) ∧
    tfagg Try.prog 85 1 = (some false) ∧
    tfld Try.prog 85 2 = (some (2,1)) ∧
    tfagg Try.prog 85 2 = (some false) :=
  ⟨by kernel_rfl,by kernel_rfl,by kernel_rfl,by kernel_rfl,by kernel_rfl,by kernel_rfl,by kernel_rfl,by kernel_rfl,by kernel_rfl,by kernel_rfl,by kernel_rfl,by kernel_rfl,by kernel_rfl,by kernel_rfl,by kernel_rfl,by kernel_rfl,by kernel_rfl,by kernel_rfl⟩
theorem ty87:tagg Try.prog 87 = (some true) ∧
    tsz Try.prog 87 = (some 3) ∧
    tel Try.prog 87 = none ∧
    tint Try.prog 87 = none ∧
    tstr Try.prog 87 = false ∧
    tbool Try.prog 87 = false ∧
    tarr Try.prog 87 = none ∧
    tby Try.prog 87 = (some 24) ∧
    tzero Try.prog 87 = (some [(Value.int .i64 0),(Value.int .i64 0),(Value.int .i64 0)]) ∧
    (Try.prog.underlying 87).isSome = true ∧
    tcmp Try.prog 87 = true ∧
    tflds Try.prog 87 = (some [(0,1),(1,1),(2,1)]) ∧
    tfld Try.prog 87 0 = (some (0,1)) ∧
    tfagg Try.prog 87 0 = (some false) ∧
    tfld Try.prog 87 1 = (some (1,1)) ∧
    tfagg Try.prog 87 1 = (some false) ∧
    tfld Try.prog 87 2 = (some (2,1)) ∧
    tfagg Try.prog 87 2 = (some false) :=
  ⟨by kernel_rfl,by kernel_rfl,by kernel_rfl,by kernel_rfl,by kernel_rfl,by kernel_rfl,by kernel_rfl,by kernel_rfl,by kernel_rfl,by kernel_rfl,by kernel_rfl,by kernel_rfl,by kernel_rfl,by kernel_rfl,by kernel_rfl,by kernel_rfl,by kernel_rfl,by kernel_rfl⟩
theorem ty92:tagg Try.prog 92 = (some false) ∧
    tsz Try.prog 92 = (some 1) ∧
    tel Try.prog 92 = none ∧
    tint Try.prog 92 = none ∧
    tstr Try.prog 92 = false ∧
    tbool Try.prog 92 = false ∧
    tarr Try.prog 92 = none ∧
    tby Try.prog 92 = (some 8) ∧
    tzero Try.prog 92 = (some [(Value.map none)]) ∧
    (Try.prog.underlying 92).isSome = true ∧
    tcmp Try.prog 92 = false ∧
    tflds Try.prog 92 = none ∧
    tmapk Try.prog 92 = (some true) :=
  ⟨by kernel_rfl,by kernel_rfl,by kernel_rfl,by kernel_rfl,by kernel_rfl,by kernel_rfl,by kernel_rfl,by kernel_rfl,by kernel_rfl,by kernel_rfl,by kernel_rfl,by kernel_rfl,by kernel_rfl⟩
theorem ty94:tagg Try.prog 94 = (some true) ∧
    tsz Try.prog 94 = (some 2) ∧
    tel Try.prog 94 = none ∧
    tint Try.prog 94 = none ∧
    tstr Try.prog 94 = false ∧
    tbool Try.prog 94 = false ∧
    tarr Try.prog 94 = (some (2,9)) ∧
    tby Try.prog 94 = (some 32) ∧
    tzero Try.prog 94 = (some [(Value.string ⟨#[]⟩),(Value.string ⟨#[]⟩)]) ∧
    (Try.prog.underlying 94).isSome = true ∧
    tcmp Try.prog 94 = true ∧
    tflds Try.prog 94 = none :=
  ⟨by kernel_rfl,by kernel_rfl,by kernel_rfl,by kernel_rfl,by kernel_rfl,by kernel_rfl,by kernel_rfl,by kernel_rfl,by kernel_rfl,by kernel_rfl,by kernel_rfl,by kernel_rfl⟩
theorem mt70:MapT Try.prog 70 false:=mapT_int (kt:=3) (et:=4) (by kernel_rfl) (by kernel_rfl) (by kernel_rfl)
theorem mt92:MapT Try.prog 92 true:=mapT_s2 (kt:=94) (et:=4) (st:=9) (by kernel_rfl) (by kernel_rfl) (by kernel_rfl) (by kernel_rfl) (by kernel_rfl) (by kernel_rfl) (by kernel_rfl)
end Go.Proofs.Ytikgiadbkjmabaa
