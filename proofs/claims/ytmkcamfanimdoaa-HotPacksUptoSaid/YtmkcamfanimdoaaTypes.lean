/- Facts on the types of the program. -/
import Derived.Test.YtmkcamfanimdoaaEngC
import Derived.Test.YtmkcamfanimdoaaProg
namespace Go.Proofs.Ytmkcamfanimdoaa
open Go.RowKit
set_option maxRecDepth 100000
theorem ty3 : tagg Try.prog 3 = (some false) ∧
    tsz Try.prog 3 = (some 1) ∧
    tel Try.prog 3 = none ∧
    tint Try.prog 3 = (some .i64) ∧
    tstr Try.prog 3 = false ∧
    tbool Try.prog 3 = false ∧
    tarr Try.prog 3 = none ∧
    tby Try.prog 3 = (some 8) ∧
    tzero Try.prog 3 = (some [(Value.int .i64 0)]) ∧
    (Try.prog.underlying 3).isSome = true ∧
    tcmp Try.prog 3 = false ∧
    tflds Try.prog 3 = none :=
  ⟨by kernel_rfl, by kernel_rfl, by kernel_rfl, by kernel_rfl, by kernel_rfl, by kernel_rfl, by kernel_rfl, by kernel_rfl, by kernel_rfl, by kernel_rfl, by kernel_rfl, by kernel_rfl⟩
theorem ty4 : tagg Try.prog 4 = (some false) ∧
    tsz Try.prog 4 = (some 1) ∧
    tel Try.prog 4 = none ∧
    tint Try.prog 4 = none ∧
    tstr Try.prog 4 = false ∧
    tbool Try.prog 4 = true ∧
    tarr Try.prog 4 = none ∧
    tby Try.prog 4 = (some 1) ∧
    tzero Try.prog 4 = (some [(Value.bool false)]) ∧
    (Try.prog.underlying 4).isSome = true ∧
    tcmp Try.prog 4 = false ∧
    tflds Try.prog 4 = none :=
  ⟨by kernel_rfl, by kernel_rfl, by kernel_rfl, by kernel_rfl, by kernel_rfl, by kernel_rfl, by kernel_rfl, by kernel_rfl, by kernel_rfl, by kernel_rfl, by kernel_rfl, by kernel_rfl⟩
theorem ty5 : tagg Try.prog 5 = (some false) ∧
    tsz Try.prog 5 = (some 1) ∧
    tel Try.prog 5 = none ∧
    tint Try.prog 5 = (some .u8) ∧
    tstr Try.prog 5 = false ∧
    tbool Try.prog 5 = false ∧
    tarr Try.prog 5 = none ∧
    tby Try.prog 5 = (some 1) ∧
    tzero Try.prog 5 = (some [(Value.int .u8 0)]) ∧
    (Try.prog.underlying 5).isSome = true ∧
    tcmp Try.prog 5 = false ∧
    tflds Try.prog 5 = none :=
  ⟨by kernel_rfl, by kernel_rfl, by kernel_rfl, by kernel_rfl, by kernel_rfl, by kernel_rfl, by kernel_rfl, by kernel_rfl, by kernel_rfl, by kernel_rfl, by kernel_rfl, by kernel_rfl⟩
theorem ty9 : tagg Try.prog 9 = (some false) ∧
    tsz Try.prog 9 = (some 1) ∧
    tel Try.prog 9 = none ∧
    tint Try.prog 9 = none ∧
    tstr Try.prog 9 = true ∧
    tbool Try.prog 9 = false ∧
    tarr Try.prog 9 = none ∧
    tby Try.prog 9 = (some 16) ∧
    tzero Try.prog 9 = (some [(Value.string ⟨#[]⟩)]) ∧
    (Try.prog.underlying 9).isSome = true ∧
    tcmp Try.prog 9 = false ∧
    tflds Try.prog 9 = none :=
  ⟨by kernel_rfl, by kernel_rfl, by kernel_rfl, by kernel_rfl, by kernel_rfl, by kernel_rfl, by kernel_rfl, by kernel_rfl, by kernel_rfl, by kernel_rfl, by kernel_rfl, by kernel_rfl⟩
theorem ty23 : tagg Try.prog 23 = (some true) ∧
    tsz Try.prog 23 = (some 5) ∧
    tel Try.prog 23 = none ∧
    tint Try.prog 23 = none ∧
    tstr Try.prog 23 = false ∧
    tbool Try.prog 23 = false ∧
    tarr Try.prog 23 = none ∧
    tby Try.prog 23 = (some 40) ∧
    tzero Try.prog 23 = (some [(Value.int .i64 0), (Value.int .i64 0), (Value.int .i64 0), (Value.int .i64 0), (Value.int .i64 0)]) ∧
    (Try.prog.underlying 23).isSome = true ∧
    tcmp Try.prog 23 = true ∧
    tflds Try.prog 23 = (some [(0, 1), (1, 1), (2, 1), (3, 1), (4, 1)]) ∧
    tfld Try.prog 23 0 = (some (0, 1)) ∧
    tfagg Try.prog 23 0 = (some false) ∧
    tfld Try.prog 23 1 = (some (1, 1)) ∧
    tfagg Try.prog 23 1 = (some false) ∧
    tfld Try.prog 23 2 = (some (2, 1)) ∧
    tfagg Try.prog 23 2 = (some false) ∧
    tfld Try.prog 23 3 = (some (3, 1)) ∧
    tfagg Try.prog 23 3 = (some false) ∧
    tfld Try.prog 23 4 = (some (4, 1)) ∧
    tfagg Try.prog 23 4 = (some false) :=
  ⟨by kernel_rfl, by kernel_rfl, by kernel_rfl, by kernel_rfl, by kernel_rfl, by kernel_rfl, by kernel_rfl, by kernel_rfl, by kernel_rfl, by kernel_rfl, by kernel_rfl, by kernel_rfl, by kernel_rfl, by kernel_rfl, by kernel_rfl, by kernel_rfl, by kernel_rfl, by kernel_rfl, by kernel_rfl, by kernel_rfl, by kernel_rfl, by kernel_rfl⟩
theorem ty24 : tagg Try.prog 24 = (some false) ∧
    tsz Try.prog 24 = (some 1) ∧
    tel Try.prog 24 = none ∧
    tint Try.prog 24 = (some .i64) ∧
    tstr Try.prog 24 = false ∧
    tbool Try.prog 24 = false ∧
    tarr Try.prog 24 = none ∧
    tby Try.prog 24 = (some 8) ∧
    tzero Try.prog 24 = (some [(Value.int .i64 0)]) ∧
    (Try.prog.underlying 24).isSome = true ∧
    tcmp Try.prog 24 = false ∧
    tflds Try.prog 24 = none :=
  ⟨by kernel_rfl, by kernel_rfl, by kernel_rfl, by kernel_rfl, by kernel_rfl, by kernel_rfl, by kernel_rfl, by kernel_rfl, by kernel_rfl, by kernel_rfl, by kernel_rfl, by kernel_rfl⟩
theorem ty28 : tagg Try.prog 28 = (some true) ∧
    tsz Try.prog 28 = (some 9) ∧
    tel Try.prog 28 = none ∧
    tint Try.prog 28 = none ∧
    tstr Try.prog 28 = false ∧
    tbool Try.prog 28 = false ∧
    tarr Try.prog 28 = none ∧
    tby Try.prog 28 = (some 72) ∧
    tzero Try.prog 28 = (some [(Value.int .i64 0), (Value.int .i64 0), (Value.int .i64 0), (Value.int .i64 0), (Value.int .i64 0), (Value.int .i64 0), (Value.int .i64 0), (Value.int .i64 0), (Value.int .i64 0)]) ∧
    (Try.prog.underlying 28).isSome = true ∧
    tcmp Try.prog 28 = true ∧
    tflds Try.prog 28 = (some [(0, 1), (1, 1), (2, 1), (3, 1), (4, 1), (5, 1), (6, 1), (7, 1), (8, 1)]) ∧
    tfld Try.prog 28 0 = (some (0, 1)) ∧
    tfagg Try.prog 28 0 = (some false) ∧
    tfld Try.prog 28 1 = (some (1, 1)) ∧
    tfagg Try.prog 28 1 = (some false) ∧
    tfld Try.prog 28 2 = (some (2, 1)) ∧
    tfagg Try.prog 28 2 = (some false) ∧
    tfld Try.prog 28 3 = (some (3, 1)) ∧
    tfagg Try.prog 28 3 = (some false) ∧
    tfld Try.prog 28 4 = (some (4, 1)) ∧
    tfagg Try.prog 28 4 = (some false) ∧
    tfld Try.prog 28 5 = (some (5, 1)) ∧
    tfagg Try.prog 28 5 = (some false) ∧
    tfld Try.prog 28 6 = (some (6, 1)) ∧
    tfagg Try.prog 28 6 = (some false) ∧
    tfld Try.prog 28 7 = (some (7, 1)) ∧
    tfagg Try.prog 28 7 = (some false) ∧
    tfld Try.prog 28 8 = (some (8, 1)) ∧
    tfagg Try.prog 28 8 = (some false) :=
  ⟨by kernel_rfl, by kernel_rfl, by kernel_rfl, by kernel_rfl, by kernel_rfl, by kernel_rfl, by kernel_rfl, by kernel_rfl, by kernel_rfl, by kernel_rfl, by kernel_rfl, by kernel_rfl, by kernel_rfl, by kernel_rfl, by kernel_rfl, by kernel_rfl, by kernel_rfl, by kernel_rfl, by kernel_rfl, by kernel_rfl, by kernel_rfl, by kernel_rfl, by kernel_rfl, by kernel_rfl, by kernel_rfl, by kernel_rfl, by kernel_rfl, by kernel_rfl, by kernel_rfl, by kernel_rfl⟩
theorem ty31 : tagg Try.prog 31 = (some false) ∧
    tsz Try.prog 31 = (some 1) ∧
    tel Try.prog 31 = (some 42) ∧
    tint Try.prog 31 = none ∧
    tstr Try.prog 31 = false ∧
    tbool Try.prog 31 = false ∧
    tarr Try.prog 31 = none ∧
    tby Try.prog 31 = (some 24) ∧
    tzero Try.prog 31 = (some [(Value.slice none 0 0)]) ∧
    (Try.prog.underlying 31).isSome = true ∧
    tcmp Try.prog 31 = false ∧
    tflds Try.prog 31 = none :=
  ⟨by kernel_rfl, by kernel_rfl, by kernel_rfl, by kernel_rfl, by kernel_rfl, by kernel_rfl, by kernel_rfl, by kernel_rfl, by kernel_rfl, by kernel_rfl, by kernel_rfl, by kernel_rfl⟩
theorem ty32 : tagg Try.prog 32 = (some false) ∧
    tsz Try.prog 32 = (some 1) ∧
    tel Try.prog 32 = (some 83) ∧
    tint Try.prog 32 = none ∧
    tstr Try.prog 32 = false ∧
    tbool Try.prog 32 = false ∧
    tarr Try.prog 32 = none ∧
    tby Try.prog 32 = (some 24) ∧
    tzero Try.prog 32 = (some [(Value.slice none 0 0)]) ∧
    (Try.prog.underlying 32).isSome = true ∧
    tcmp Try.prog 32 = false ∧
    tflds Try.prog 32 = none :=
  ⟨by kernel_rfl, by kernel_rfl, by kernel_rfl, by kernel_rfl, by kernel_rfl, by kernel_rfl, by kernel_rfl, by kernel_rfl, by kernel_rfl, by kernel_rfl, by kernel_rfl, by kernel_rfl⟩
theorem ty33 : tagg Try.prog 33 = (some false) ∧
    tsz Try.prog 33 = (some 1) ∧
    tel Try.prog 33 = (some 85) ∧
    tint Try.prog 33 = none ∧
    tstr Try.prog 33 = false ∧
    tbool Try.prog 33 = false ∧
    tarr Try.prog 33 = none ∧
    tby Try.prog 33 = (some 24) ∧
    tzero Try.prog 33 = (some [(Value.slice none 0 0)]) ∧
    (Try.prog.underlying 33).isSome = true ∧
    tcmp Try.prog 33 = false ∧
    tflds Try.prog 33 = none :=
  ⟨by kernel_rfl, by kernel_rfl, by kernel_rfl, by kernel_rfl, by kernel_rfl, by kernel_rfl, by kernel_rfl, by kernel_rfl, by kernel_rfl, by kernel_rfl, by kernel_rfl, by kernel_rfl⟩
theorem ty35 : tagg Try.prog 35 = (some true) ∧
    tsz Try.prog 35 = (some 4) ∧
    tel Try.prog 35 = none ∧
    tint Try.prog 35 = none ∧
    tstr Try.prog 35 = false ∧
    tbool Try.prog 35 = false ∧
    tarr Try.prog 35 = none ∧
    tby Try.prog 35 = (some 80) ∧
    tzero Try.prog 35 = (some [(Value.slice none 0 0), (Value.slice none 0 0), (Value.slice none 0 0), (Value.int .i64 0)]) ∧
    (Try.prog.underlying 35).isSome = true ∧
    tcmp Try.prog 35 = true ∧
    tflds Try.prog 35 = (some [(0, 1), (1, 1), (2, 1), (3, 1)]) ∧
    tfld Try.prog 35 0 = (some (0, 1)) ∧
    tfagg Try.prog 35 0 = (some false) ∧
    tfld Try.prog 35 1 = (some (1, 1)) ∧
    tfagg Try.prog 35 1 = (some false) ∧
    tfld Try.prog 35 2 = (some (2, 1)) ∧
    tfagg Try.prog 35 2 = (some false) ∧
    tfld Try.prog 35 3 = (some (3, 1)) ∧
    tfagg Try.prog 35 3 = (some false) :=
  ⟨by kernel_rfl, by kernel_rfl, by kernel_rfl, by kernel_rfl, by kernel_rfl, by kernel_rfl, by kernel_rfl, by kernel_rfl, by kernel_rfl, by kernel_rfl, by kernel_rfl, by kernel_rfl, by kernel_rfl, by kernel_rfl, by kernel_rfl, by kernel_rfl, by kernel_rfl, by kernel_rfl, by kernel_rfl, by kernel_rfl⟩
theorem ty41 : tagg Try.prog 41 = (some false) ∧
    tsz Try.prog 41 = (some 1) ∧
    tel Try.prog 41 = (some 3) ∧
    tint Try.prog 41 = none ∧
    tstr Try.prog 41 = false ∧
    tbool Try.prog 41 = false ∧
    tarr Try.prog 41 = none ∧
    tby Try.prog 41 = (some 24) ∧
    tzero Try.prog 41 = (some [(Value.slice none 0 0)]) ∧
    (Try.prog.underlying 41).isSome = true ∧
    tcmp Try.prog 41 = false ∧
    tflds Try.prog 41 = none :=
  ⟨by kernel_rfl, by kernel_rfl, by kernel_rfl, by kernel_rfl, by kernel_rfl, by kernel_rfl, by kernel_rfl, by kernel_rfl, by kernel_rfl, by kernel_rfl, by kernel_rfl, by kernel_rfl⟩
theorem ty42 : tagg Try.prog 42 = (some false) ∧
    tsz Try.prog 42 = (some 1) ∧
    tel Try.prog 42 = (some 5) ∧
    tint Try.prog 42 = none ∧
    tstr Try.prog 42 = false ∧
    tbool Try.prog 42 = false ∧
    tarr Try.prog 42 = none ∧
    tby Try.prog 42 = (some 24) ∧
    tzero Try.prog 42 = (some [(Value.slice none 0 0)]) ∧
    (Try.prog.underlying 42).isSome = true ∧
    tcmp Try.prog 42 = false ∧
    tflds Try.prog 42 = none :=
  ⟨by kernel_rfl, by kernel_rfl, by kernel_rfl, by kernel_rfl, by kernel_rfl, by kernel_rfl, by kernel_rfl, by kernel_rfl, by kernel_rfl, by kernel_rfl, by kernel_rfl, by kernel_rfl⟩
theorem ty43 : tagg Try.prog 43 = (some false) ∧
    tsz Try.prog 43 = (some 1) ∧
    tel Try.prog 43 = (some 61) ∧
    tint Try.prog 43 = none ∧
    tstr Try.prog 43 = false ∧
    tbool Try.prog 43 = false ∧
    tarr Try.prog 43 = none ∧
    tby Try.prog 43 = (some 24) ∧
    tzero Try.prog 43 = (some [(Value.slice none 0 0)]) ∧
    (Try.prog.underlying 43).isSome = true ∧
    tcmp Try.prog 43 = false ∧
    tflds Try.prog 43 = none :=
  ⟨by kernel_rfl, by kernel_rfl, by kernel_rfl, by kernel_rfl, by kernel_rfl, by kernel_rfl, by kernel_rfl, by kernel_rfl, by kernel_rfl, by kernel_rfl, by kernel_rfl, by kernel_rfl⟩
theorem ty56 : tagg Try.prog 56 = (some false) ∧
    tsz Try.prog 56 = (some 1) ∧
    tel Try.prog 56 = (some 4) ∧
    tint Try.prog 56 = none ∧
    tstr Try.prog 56 = false ∧
    tbool Try.prog 56 = false ∧
    tarr Try.prog 56 = none ∧
    tby Try.prog 56 = (some 24) ∧
    tzero Try.prog 56 = (some [(Value.slice none 0 0)]) ∧
    (Try.prog.underlying 56).isSome = true ∧
    tcmp Try.prog 56 = false ∧
    tflds Try.prog 56 = none :=
  ⟨by kernel_rfl, by kernel_rfl, by kernel_rfl, by kernel_rfl, by kernel_rfl, by kernel_rfl, by kernel_rfl, by kernel_rfl, by kernel_rfl, by kernel_rfl, by kernel_rfl, by kernel_rfl⟩
theorem ty61 : tagg Try.prog 61 = (some true) ∧
    tsz Try.prog 61 = (some 3) ∧
    tel Try.prog 61 = none ∧
    tint Try.prog 61 = none ∧
    tstr Try.prog 61 = false ∧
    tbool Try.prog 61 = false ∧
    tarr Try.prog 61 = none ∧
    tby Try.prog 61 = (some 24) ∧
    tzero Try.prog 61 = (some [(Value.int .i64 0), (Value.int .i64 0), (Value.int .i64 0)]) ∧
    (Try.prog.underlying 61).isSome = true ∧
    tcmp Try.prog 61 = true ∧
    tflds Try.prog 61 = (some [(0, 1), (1, 1), (2, 1)]) ∧
    tfld Try.prog 61 0 = (some (0, 1)) ∧
    tfagg Try.prog 61 0 = (some false) ∧
    tfld Try.prog 61 1 = (some (1, 1)) ∧
    tfagg Try.prog 61 1 = (some false) ∧
    tfld Try.prog 61 2 = (some (2, 1)) ∧
    tfagg Try.prog 61 2 = (some false) :=
  ⟨by kernel_rfl, by kernel_rfl, by kernel_rfl, by kernel_rfl, by kernel_rfl, by kernel_rfl, by kernel_rfl, by kernel_rfl, by kernel_rfl, by kernel_rfl, by kernel_rfl, by kernel_rfl, by kernel_rfl, by kernel_rfl, by kernel_rfl, by kernel_rfl, by kernel_rfl, by kernel_rfl⟩
theorem ty78 : tagg Try.prog 78 = (some true) ∧
    tsz Try.prog 78 = (some 3) ∧
    tel Try.prog 78 = none ∧
    tint Try.prog 78 = none ∧
    tstr Try.prog 78 = false ∧
    tbool Try.prog 78 = false ∧
    tarr Try.prog 78 = (some (3, 3)) ∧
    tby Try.prog 78 = (some 24) ∧
    tzero Try.prog 78 = (some [(Value.int .i64 0), (Value.int .i64 0), (Value.int .i64 0)]) ∧
    (Try.prog.underlying 78).isSome = true ∧
    tcmp Try.prog 78 = true ∧
    tflds Try.prog 78 = none :=
  ⟨by kernel_rfl, by kernel_rfl, by kernel_rfl, by kernel_rfl, by kernel_rfl, by kernel_rfl, by kernel_rfl, by kernel_rfl, by kernel_rfl, by kernel_rfl, by kernel_rfl, by kernel_rfl⟩
theorem ty79 : tagg Try.prog 79 = (some false) ∧
    tsz Try.prog 79 = (some 1) ∧
    tel Try.prog 79 = (some 78) ∧
    tint Try.prog 79 = none ∧
    tstr Try.prog 79 = false ∧
    tbool Try.prog 79 = false ∧
    tarr Try.prog 79 = none ∧
    tby Try.prog 79 = (some 24) ∧
    tzero Try.prog 79 = (some [(Value.slice none 0 0)]) ∧
    (Try.prog.underlying 79).isSome = true ∧
    tcmp Try.prog 79 = false ∧
    tflds Try.prog 79 = none :=
  ⟨by kernel_rfl, by kernel_rfl, by kernel_rfl, by kernel_rfl, by kernel_rfl, by kernel_rfl, by kernel_rfl, by kernel_rfl, by kernel_rfl, by kernel_rfl, by kernel_rfl, by kernel_rfl⟩
theorem ty83 : tagg Try.prog 83 = (some true) ∧
    tsz Try.prog 83 = (some 2) ∧
    tel Try.prog 83 = none ∧
    tint Try.prog 83 = none ∧
    tstr Try.prog 83 = false ∧
    tbool Try.prog 83 = false ∧
    tarr Try.prog 83 = none ∧
    tby Try.prog 83 = (some 32) ∧
    tzero Try.prog 83 = (some [(Value.int .i64 0), (Value.slice none 0 0)]) ∧
    (Try.prog.underlying 83).isSome = true ∧
    tcmp Try.prog 83 = true ∧
    tflds Try.prog 83 = (some [(0, 1), (1, 1)]) ∧
    tfld Try.prog 83 0 = (some (0, 1)) ∧
    tfagg Try.prog 83 0 = (some false) ∧
    tfld Try.prog 83 1 = (some (1, 1)) ∧
    tfagg Try.prog 83 1 = (some false) :=
  ⟨by kernel_rfl, by kernel_rfl, by kernel_rfl, by kernel_rfl, by kernel_rfl, by kernel_rfl, by kernel_rfl, by kernel_rfl, by kernel_rfl, by kernel_rfl, by kernel_rfl, by kernel_rfl, by kernel_rfl, by kernel_rfl, by kernel_rfl, by kernel_rfl⟩
theorem ty85 : tagg Try.prog 85 = (some true) ∧
    tsz Try.prog 85 = (some 3) ∧
    tel Try.prog 85 = none ∧
    tint Try.prog 85 = none ∧
    tstr Try.prog 85 = false ∧
    tbool Try.prog 85 = false ∧
    tarr Try.prog 85 = none ∧
    tby Try.prog 85 = (some 40) ∧
    tzero Try.prog 85 = (some [(Value.slice none 0 0), (Value.int .i64 0), (Value.bool false)]) ∧
    (Try.prog.underlying 85).isSome = true ∧
    tcmp Try.prog 85 = true ∧
    tflds Try.prog 85 = (some [(0, 1), (1, 1), (2, 1)]) ∧
    tfld Try.prog 85 0 = (some (0, 1)) ∧
    tfagg Try.prog 85 0 = (some false) ∧
    tfld Try.prog 85 1 = (some (1, 1)) ∧
    tfagg Try.prog 85 1 = (some false) ∧
    tfld Try.prog 85 2 = (some (2, 1)) ∧
    tfagg Try.prog 85 2 = (some false) :=
  ⟨by kernel_rfl, by kernel_rfl, by kernel_rfl, by kernel_rfl, by kernel_rfl, by kernel_rfl, by kernel_rfl, by kernel_rfl, by kernel_rfl, by kernel_rfl, by kernel_rfl, by kernel_rfl, by kernel_rfl, by kernel_rfl, by kernel_rfl, by kernel_rfl, by kernel_rfl, by kernel_rfl⟩
theorem ty101 : tagg Try.prog 101 = (some false) ∧
    tsz Try.prog 101 = (some 1) ∧
    tel Try.prog 101 = (some 104) ∧
    tint Try.prog 101 = none ∧
    tstr Try.prog 101 = false ∧
    tbool Try.prog 101 = false ∧
    tarr Try.prog 101 = none ∧
    tby Try.prog 101 = (some 24) ∧
    tzero Try.prog 101 = (some [(Value.slice none 0 0)]) ∧
    (Try.prog.underlying 101).isSome = true ∧
    tcmp Try.prog 101 = false ∧
    tflds Try.prog 101 = none :=
  ⟨by kernel_rfl, by kernel_rfl, by kernel_rfl, by kernel_rfl, by kernel_rfl, by kernel_rfl, by kernel_rfl, by kernel_rfl, by kernel_rfl, by kernel_rfl, by kernel_rfl, by kernel_rfl⟩
theorem ty104 : tagg Try.prog 104 = (some true) ∧
    tsz Try.prog 104 = (some 3) ∧
    tel Try.prog 104 = none ∧
    tint Try.prog 104 = none ∧
    tstr Try.prog 104 = false ∧
    tbool Try.prog 104 = false ∧
    tarr Try.prog 104 = none ∧
    tby Try.prog 104 = (some 40) ∧
    tzero Try.prog 104 = (some [(Value.bool false), (Value.int .i64 0), (Value.slice none 0 0)]) ∧
    (Try.prog.underlying 104).isSome = true ∧
    tcmp Try.prog 104 = true ∧
    tflds Try.prog 104 = (some [(0, 1), (1, 1), (2, 1)]) ∧
    tfld Try.prog 104 0 = (some (0, 1)) ∧
    tfagg Try.prog 104 0 = (some false) ∧
    tfld Try.prog 104 1 = (some (1, 1)) ∧
    tfagg Try.prog 104 1 = (some false) ∧
    tfld Try.prog 104 2 = (some (2, 1)) ∧
    tfagg Try.prog 104 2 = (some false) :=
  ⟨by kernel_rfl, by kernel_rfl, by kernel_rfl, by kernel_rfl, by kernel_rfl, by kernel_rfl, by kernel_rfl, by kernel_rfl, by kernel_rfl, by kernel_rfl, by kernel_rfl, by kernel_rfl, by kernel_rfl, by kernel_rfl, by kernel_rfl, by kernel_rfl, by kernel_rfl, by kernel_rfl⟩
theorem ty108 : tagg Try.prog 108 = (some true) ∧
    tsz Try.prog 108 = (some 10) ∧
    tel Try.prog 108 = none ∧
    tint Try.prog 108 = none ∧
    tstr Try.prog 108 = false ∧
    tbool Try.prog 108 = false ∧
    tarr Try.prog 108 = none ∧
    tby Try.prog 108 = (some 128) ∧
    tzero Try.prog 108 = (some [(Value.int .i64 0), (Value.int .i64 0), (Value.int .i64 0), (Value.int .i64 0), (Value.int .i64 0), (Value.slice none 0 0), (Value.slice none 0 0), (Value.slice none 0 0), (Value.int .i64 0), (Value.int .i64 0)]) ∧
    (Try.prog.underlying 108).isSome = true ∧
    tcmp Try.prog 108 = true ∧
    tflds Try.prog 108 = (some [(0, 5), (5, 4), (9, 1)]) ∧
    tfld Try.prog 108 0 = (some (0, 5)) ∧
    tfagg Try.prog 108 0 = (some true) ∧
    tfld Try.prog 108 1 = (some (5, 4)) ∧
    tfagg Try.prog 108 1 = (some true) ∧
    tfld Try.prog 108 2 = (some (9, 1)) ∧
    tfagg Try.prog 108 2 = (some false) :=
  ⟨by kernel_rfl, by kernel_rfl, by kernel_rfl, by kernel_rfl, by kernel_rfl, by kernel_rfl, by kernel_rfl, by kernel_rfl, by kernel_rfl, by kernel_rfl, by kernel_rfl, by kernel_rfl, by kernel_rfl, by kernel_rfl, by kernel_rfl, by kernel_rfl, by kernel_rfl, by kernel_rfl⟩
theorem ty115 : tagg Try.prog 115 = (some true) ∧
    tsz Try.prog 115 = (some 5) ∧
    tel Try.prog 115 = none ∧
    tint Try.prog 115 = none ∧
    tstr Try.prog 115 = false ∧
    tbool Try.prog 115 = false ∧
    tarr Try.prog 115 = none ∧
    tby Try.prog 115 = (some 56) ∧
    tzero Try.prog 115 = (some [(Value.int .i64 0), (Value.int .i64 0), (Value.int .i64 0), (Value.bool false), (Value.slice none 0 0)]) ∧
    (Try.prog.underlying 115).isSome = true ∧
    tcmp Try.prog 115 = true ∧
    tflds Try.prog 115 = (some [(0, 1), (1, 1), (2, 1), (3, 1), (4, 1)]) ∧
    tfld Try.prog 115 0 = (some (0, 1)) ∧
    tfagg Try.prog 115 0 = (some false) ∧
    tfld Try.prog 115 1 = (some (1, 1)) ∧
    tfagg Try.prog 115 1 = (some false) ∧
    tfld Try.prog 115 2 = (some (2, 1)) ∧
    tfagg Try.prog 115 2 = (some false) ∧
    tfld Try.prog 115 3 = (some (3, 1)) ∧
    tfagg Try.prog 115 3 = (some false) ∧
    tfld Try.prog 115 4 = (some (4, 1)) ∧
    tfagg Try.prog 115 4 = (some false) :=
  ⟨by kernel_rfl, by kernel_rfl, by kernel_rfl, by kernel_rfl, by kernel_rfl, by kernel_rfl, by kernel_rfl, by kernel_rfl, by kernel_rfl, by kernel_rfl, by kernel_rfl, by kernel_rfl, by kernel_rfl, by kernel_rfl, by kernel_rfl, by kernel_rfl, by kernel_rfl, by kernel_rfl, by kernel_rfl, by kernel_rfl, by kernel_rfl, by kernel_rfl⟩
end Go.Proofs.Ytmkcamfanimdoaa
