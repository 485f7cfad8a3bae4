/- dev.Flush and the reference's. -/
import Derived.Test.YtalhjhmphdgaoaaDevRes
import Derived.Test.YtalhjhmphdgaoaaTypes
namespace Go.Proofs.Ytalhjhmphdgaoaa
open Go.RowKit
set_option maxRecDepth 100000
def o64_1 : List SO := ((SO.mk (some 7) (.move (.tmp 15)) none) :: [])
theorem v64_1 : type_of% (@swl _ _ o64_1.eq_1) := @swl _ _ o64_1.eq_1
def o64_2 : List SO := ((SO.mk (some 14) (.extract (.tmp 10) 0) none) :: (SO.mk (some 15) (.extract (.tmp 10) 1) none) :: (SO.mk (some 6) (.alloc 28) none) :: (SO.mk none (.store 28 (.tmp 6) (.tmp 14)) none) :: o64_1)
theorem v64_2 : type_of% (@swl _ _ o64_2.eq_1) := @swl _ _ o64_2.eq_1
def c64_3 : SC := (.seq (.reg [SO.mk (some 18) (.build 28 []) none, SO.mk (some 19) (.move (.tmp 7)) none, SO.mk none (.store 28 (.tmp 4) (.tmp 18)) none, SO.mk (some 5) (.move (.tmp 19)) none]) (.keep [4, 5] .ret))
theorem u64_3 : type_of% (@swc _ _ c64_3.eq_1) := @swc _ _ c64_3.eq_1
def c64_4 : SC := (.cond (.tmp 17) c64_3 .skip)
theorem u64_4 : type_of% (@swc _ _ c64_4.eq_1) := @swc _ _ c64_4.eq_1
def o64_5 : List SO := ((SO.mk (some 31) (.faddr 55 (.tmp 9) 1) none) :: (SO.mk (some 32) (.load 29 (.tmp 31)) none) :: (SO.mk (some 33) (.iaddr 24 (.tmp 28) (.tmp 30)) none) :: (SO.mk none (.store 29 (.tmp 33) (.tmp 32)) none) :: [])
theorem v64_5 : type_of% (@swl _ _ o64_5.eq_1) := @swl _ _ o64_5.eq_1
def c64_6 : SC := (.reg ((SO.mk (some 27) (.faddr 28 (.tmp 6) 0) none) :: (SO.mk (some 28) (.load 24 (.tmp 27)) none) :: (SO.mk (some 29) (.faddr 55 (.tmp 9) 0) none) :: (SO.mk (some 30) (.load 3 (.tmp 29)) none) :: o64_5))
theorem u64_6 : type_of% (@swc _ _ c64_6.eq_1) := @swc _ _ c64_6.eq_1
def c64_7 : SC := (.reg [SO.mk (some 34) (.bin .add 3 (.tmp 23) (.const (Value.int .i64 1))) none, SO.mk (some 23) (.move (.tmp 34)) none])
theorem u64_7 : type_of% (@swc _ _ c64_7.eq_1) := @swc _ _ c64_7.eq_1
def c64_8 : SC := (.seq (.block 1 (.seq (.reg [SO.mk (some 25) (.iaddr 25 (.tmp 21) (.tmp 23)) none, SO.mk (some 26) (.load 55 (.tmp 25)) none, SO.mk (some 9) (.alloc 55) none, SO.mk none (.store 55 (.tmp 9) (.tmp 26)) none]) (.keep [9, 23, 22, 21, 6, 4] c64_6))) (.keep [23, 22, 21, 6, 4] c64_7))
theorem u64_8 : type_of% (@swc _ _ c64_8.eq_1) := @swc _ _ c64_8.eq_1
def c64_9 : SC := (.seq (.cond (.tmp 24) .skip (.exit 0)) (.keep [23, 22, 21, 6, 4] c64_8))
theorem u64_9 : type_of% (@swc _ _ c64_9.eq_1) := @swc _ _ c64_9.eq_1
def c64_10 : SC := (.seq (.reg [SO.mk (some 24) (.bin .lss 3 (.tmp 23) (.tmp 22)) none]) (.keep [24, 21, 22, 23, 6, 4] c64_9))
theorem u64_10 : type_of% (@swc _ _ c64_10.eq_1) := @swc _ _ c64_10.eq_1
def c64_11 : SC := (.block 0 (.loop (.keep [21, 22, 23, 6, 4] c64_10)))
theorem u64_11 : type_of% (@swc _ _ c64_11.eq_1) := @swc _ _ c64_11.eq_1
def c64_12 : SC := (.seq (.reg [SO.mk (some 36) (.load 28 (.tmp 6)) none, SO.mk none (.store 28 (.tmp 4) (.tmp 36)) none, SO.mk (some 5) (.move (.const (Value.int .i64 0))) none]) (.keep [4, 5] .ret))
theorem u64_12 : type_of% (@swc _ _ c64_12.eq_1) := @swc _ _ c64_12.eq_1
def c64_13 : SC := (.seq (.reg [SO.mk (some 35) (.faddr 28 (.tmp 6) 1) none, SO.mk none (.store 25 (.tmp 35) (.const (Value.slice none 0 0))) none]) (.keep [6, 4] c64_12))
theorem u64_13 : type_of% (@swc _ _ c64_13.eq_1) := @swc _ _ c64_13.eq_1
def c64_14 : SC := (.seq (.seq (.reg [SO.mk (some 20) (.faddr 28 (.tmp 6) 1) none, SO.mk (some 21) (.load 25 (.tmp 20)) none, SO.mk (some 22) (.len 25 (.tmp 21)) none, SO.mk (some 23) (.move (.const (Value.int .i64 0))) none]) (.keep [21, 22, 23, 6, 4] c64_11)) (.keep [6, 4] c64_13))
theorem u64_14 : type_of% (@swc _ _ c64_14.eq_1) := @swc _ _ c64_14.eq_1
def c64_15 : SC := (.seq (.seq (.reg [SO.mk (some 16) (.move (.tmp 7)) none, SO.mk (some 17) (.bin .neq 30 (.tmp 16) (.const (Value.int .i64 0))) none]) (.keep [17, 7, 6, 4] c64_4)) (.keep [6, 4] c64_14))
theorem u64_15 : type_of% (@swc _ _ c64_15.eq_1) := @swc _ _ c64_15.eq_1
def c64_16 : SC := (.seq (.reg ((SO.mk (some 11) (.load 23 (.tmp 2)) none) :: (SO.mk (some 12) (.load 28 (.tmp 3)) none) :: (SO.mk (some 13) (.call 27 [(.tmp 11), (.tmp 12)]) none) :: (SO.mk (some 10) (.move (.tmp 13)) none) :: o64_2)) (.keep [7, 6, 4] c64_15))
theorem u64_16 : type_of% (@swc _ _ c64_16.eq_1) := @swc _ _ c64_16.eq_1
def c64 : SC := (.seq (.reg [SO.mk (some 2) (.box 23 (.tmp 0)) none, SO.mk (some 3) (.box 28 (.tmp 1)) none, SO.mk (some 4) (.alloc 28) none, SO.mk (some 5) (.move (.const (Value.int .i64 0))) none]) (.keep [2, 3, 4] c64_16))
theorem c64_eq : annC Try.f64 = some c64 := by kernel_rfl
theorem r64 : Try.f64.results.toList = [.cell 4 28, .tmp 5] := by kernel_rfl
theorem e64 : enters Try.prog 64 = true := by kernel_rfl
def c66_1 : SC := (.seq (.reg [SO.mk (some 14) (.build 28 []) none, SO.mk (some 15) (.move (.tmp 6)) none, SO.mk none (.store 28 (.tmp 4) (.tmp 14)) none, SO.mk (some 5) (.move (.tmp 15)) none]) (.keep [4, 5] .ret))
theorem u66_1 : type_of% (@swc _ _ c66_1.eq_1) := @swc _ _ c66_1.eq_1
def c66_2 : SC := (.cond (.tmp 13) c66_1 .skip)
theorem u66_2 : type_of% (@swc _ _ c66_2.eq_1) := @swc _ _ c66_2.eq_1
def o66_3 : List SO := ((SO.mk (some 20) (.extract (.tmp 16) 1) none) :: (SO.mk (some 7) (.alloc 28) none) :: (SO.mk none (.store 28 (.tmp 7) (.tmp 19)) none) :: (SO.mk (some 6) (.move (.tmp 20)) none) :: [])
theorem v66_3 : type_of% (@swl _ _ o66_3.eq_1) := @swl _ _ o66_3.eq_1
def c66_4 : SC := (.seq (.reg [SO.mk (some 23) (.build 28 []) none, SO.mk (some 24) (.move (.tmp 6)) none, SO.mk none (.store 28 (.tmp 4) (.tmp 23)) none, SO.mk (some 5) (.move (.tmp 24)) none]) (.keep [4, 5] .ret))
theorem u66_4 : type_of% (@swc _ _ c66_4.eq_1) := @swc _ _ c66_4.eq_1
def c66_5 : SC := (.cond (.tmp 22) c66_4 .skip)
theorem u66_5 : type_of% (@swc _ _ c66_5.eq_1) := @swc _ _ c66_5.eq_1
def c66_6 : SC := (.cond (.tmp 29) .skip (.exit 0))
theorem u66_6 : type_of% (@swc _ _ c66_6.eq_1) := @swc _ _ c66_6.eq_1
def o66_7 : List SO := ((SO.mk (some 44) (.faddr 55 (.tmp 43) 1) none) :: (SO.mk (some 45) (.load 29 (.tmp 44)) none) :: (SO.mk (some 46) (.iaddr 24 (.tmp 33) (.tmp 39)) none) :: [])
theorem v66_7 : type_of% (@swd _ _ o66_7.eq_1) := @swd _ _ o66_7.eq_1
def o66_8 : List SO := ((SO.mk (some 40) (.faddr 28 (.tmp 7) 1) none) :: (SO.mk (some 41) (.load 25 (.tmp 40)) none) :: (SO.mk (some 42) (.move (.tmp 8)) none) :: (SO.mk (some 43) (.iaddr 25 (.tmp 41) (.tmp 42)) none) :: o66_7)
theorem v66_8 : type_of% (@swd _ _ o66_8.eq_1) := @swd _ _ o66_8.eq_1
def o66_9 : List SO := ((SO.mk (some 36) (.move (.tmp 8)) none) :: (SO.mk (some 37) (.iaddr 25 (.tmp 35) (.tmp 36)) none) :: (SO.mk (some 38) (.faddr 55 (.tmp 37) 0) none) :: (SO.mk (some 39) (.load 3 (.tmp 38)) none) :: o66_8)
theorem v66_9 : type_of% (@swd _ _ o66_9.eq_1) := @swd _ _ o66_9.eq_1
def o66_10 : List SO := ((SO.mk (some 32) (.faddr 28 (.tmp 7) 0) none) :: (SO.mk (some 33) (.load 24 (.tmp 32)) none) :: (SO.mk (some 34) (.faddr 28 (.tmp 7) 1) none) :: (SO.mk (some 35) (.load 25 (.tmp 34)) none) :: o66_9)
theorem v66_10 : type_of% (@swd _ _ o66_10.eq_1) := @swd _ _ o66_10.eq_1
theorem m66_10 (B : Nat) : mkNames B o66_10 = [] := (rfl)
def c66_11 : SC := (.reg [SO.mk (some 30) (.move (.tmp 8)) none, SO.mk (some 31) (.bin .add 3 (.tmp 30) (.const (Value.int .i64 1))) none, SO.mk (some 8) (.move (.tmp 31)) none])
theorem u66_11 : type_of% (@swc _ _ c66_11.eq_1) := @swc _ _ c66_11.eq_1
def c66_12 : SC := (.seq (.block 1 (.dreg false o66_10 [SO.mk none (.store 29 (.tmp 46) (.tmp 45)) none])) (.keep [8, 7, 4] c66_11))
theorem u66_12 : type_of% (@swc _ _ c66_12.eq_1) := @swc _ _ c66_12.eq_1
def c66_13 : SC := (.seq (.seq (.reg [SO.mk (some 25) (.move (.tmp 8)) none, SO.mk (some 26) (.faddr 28 (.tmp 7) 1) none, SO.mk (some 27) (.load 25 (.tmp 26)) none, SO.mk (some 28) (.len 25 (.tmp 27)) none, SO.mk (some 29) (.bin .lss 3 (.tmp 25) (.tmp 28)) none]) (.keep [29, 8, 7, 4] c66_6)) (.keep [8, 7, 4] c66_12))
theorem u66_13 : type_of% (@swc _ _ c66_13.eq_1) := @swc _ _ c66_13.eq_1
def c66_14 : SC := (.block 0 (.loop (.keep [8, 7, 4] c66_13)))
theorem u66_14 : type_of% (@swc _ _ c66_14.eq_1) := @swc _ _ c66_14.eq_1
def c66_15 : SC := (.seq (.reg [SO.mk (some 48) (.load 28 (.tmp 7)) none, SO.mk none (.store 28 (.tmp 4) (.tmp 48)) none, SO.mk (some 5) (.move (.const (Value.int .i64 0))) none]) (.keep [4, 5] .ret))
theorem u66_15 : type_of% (@swc _ _ c66_15.eq_1) := @swc _ _ c66_15.eq_1
def c66_16 : SC := (.seq (.reg [SO.mk (some 47) (.faddr 28 (.tmp 7) 1) none, SO.mk none (.store 25 (.tmp 47) (.const (Value.slice none 0 0))) none]) (.keep [7, 4] c66_15))
theorem u66_16 : type_of% (@swc _ _ c66_16.eq_1) := @swc _ _ c66_16.eq_1
def c66_17 : SC := (.seq (.seq (.reg [SO.mk (some 8) (.move (.const (Value.int .i64 0))) none]) (.keep [8, 7, 4] c66_14)) (.keep [7, 4] c66_16))
theorem u66_17 : type_of% (@swc _ _ c66_17.eq_1) := @swc _ _ c66_17.eq_1
def c66_18 : SC := (.seq (.seq (.reg [SO.mk (some 21) (.move (.tmp 6)) none, SO.mk (some 22) (.bin .neq 30 (.tmp 21) (.const (Value.int .i64 0))) none]) (.keep [22, 6, 7, 4] c66_5)) (.keep [7, 4] c66_17))
theorem u66_18 : type_of% (@swc _ _ c66_18.eq_1) := @swc _ _ c66_18.eq_1
def c66_19 : SC := (.seq (.reg ((SO.mk (some 17) (.load 28 (.tmp 3)) none) :: (SO.mk (some 18) (.call 29 [(.tmp 17)]) none) :: (SO.mk (some 16) (.move (.tmp 18)) none) :: (SO.mk (some 19) (.extract (.tmp 16) 0) none) :: o66_3)) (.keep [6, 7, 4] c66_18))
theorem u66_19 : type_of% (@swc _ _ c66_19.eq_1) := @swc _ _ c66_19.eq_1
def c66_20 : SC := (.seq (.seq (.reg [SO.mk (some 12) (.move (.tmp 6)) none, SO.mk (some 13) (.bin .neq 30 (.tmp 12) (.const (Value.int .i64 0))) none]) (.keep [13, 6, 3, 4] c66_2)) (.keep [3, 4] c66_19))
theorem u66_20 : type_of% (@swc _ _ c66_20.eq_1) := @swc _ _ c66_20.eq_1
def c66_21 : SC := (.seq (.reg [SO.mk (some 9) (.load 23 (.tmp 2)) none, SO.mk (some 10) (.load 28 (.tmp 3)) none, SO.mk (some 11) (.call 23 [(.tmp 9), (.tmp 10)]) none, SO.mk (some 6) (.move (.tmp 11)) none]) (.keep [6, 3, 4] c66_20))
theorem u66_21 : type_of% (@swc _ _ c66_21.eq_1) := @swc _ _ c66_21.eq_1
def c66 : SC := (.seq (.reg [SO.mk (some 2) (.box 23 (.tmp 0)) none, SO.mk (some 3) (.box 28 (.tmp 1)) none, SO.mk (some 4) (.alloc 28) none, SO.mk (some 5) (.move (.const (Value.int .i64 0))) none]) (.keep [2, 3, 4] c66_21))
theorem c66_eq : annC Try.f66 = some c66 := by kernel_rfl
theorem r66 : Try.f66.results.toList = [.cell 4 28, .tmp 5] := by kernel_rfl
theorem e66 : enters Try.prog 66 = true := by kernel_rfl
end Go.Proofs.Ytalhjhmphdgaoaa
namespace Go.Proofs.Ytalhjhmphdgaoaa
open Go.RowKit
set_option maxHeartbeats 4000000
set_option maxRecDepth 20000
attribute [local irreducible] SW SWL SWLn SWD SEcall SEcallv SDv SE SO1 SOg ACalls ACallv Wk EndV
set_option linter.unusedSimpArgs false
set_option linter.unusedVariables false
theorem spend3 (g : GeoD) (d : DevD) : (devF g d == 0) = false ∧ (devF g d != 0) = true ∧ spendE g d = devF g d ∧ spendE g d ≠ 0 ∨ devF g d = 0 ∧ (d.fuel == 0) = true ∧ spendE g d = 10 ∧ spendE g d ≠ 0 ∨ devF g d = 0 ∧ (d.fuel == 0) = false ∧ spendE g d = 0 := by
  rcases devE_or g d with h1 | ⟨h1, h1'⟩
  · cases h2 : d.fuel == 0
    · refine .inr (.inr ⟨h1, rfl, ?_⟩); simp only [spendE, h1, h2, bne_self_eq_false, cond_false]
    · have e : spendE g d = 10 := by simp only [spendE, h1, h2, bne_self_eq_false, cond_false, cond_true]
      exact .inr (.inl ⟨h1, rfl, e, by rw [e]; decide⟩)
  · have e : spendE g d = devF g d := by simp only [spendE, h1', cond_true]
    exact .inl ⟨h1, h1', e, by rw [e]; simpa using h1⟩
theorem res_errS {D : DevD} {E e : Int} {f : DevD} (hD : D = bif E == 0 then f else nilD) (h : E = e) (he : E ≠ 0) : AV.tup [.agg [.d (.ro []), .d (.ro []), .d (.ro []), I 0], I e] = AV.tup [.agg [.d (.ro (D.safe.map secRow)), .d (.ro (D.cache.map WrD.row)), .d (.ro (D.vols.map VolD.row)), I D.fuel], I e] := by
  have : (E == 0) = false := by simpa using he
  rw [hD, this]; rfl
theorem res_okS {D : DevD} {E : Int} {f : DevD} (hD : D = bif E == 0 then f else nilD) {s c v : RV} {u : Int} (h : E = 0) (h1 : s = .ro (f.safe.map secRow)) (h2 : c = .ro (f.cache.map WrD.row)) (h3 : v = .ro (f.vols.map VolD.row)) (h4 : u = f.fuel) : AV.tup [.agg [.d s, .d c, .d v, I u], I 0] = AV.tup [.agg [.d (.ro (D.safe.map secRow)), .d (.ro (D.cache.map WrD.row)), .d (.ro (D.vols.map VolD.row)), I D.fuel], I 0] := by
  rw [hD, h, h1, h2, h3, h4]; rfl
def putAll (s : List (List UInt8)) (ws : List WrD) : List (List UInt8) := ws.foldl (fun s w => s.set w.pos.toNat w.data) s
theorem putAll_len (s : List (List UInt8)) (ws : List WrD) : (putAll s ws).length = s.length := by
  unfold putAll
  induction ws generalizing s with
  | nil => rfl
  | cons w ws ih => simp only [List.foldl_cons]; rw [ih]; simp
theorem putAll_take (s : List (List UInt8)) (ws : List WrD) : List.take s.length ((putAll s ws).map secRow) = (putAll s ws).map secRow := List.take_of_length_le (by rw [List.length_map, putAll_len]; exact Nat.le_refl _)
theorem putAll_next {s : List (List UInt8)} {ws : List WrD} {k : Nat} (h : k < ws.length) : putAll s (ws.take (k + 1)) = (putAll s (ws.take k)).set (ws[k]!).pos.toNat (ws[k]!).data := by
  rw [take_next h]; unfold putAll; rw [List.foldl_append]; rfl
theorem putAll_nil (s : List (List UInt8)) : putAll s [] = s := rfl
def flushD (g : GeoD) (d : DevD) : DevD := bif spendE g d == 0 then ⟨putAll d.safe d.cache, [], d.vols, fuel1 d⟩ else nilD
def putRow (d : DevD) : Prop := ∀ k : Nat, decide ((k : Int) < d.cache.length) = true → rowOf ((putAll d.safe (d.cache.take k)).map secRow) (d.cache[k]!).pos.toNat = [bytes ((putAll d.safe (d.cache.take k))[(d.cache[k]!).pos.toNat]!)]
theorem putRow_of {g : GeoD} {d : DevD} (h : devF g d = 0) : putRow d := fun k hk => by
  have hk' := dltL hk
  have := (okd h).wr k hk'
  rw [rowOf_map _ _ _ (by rw [putAll_len]; omega)]; rfl
theorem flush_p (g : GeoD) (d : DevD) (hw : d.fit) : Pure Try.prog 64 [g.av, d.av] (.tup [(flushD g d).av, I (spendE g d)]) := by
  refine pureY_of follows Try.func64 c64_eq r64 (Nat.le_of_ble_eq_true rfl) fun B σ hcl hsz => ?_
  obtain ⟨z1, z2, z3⟩ := dev_sz (hsz d.av (by simp))
  clear hsz
  rcases spend3 g d with ⟨h1, h1', hs, hb⟩ | ⟨h1, h2, hs, hb⟩ | ⟨h1, h2, hs⟩
  all_goals (try (have hrow := putRow_of (g := g) (d := d) (by assumption)); try unfold putRow at hrow)
  repeat' (first | (simp -implicitDefEqProofs only [*, contN, contC, Nat.reduceBEq, Bool.or_false, Bool.or_true, Bool.false_or, Bool.true_or, Bool.not_true, Bool.not_false, w_skip, w_ret, w_exit, w_reg, w_dreg, w_seq, SK_n, SK_r, SK_x, w_keep, w_block, w_cond, w_nil, w_cons, w_consg, w_nnil, w_ncons, w_dnil, w_dcons, w_dconsg, HK_app, HD_app, HQ_n, HQ_r, HQ_x, HQ_bn, HQ_br, HQ_bx, HQ_en, HQ_er, HQ_ex, CondB_true, CondB_false, SO1, w_sdv, SDe_alloc, SDe_box, SDe_bslice, SDe_app, true_imp_iff, false_imp_iff, and_false, false_and, not_false_eq_true, not_true_eq_false, addN, mkNames, killT, killD, killO, List.foldl_nil, List.foldl_cons, List.append_nil, List.nil_append, List.cons_append, GuardS_true, GuardS_false, GuardD_true, GuardD_false, DK_true, DK_false, lt_self_add, le_self_add, decide_true, decide_false, Bool.false_eq_true, Bool.true_eq_false, Nat.add_left_cancel_iff, SE, SEalloc, SEbox, SEstore, w_bs, SEbl, SEfz, SEbs0, fzName, osOf, AV.fz1, w_app, w_mk, aev, opd, Fr.get, putO, Fr.norm, List.map_cons, List.map_nil, with1, with2, onInt, AV.lit, entry, ↓reduceIte, Nat.reduceEqDiff, Nat.reduceAdd, reduceCtorEq, true_and, and_true, Option.map_some, Option.map_none, Option.bind_some, Option.bind_none, cond_true, cond_false, binV, unV, fieldV, loadV, sto, cellsAV, newF, newL, Fr.map, Loc.kill, Loc.set, AO.kill, AV.kill, AV.mapN, AV.mapNL, List.filter_nil, List.filter_cons, allP, EndV, retV, resV, resL, frz, dropL, AV.pick, nilV, tupV, imp_self, ne_eq, Int.cast_ofNat_Int, Int.reduceLT, Int.reduceToNat, List.getD_cons_zero, List.getD_cons_succ, bsliceV, buildV, afill, repl, chunk, rvs, AV.rv, RV.nrm, List.getElem?_nil, List.append_assoc, Nat.reduceMul, Nat.reducePow, Nat.zero_lt_succ, Nat.zero_add, Nat.add_zero, List.length_cons, List.length_nil, Nat.reduceLeDiff, Nat.le_refl, List.take_succ_cons, List.take_zero, List.drop_succ_cons, List.drop_zero, indexV, lenV, rowOf_mapD, rowOf_mapI, rowOf_mapA, List.length_map, Int.toNat_natCast, List.getElem?_cons_zero, List.getElem?_cons_succ, and_self, implies_true, if_true, if_false, HQ_zn, HQ_zr, HQ_wn, HQ_wr, AV.nz, AV.nzL, RV.nrm, SEbin, SEnil, nilK, srcV, dstV, appName, List.length_append, Nat.mul_one, take_map_len, take_map_app, List.getElem?_cons_zero, List.map_append, SEmkmap, SEmset, mgetV, kvOf, getM, setM, c64, r64, v64_1, v64_2, u64_3, u64_4, v64_5, u64_6, u64_7, u64_8, u64_9, u64_10, u64_11, u64_12, u64_13, u64_14, u64_15, u64_16, ty23, ty28, ty30, ty25, ty3, ty55, ty24, ty29, ty5, GeoD.av, DevD.av, devA, devL, HQ_yn, HQ_yr, Loc.nz, AO.nz, bne_self_eq_false, nilD, WrD.row, VolD.row, bytes, putAll_len, putAll_take, putAll_nil, takeE]) | (with_reducible refine And.intro ?_ ?_) | (refine call_ro e27 ( spend_bad g d hb) rfl ?_ ?_ ?_ ?_) | (refine gcall_ro e27 ( spend_bad g d hb) rfl ?_ ?_ ?_ ?_) | (refine dcall_ro e27 ( spend_bad g d hb) rfl ?_ ?_ ?_ ?_) | (refine gdcall_ro rfl e27 ( spend_bad g d hb) rfl ?_ ?_ ?_ ?_) | (refine call_own [B + 90001, B + 90002, B + 90003] (devL (B + 90001) (B + 90002) (B + 90003) d.safe d.cache d.vols) e27 (spend_good g d hw h1 h2 _ _ (B + 90001) (B + 90002) (B + 90003) (Free3.new hcl (by simp [AO.kill, AV.kill, AV.mapN]))) rfl ?_ ?_ ?_ ?_ ?_) | (refine loop_nat (d.cache.length) (fun _ => True) (fun k => [(21, .os (B + 90002) d.cache.length), (22, I d.cache.length), (23, I k), (6, .lp (B + 6) 0), (4, .lp (B + 4) 0)]) (fun k => [(B + 4, .box [.d (.v (.slice none 0 0)), .d (.v (.slice none 0 0)), .d (.v (.slice none 0 0)), I 0]), (B + 6, .box [.os (B + 90001) d.safe.length, .os (B + 90002) d.cache.length, .os (B + 90003) d.vols.length, I (fuel1 d)]), (B + 90001, .arr 1 29 ((putAll d.safe (d.cache.take k)).map secRow)), (B + 90002, .arr 2 55 (d.cache.map WrD.row)), (B + 90003, .arr 3 59 (d.vols.map VolD.row))]) ?_ (Wk.keep hcl ?_ ?_ ?_) fun k hk hF => ?_; rotate_left 1; (focus (simp [Fr.get, newF, Fr.map, AV.kill, AV.mapN, GeoD.av, DevD.av, devA, devL, HQ_yn, HQ_yr, Loc.nz, AO.nz, bne_self_eq_false, nilD, WrD.row, VolD.row, bytes, putAll_len, putAll_take, putAll_nil, takeE] <;> fail)); (focus (simp [sto, newL, Loc.kill, Loc.set, AO.kill, AV.kill, AV.mapN, GeoD.av, DevD.av, devA, devL, HQ_yn, HQ_yr, Loc.nz, AO.nz, bne_self_eq_false, nilD, WrD.row, VolD.row, bytes, putAll_len, putAll_take, putAll_nil, takeE] <;> fail)); (focus (simp [newL, Loc.kill, Loc.set, GeoD.av, DevD.av, devA, devL, HQ_yn, HQ_yr, Loc.nz, AO.nz, bne_self_eq_false, nilD, WrD.row, VolD.row, bytes, putAll_len, putAll_take, putAll_nil, takeE] <;> fail)); (try have hw : IntKind.i64.wrap ((k : Int) + 1) = (k : Int) + 1 := IntWalk.i64_in _ (by omega))) | (refine EndX.plain ?_) | (refine nil_split (fun hn => ?_) (fun hn => ?_)) | (refine gcall_no not_false ?_) | (refine gdcall_no not_false ?_) | (refine GuardS_of _ _ _ _ _ _ (fun hg => ?_) (fun hg => ?_)) | (refine GuardD_of _ _ _ _ (fun hg => ?_) (fun hg => ?_)) | (refine CondB_of _ _ _ _ _ _ _ ?_ (fun hg => ?_) (fun hg => ?_)))
  all_goals (try (first | ((first | unfold noN | unfold Fr.below | unfold Loc.below); simp [Fr.allN, AV.allN, AV.allNL, AO.allN]; done) | rfl | trivial | assumption | (intro row hrow; simp only [List.mem_map] at hrow; obtain ⟨x, _, rfl⟩ := hrow; rfl) | (refine Wk.keep hcl ?_ ?_ ?_; (focus (simp [Fr.get, GeoD.av, DevD.av, devA, devL, HQ_yn, HQ_yr, Loc.nz, AO.nz, bne_self_eq_false, nilD, WrD.row, VolD.row, bytes, putAll_len, putAll_take, putAll_nil, takeE] <;> fail)); (focus (simp [sto, GeoD.av, DevD.av, devA, devL, HQ_yn, HQ_yr, Loc.nz, AO.nz, bne_self_eq_false, nilD, WrD.row, VolD.row, bytes, putAll_len, putAll_take, putAll_nil, takeE] <;> fail)); (focus (simp <;> fail))) | (simp [allP, opd, Fr.get, Fr.below, Fr.allN, AV.allN, AV.allNL, Loc.below, AO.allN, noN, killO, killT, killD, mkNames, AO.kill, AV.kill, AV.mapN, AV.mapNL]; done) | (with_reducible exact ltD (by assumption)) | omega | (simp only [decide_eq_true_eq, decide_eq_false_iff_not] at *; omega)))
  all_goals first
    | exact res_errS rfl hs hb
    | exact res_okS rfl hs rfl rfl rfl rfl
    | (have := (okd h1).wr k (dltL hg); omega)
    | ((try rw [hrow k hg]); rw [putAll_next (dltL hg)]
       refine Wk.keep hcl (by simp [Fr.get]) (by simp [sto, List.map_set, secRow, bytes]) (by simp))
theorem flushedOf_p (g : GeoD) (d : DevD) (hw : d.fit) : Pure Try.prog 66 [g.av, d.av] (.tup [(flushD g d).av, I (spendE g d)]) := by
  refine pureY_of follows Try.func66 c66_eq r66 (Nat.le_of_ble_eq_true rfl) fun B σ hcl hsz => ?_
  obtain ⟨z1, z2, z3⟩ := dev_sz (hsz d.av (by simp))
  clear hsz
  rcases spend3 g d with ⟨h1, h1', hs, hb⟩ | ⟨h1, h2, hs, hb⟩ | ⟨h1, h2, hs⟩
  all_goals (try (have hrow := putRow_of (g := g) (d := d) (by assumption)); try unfold putRow at hrow)
  repeat' (first | (simp -implicitDefEqProofs only [*, contN, contC, Nat.reduceBEq, Bool.or_false, Bool.or_true, Bool.false_or, Bool.true_or, Bool.not_true, Bool.not_false, w_skip, w_ret, w_exit, w_reg, w_dreg, w_seq, SK_n, SK_r, SK_x, w_keep, w_block, w_cond, w_nil, w_cons, w_consg, w_nnil, w_ncons, w_dnil, w_dcons, w_dconsg, HK_app, HD_app, HQ_n, HQ_r, HQ_x, HQ_bn, HQ_br, HQ_bx, HQ_en, HQ_er, HQ_ex, CondB_true, CondB_false, SO1, w_sdv, SDe_alloc, SDe_box, SDe_bslice, SDe_app, true_imp_iff, false_imp_iff, and_false, false_and, not_false_eq_true, not_true_eq_false, addN, mkNames, killT, killD, killO, List.foldl_nil, List.foldl_cons, List.append_nil, List.nil_append, List.cons_append, GuardS_true, GuardS_false, GuardD_true, GuardD_false, DK_true, DK_false, lt_self_add, le_self_add, decide_true, decide_false, Bool.false_eq_true, Bool.true_eq_false, Nat.add_left_cancel_iff, SE, SEalloc, SEbox, SEstore, w_bs, SEbl, SEfz, SEbs0, fzName, osOf, AV.fz1, w_app, w_mk, aev, opd, Fr.get, putO, Fr.norm, List.map_cons, List.map_nil, with1, with2, onInt, AV.lit, entry, ↓reduceIte, Nat.reduceEqDiff, Nat.reduceAdd, reduceCtorEq, true_and, and_true, Option.map_some, Option.map_none, Option.bind_some, Option.bind_none, cond_true, cond_false, binV, unV, fieldV, loadV, sto, cellsAV, newF, newL, Fr.map, Loc.kill, Loc.set, AO.kill, AV.kill, AV.mapN, AV.mapNL, List.filter_nil, List.filter_cons, allP, EndV, retV, resV, resL, frz, dropL, AV.pick, nilV, tupV, imp_self, ne_eq, Int.cast_ofNat_Int, Int.reduceLT, Int.reduceToNat, List.getD_cons_zero, List.getD_cons_succ, bsliceV, buildV, afill, repl, chunk, rvs, AV.rv, RV.nrm, List.getElem?_nil, List.append_assoc, Nat.reduceMul, Nat.reducePow, Nat.zero_lt_succ, Nat.zero_add, Nat.add_zero, List.length_cons, List.length_nil, Nat.reduceLeDiff, Nat.le_refl, List.take_succ_cons, List.take_zero, List.drop_succ_cons, List.drop_zero, indexV, lenV, rowOf_mapD, rowOf_mapI, rowOf_mapA, List.length_map, Int.toNat_natCast, List.getElem?_cons_zero, List.getElem?_cons_succ, and_self, implies_true, if_true, if_false, HQ_zn, HQ_zr, HQ_wn, HQ_wr, AV.nz, AV.nzL, RV.nrm, SEbin, SEnil, nilK, srcV, dstV, appName, List.length_append, Nat.mul_one, take_map_len, take_map_app, List.getElem?_cons_zero, List.map_append, SEmkmap, SEmset, mgetV, kvOf, getM, setM, c66, r66, u66_1, u66_2, v66_3, u66_4, u66_5, u66_6, v66_7, v66_8, v66_9, v66_10, m66_10, u66_11, u66_12, u66_13, u66_14, u66_15, u66_16, u66_17, u66_18, u66_19, u66_20, u66_21, ty23, ty28, ty30, ty25, ty3, ty24, ty55, ty29, ty5, GeoD.av, DevD.av, devA, devL, HQ_yn, HQ_yr, Loc.nz, AO.nz, bne_self_eq_false, nilD, WrD.row, VolD.row, bytes, putAll_len, putAll_take, putAll_nil, takeE]) | (with_reducible refine And.intro ?_ ?_) | (refine call_ro e23 ( devFault_p g d) rfl ?_ ?_ ?_ ?_) | (refine gcall_ro e23 ( devFault_p g d) rfl ?_ ?_ ?_ ?_) | (refine dcall_ro e23 ( devFault_p g d) rfl ?_ ?_ ?_ ?_) | (refine gdcall_ro rfl e23 ( devFault_p g d) rfl ?_ ?_ ?_ ?_) | (refine call_ro e29 ( spent_bad d h2) rfl ?_ ?_ ?_ ?_) | (refine gcall_ro e29 ( spent_bad d h2) rfl ?_ ?_ ?_ ?_) | (refine dcall_ro e29 ( spent_bad d h2) rfl ?_ ?_ ?_ ?_) | (refine gdcall_ro rfl e29 ( spent_bad d h2) rfl ?_ ?_ ?_ ?_) | (refine call_own [B + 90001, B + 90002, B + 90003] (devL (B + 90001) (B + 90002) (B + 90003) d.safe d.cache d.vols) e29 (spent_good d hw h2 _ _ (B + 90001) (B + 90002) (B + 90003) (Free3.new hcl (by simp [AO.kill, AV.kill, AV.mapN]))) rfl ?_ ?_ ?_ ?_ ?_) | (refine loop_nat (d.cache.length) (fun _ => True) (fun k => [(8, I k), (7, .lp (B + 7) 0), (4, .lp (B + 4) 0)]) (fun k => [(B + 4, .box [.d (.v (.slice none 0 0)), .d (.v (.slice none 0 0)), .d (.v (.slice none 0 0)), I 0]), (B + 7, .box [.os (B + 90001) d.safe.length, .os (B + 90002) d.cache.length, .os (B + 90003) d.vols.length, I (fuel1 d)]), (B + 90001, .arr 1 29 ((putAll d.safe (d.cache.take k)).map secRow)), (B + 90002, .arr 2 55 (d.cache.map WrD.row)), (B + 90003, .arr 3 59 (d.vols.map VolD.row))]) ?_ (Wk.keep hcl ?_ ?_ ?_) fun k hk hF => ?_; rotate_left 1; (focus (simp [Fr.get, newF, Fr.map, AV.kill, AV.mapN, GeoD.av, DevD.av, devA, devL, HQ_yn, HQ_yr, Loc.nz, AO.nz, bne_self_eq_false, nilD, WrD.row, VolD.row, bytes, putAll_len, putAll_take, putAll_nil, takeE] <;> fail)); (focus (simp [sto, newL, Loc.kill, Loc.set, AO.kill, AV.kill, AV.mapN, GeoD.av, DevD.av, devA, devL, HQ_yn, HQ_yr, Loc.nz, AO.nz, bne_self_eq_false, nilD, WrD.row, VolD.row, bytes, putAll_len, putAll_take, putAll_nil, takeE] <;> fail)); (focus (simp [newL, Loc.kill, Loc.set, GeoD.av, DevD.av, devA, devL, HQ_yn, HQ_yr, Loc.nz, AO.nz, bne_self_eq_false, nilD, WrD.row, VolD.row, bytes, putAll_len, putAll_take, putAll_nil, takeE] <;> fail)); (try have hw : IntKind.i64.wrap ((k : Int) + 1) = (k : Int) + 1 := IntWalk.i64_in _ (by omega))) | (refine EndX.plain ?_) | (refine nil_split (fun hn => ?_) (fun hn => ?_)) | (refine gcall_no not_false ?_) | (refine gdcall_no not_false ?_) | (refine GuardS_of _ _ _ _ _ _ (fun hg => ?_) (fun hg => ?_)) | (refine GuardD_of _ _ _ _ (fun hg => ?_) (fun hg => ?_)) | (refine CondB_of _ _ _ _ _ _ _ ?_ (fun hg => ?_) (fun hg => ?_)))
  all_goals (try (first | ((first | unfold noN | unfold Fr.below | unfold Loc.below); simp [Fr.allN, AV.allN, AV.allNL, AO.allN]; done) | rfl | trivial | assumption | (intro row hrow; simp only [List.mem_map] at hrow; obtain ⟨x, _, rfl⟩ := hrow; rfl) | (refine Wk.keep hcl ?_ ?_ ?_; (focus (simp [Fr.get, GeoD.av, DevD.av, devA, devL, HQ_yn, HQ_yr, Loc.nz, AO.nz, bne_self_eq_false, nilD, WrD.row, VolD.row, bytes, putAll_len, putAll_take, putAll_nil, takeE] <;> fail)); (focus (simp [sto, GeoD.av, DevD.av, devA, devL, HQ_yn, HQ_yr, Loc.nz, AO.nz, bne_self_eq_false, nilD, WrD.row, VolD.row, bytes, putAll_len, putAll_take, putAll_nil, takeE] <;> fail)); (focus (simp <;> fail))) | (simp [allP, opd, Fr.get, Fr.below, Fr.allN, AV.allN, AV.allNL, Loc.below, AO.allN, noN, killO, killT, killD, mkNames, AO.kill, AV.kill, AV.mapN, AV.mapNL]; done) | (with_reducible exact ltD (by assumption)) | omega | (simp only [decide_eq_true_eq, decide_eq_false_iff_not] at *; omega)))
  all_goals first
    | exact res_errS rfl hs hb
    | exact res_okS rfl hs rfl rfl rfl rfl
    | (have := (okd h1).wr k (dltL hg); omega)
    | ((try rw [hrow k hg]); rw [putAll_next (dltL hg)]
       refine Wk.keep hcl (by simp [Fr.get]) (by simp [sto, List.map_set, secRow, bytes]) (by simp))
end Go.Proofs.Ytalhjhmphdgaoaa
