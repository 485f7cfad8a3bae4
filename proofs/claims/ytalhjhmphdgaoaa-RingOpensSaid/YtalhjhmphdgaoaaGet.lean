/- dev.Get's contract for the engine, and the reference's. -/
import Derived.Test.YtalhjhmphdgaoaaRgC
import Derived.Test.YtalhjhmphdgaoaaBytes
import Derived.Test.YtalhjhmphdgaoaaTypes
namespace Go.Proofs.Ytalhjhmphdgaoaa
open Go.RowKit
set_option maxRecDepth 100000
def o8_1 : List SO := ((SO.mk (some 22) (.call 24 [(.tmp 17), (.const (Value.int .i64 0)), (.tmp 21)]) (some (16 , true))) :: (SO.mk (some 23) (.un .not (.tmp 22)) (some (16 , true))) :: (SO.mk (some 24) (.pick (.tmp 16) (.tmp 23) (.const (Value.bool false))) none) :: [])
theorem v8_1 : type_of% (@swl _ _ o8_1.eq_1) := @swl _ _ o8_1.eq_1
def o8_2 : List SO := ((SO.mk (some 18) (.faddr 28 (.tmp 4) 0) (some (16 , true))) :: (SO.mk (some 19) (.load 24 (.tmp 18)) (some (16 , true))) :: (SO.mk (some 20) (.len 24 (.tmp 19)) (some (16 , true))) :: (SO.mk (some 21) (.bin .sub 3 (.tmp 20) (.const (Value.int .i64 1))) (some (16 , true))) :: o8_1)
theorem v8_2 : type_of% (@swl _ _ o8_2.eq_1) := @swl _ _ o8_2.eq_1
def c8_3 : SC := (.cond (.tmp 24) (.reg [SO.mk (some 8) (.move (.const (Value.int .i64 2))) none]) .skip)
theorem u8_3 : type_of% (@swc _ _ c8_3.eq_1) := @swc _ _ c8_3.eq_1
def c8_4 : SC := (.seq (.reg [SO.mk (some 27) (.move (.tmp 8)) none, SO.mk (some 6) (.move (.const (Value.slice none 0 0))) none, SO.mk (some 7) (.move (.tmp 27)) none]) (.keep [6, 7] .ret))
theorem u8_4 : type_of% (@swc _ _ c8_4.eq_1) := @swc _ _ c8_4.eq_1
def c8_5 : SC := (.cond (.tmp 26) c8_4 .skip)
theorem u8_5 : type_of% (@swc _ _ c8_5.eq_1) := @swc _ _ c8_5.eq_1
def o8_6 : List SO := ((SO.mk (some 32) (.load 29 (.tmp 31)) none) :: (SO.mk (some 9) (.move (.tmp 32)) none) :: [])
theorem v8_6 : type_of% (@swl _ _ o8_6.eq_1) := @swl _ _ o8_6.eq_1
def c8_7 : SC := (.cond (.tmp 37) .skip (.exit 0))
theorem u8_7 : type_of% (@swc _ _ c8_7.eq_1) := @swc _ _ c8_7.eq_1
def o8_8 : List SO := ((SO.mk (some 44) (.faddr 55 (.tmp 43) 0) none) :: (SO.mk (some 45) (.load 3 (.tmp 44)) none) :: (SO.mk (some 46) (.move (.tmp 2)) none) :: (SO.mk (some 47) (.bin .eql 3 (.tmp 45) (.tmp 46)) none) :: [])
theorem v8_8 : type_of% (@swl _ _ o8_8.eq_1) := @swl _ _ o8_8.eq_1
def o8_9 : List SO := ((SO.mk (some 52) (.faddr 55 (.tmp 51) 1) none) :: (SO.mk (some 53) (.load 29 (.tmp 52)) none) :: (SO.mk (some 9) (.move (.tmp 53)) none) :: [])
theorem v8_9 : type_of% (@swl _ _ o8_9.eq_1) := @swl _ _ o8_9.eq_1
def c8_10 : SC := (.reg ((SO.mk (some 48) (.faddr 28 (.tmp 4) 1) none) :: (SO.mk (some 49) (.load 25 (.tmp 48)) none) :: (SO.mk (some 50) (.move (.tmp 10)) none) :: (SO.mk (some 51) (.iaddr 25 (.tmp 49) (.tmp 50)) none) :: o8_9))
theorem u8_10 : type_of% (@swc _ _ c8_10.eq_1) := @swc _ _ c8_10.eq_1
def c8_11 : SC := (.cond (.tmp 47) c8_10 .skip)
theorem u8_11 : type_of% (@swc _ _ c8_11.eq_1) := @swc _ _ c8_11.eq_1
def c8_12 : SC := (.reg [SO.mk (some 38) (.move (.tmp 10)) none, SO.mk (some 39) (.bin .add 3 (.tmp 38) (.const (Value.int .i64 1))) none, SO.mk (some 10) (.move (.tmp 39)) none])
theorem u8_12 : type_of% (@swc _ _ c8_12.eq_1) := @swc _ _ c8_12.eq_1
def c8_13 : SC := (.seq (.block 1 (.seq (.reg ((SO.mk (some 40) (.faddr 28 (.tmp 4) 1) none) :: (SO.mk (some 41) (.load 25 (.tmp 40)) none) :: (SO.mk (some 42) (.move (.tmp 10)) none) :: (SO.mk (some 43) (.iaddr 25 (.tmp 41) (.tmp 42)) none) :: o8_8)) (.keep [47, 10, 4, 2, 9] c8_11))) (.keep [10, 4, 2, 9] c8_12))
theorem u8_13 : type_of% (@swc _ _ c8_13.eq_1) := @swc _ _ c8_13.eq_1
def c8_14 : SC := (.seq (.seq (.reg [SO.mk (some 33) (.move (.tmp 10)) none, SO.mk (some 34) (.faddr 28 (.tmp 4) 1) none, SO.mk (some 35) (.load 25 (.tmp 34)) none, SO.mk (some 36) (.len 25 (.tmp 35)) none, SO.mk (some 37) (.bin .lss 3 (.tmp 33) (.tmp 36)) none]) (.keep [37, 2, 4, 10, 9] c8_7)) (.keep [10, 4, 2, 9] c8_13))
theorem u8_14 : type_of% (@swc _ _ c8_14.eq_1) := @swc _ _ c8_14.eq_1
def c8_15 : SC := (.block 0 (.loop (.keep [2, 4, 10, 9] c8_14)))
theorem u8_15 : type_of% (@swc _ _ c8_15.eq_1) := @swc _ _ c8_15.eq_1
def c8_16 : SC := (.seq (.reg [SO.mk (some 54) (.move (.tmp 9)) none, SO.mk (some 55) (.bslice 24 1 [(0 , (.tmp 54))]) none, SO.mk (some 56) (.call 25 [(.tmp 55)]) none, SO.mk (some 6) (.move (.tmp 56)) none, SO.mk (some 7) (.move (.const (Value.int .i64 0))) none]) (.keep [6, 7] .ret))
theorem u8_16 : type_of% (@swc _ _ c8_16.eq_1) := @swc _ _ c8_16.eq_1
def c8_17 : SC := (.seq (.seq (.reg [SO.mk (some 10) (.move (.const (Value.int .i64 0))) none]) (.keep [2, 4, 10, 9] c8_15)) (.keep [9] c8_16))
theorem u8_17 : type_of% (@swc _ _ c8_17.eq_1) := @swc _ _ c8_17.eq_1
def c8_18 : SC := (.seq (.reg ((SO.mk (some 28) (.faddr 28 (.tmp 4) 0) none) :: (SO.mk (some 29) (.load 24 (.tmp 28)) none) :: (SO.mk (some 30) (.move (.tmp 2)) none) :: (SO.mk (some 31) (.iaddr 24 (.tmp 29) (.tmp 30)) none) :: o8_6)) (.keep [2, 4, 9] c8_17))
theorem u8_18 : type_of% (@swc _ _ c8_18.eq_1) := @swc _ _ c8_18.eq_1
def c8_19 : SC := (.seq (.seq (.reg [SO.mk (some 25) (.move (.tmp 8)) none, SO.mk (some 26) (.bin .neq 30 (.tmp 25) (.const (Value.int .i64 0))) none]) (.keep [26, 8, 2, 4] c8_5)) (.keep [2, 4] c8_18))
theorem u8_19 : type_of% (@swc _ _ c8_19.eq_1) := @swc _ _ c8_19.eq_1
def c8_20 : SC := (.seq (.seq (.reg ((SO.mk (some 14) (.move (.tmp 8)) none) :: (SO.mk (some 15) (.bin .eql 30 (.tmp 14) (.const (Value.int .i64 0))) none) :: (SO.mk (some 16) (.move (.tmp 15)) none) :: (SO.mk (some 17) (.move (.tmp 2)) (some (16 , true))) :: o8_2)) (.keep [24, 8, 2, 4] c8_3)) (.keep [8, 2, 4] c8_19))
theorem u8_20 : type_of% (@swc _ _ c8_20.eq_1) := @swc _ _ c8_20.eq_1
def c8_21 : SC := (.seq (.reg [SO.mk (some 11) (.load 23 (.tmp 3)) none, SO.mk (some 12) (.load 28 (.tmp 4)) none, SO.mk (some 13) (.call 23 [(.tmp 11), (.tmp 12)]) none, SO.mk (some 8) (.move (.tmp 13)) none]) (.keep [8, 2, 4] c8_20))
theorem u8_21 : type_of% (@swc _ _ c8_21.eq_1) := @swc _ _ c8_21.eq_1
def c8 : SC := (.seq (.reg [SO.mk (some 3) (.box 23 (.tmp 0)) none, SO.mk (some 4) (.box 28 (.tmp 1)) none, SO.mk (some 6) (.move (.const (Value.slice none 0 0))) none, SO.mk (some 7) (.move (.const (Value.int .i64 0))) none]) (.keep [3, 2, 4] c8_21))
theorem c8_eq : annC Try.f8 = some c8 := by kernel_rfl
theorem r8 : Try.f8.results.toList = [.tmp 6, .tmp 7] := by kernel_rfl
theorem e8 : enters Try.prog 8 = true := by kernel_rfl
end Go.Proofs.Ytalhjhmphdgaoaa
namespace Go.Proofs.Ytalhjhmphdgaoaa
open Go.RowKit
set_option maxHeartbeats 4000000
set_option maxRecDepth 20000
attribute [local irreducible] SW SWL SWLn SWD SEcall SEcallv SDv SE SO1 SOg ACalls ACallv Wk EndV
set_option linter.unusedSimpArgs false
set_option linter.unusedVariables false
def getE (g : GeoD) (d : DevD) (pos : Int) : Int := bif devF g d != 0 then devF g d else bif decide (pos < 0) || decide (pos ≥ (d.safe.length : Int)) then 2 else 0
def getR (g : GeoD) (d : DevD) (pos : Int) : List UInt8 := bif getE g d pos == 0 then getB d pos else []
theorem getV_eq (g : GeoD) (d : DevD) (pos : Int) : getV g d pos = .tup [.d (bytes (getR g d pos)), I (getE g d pos)] := by
  unfold getR getV getE
  by_cases h : devF g d = 0
  · cases h2 : (decide (pos < 0) || decide (pos ≥ (d.safe.length : Int))) <;> simp [h, bytes] <;> rfl
  · have h1 : (devF g d != 0) = true := by simpa using h
    have h3 : (devF g d == 0) = false := by simpa using h
    simp only [h1, cond_true, h3, cond_false]
    rfl
theorem e7 : enters Try.prog 7 = true := by kernel_rfl
theorem get_p (g : GeoD) (d : DevD) (pos : Int) : Pure Try.prog 7 [g.av, d.av, I pos] (.tup [.d (bytes (getR g d pos)), I (getE g d pos)]) := by
  rw [← getV_eq]
  refine (get_g g d pos).p ?_ ?_
  · rw [getV_eq]; rfl
  · intro c hc
    simp only [List.mem_cons, List.not_mem_nil, or_false] at hc
    rcases hc with rfl | rfl | rfl <;> rfl
def curB (d : DevD) (pos : Int) (k : Nat) : List UInt8 := (lastK d.cache pos k).getD d.safe[pos.toNat]!
theorem curB_zero (d : DevD) (pos : Int) : curB d pos 0 = d.safe[pos.toNat]! := rfl
theorem curB_hit {d : DevD} {pos : Int} {k : Nat} (h : (d.cache[k]!.pos == pos) = true) : d.cache[k]!.data = curB d pos (k + 1) := by
  simp only [curB, lastK, h, cond_true, cond_false, Option.getD_some]
theorem curB_miss {d : DevD} {pos : Int} {k : Nat} (h : (d.cache[k]!.pos == pos) = false) : curB d pos k = curB d pos (k + 1) := by
  simp only [curB, lastK, h, cond_true, cond_false, Option.getD_some]
theorem safe_sz {d : DevD} (h : d.av.sz) {i : Nat} (hi : i < d.safe.length) : (d.safe[i]!).length ≤ 2 ^ 47 := by
  simp only [DevD.av, AV.sz] at h
  have h3 := h (.d (.ro (d.safe.map secRow))) (by simp)
  have := (Sized.cell h3 (r := secRow d.safe[i]!) (List.mem_map.2 ⟨d.safe[i]!, by simp [hi], rfl⟩) (c := bytes (d.safe[i]!)) (by simp [secRow])).len
  simpa using this
theorem cache_sz {d : DevD} (h : d.av.sz) {i : Nat} (hi : i < d.cache.length) : (d.cache[i]!).data.length ≤ 2 ^ 47 := by
  simp only [DevD.av, AV.sz] at h
  have h3 := h (.d (.ro (d.cache.map WrD.row))) (by simp)
  have := (Sized.cell h3 (r := WrD.row d.cache[i]!) (List.mem_map.2 ⟨d.cache[i]!, by simp [hi], rfl⟩) (c := bytes (d.cache[i]!).data) (by simp [WrD.row])).len
  simpa using this
theorem curB_sz {d : DevD} (h : d.av.sz) {pos : Int} (h0 : 0 ≤ pos) (h1 : pos < (d.safe.length : Int)) : ∀ {k : Nat}, k ≤ d.cache.length → (curB d pos k).length ≤ 2 ^ 47
  | 0, _ => safe_sz h (by omega)
  | k + 1, hk => by
    cases hm : (d.cache[k]!.pos == pos)
    · rw [← curB_miss hm]; exact curB_sz h h0 h1 (by omega)
    · rw [← curB_hit hm]; exact cache_sz h (by omega)
theorem get_err {g : GeoD} {d : DevD} {pos e : Int} (h : getE g d pos = e) (he : (e == 0) = false) : AV.tup [.d (.ro []), I e] = AV.tup [.d (.ro ((getR g d pos).map by_)), I (getE g d pos)] := by
  subst h; simp only [getR, he, cond_false, List.map_nil]
theorem get_ok {g : GeoD} {d : DevD} {pos : Int} (h : getE g d pos = 0) {l : List UInt8} (hl : l = getB d pos) : AV.tup [.d (.ro (l.map by_)), I 0] = AV.tup [.d (.ro ((getR g d pos).map by_)), I (getE g d pos)] := by
  subst hl; simp only [getR, h]; rfl
theorem joinedC (l : List UInt8) (h : l.length ≤ 2 ^ 47) : Pure Try.prog 25 [.d (.ro [[.ro (l.map by_)]])] (.d (.ro (l.map by_))) := by
  have := joined_p [l] (by simpa using h)
  simpa [secRow, bytes] using this
theorem getOf_p (g : GeoD) (d : DevD) (pos : Int) : Pure Try.prog 8 [g.av, d.av, I pos] (.tup [.d (bytes (getR g d pos)), I (getE g d pos)]) := by
  refine pureZ_of follows Try.func8 c8_eq r8 (Nat.le_of_ble_eq_true rfl) fun B σ hcl hsz => ?_
  obtain ⟨z1, z2, z3⟩ := dev_sz (hsz d.av (by simp))
  have hsz' := hsz d.av (by simp)
  clear hsz
  have hw1 : IntKind.i64.wrap ((d.safe.length : Int) - 1) = (d.safe.length : Int) - 1 := IntWalk.i64_in _ (by omega)
  rcases devE_or g d with he | ⟨he, he'⟩
  all_goals by_cases hp : (0 ≤ pos ∧ pos < (d.safe.length : Int))
  all_goals (
    first
    | (have hr : inR pos 0 ((d.safe.length : Int) - 1) = true := by simp only [inR]; grind)
    | (have hr : inR pos 0 ((d.safe.length : Int) - 1) = false := by simp only [inR]; grind))
  repeat' (first | (simp -implicitDefEqProofs only [*, contN, contC, Nat.reduceBEq, Bool.or_false, Bool.or_true, Bool.false_or, Bool.true_or, Bool.not_true, Bool.not_false, w_skip, w_ret, w_exit, w_reg, w_dreg, w_seq, SK_n, SK_r, SK_x, w_keep, w_block, w_cond, w_nil, w_cons, w_consg, w_nnil, w_ncons, w_dnil, w_dcons, w_dconsg, HK_app, HD_app, HQ_n, HQ_r, HQ_x, HQ_bn, HQ_br, HQ_bx, HQ_en, HQ_er, HQ_ex, CondB_true, CondB_false, SO1, w_sdv, SDe_alloc, SDe_box, SDe_bslice, SDe_app, true_imp_iff, false_imp_iff, and_false, false_and, not_false_eq_true, not_true_eq_false, addN, mkNames, killT, killD, killO, List.foldl_nil, List.foldl_cons, List.append_nil, List.nil_append, List.cons_append, GuardS_true, GuardS_false, GuardD_true, GuardD_false, DK_true, DK_false, lt_self_add, le_self_add, decide_true, decide_false, Bool.false_eq_true, Bool.true_eq_false, Nat.add_left_cancel_iff, SE, SEalloc, SEbox, SEstore, w_bs, SEbl, SEfz, SEbs0, fzName, osOf, AV.fz1, w_app, w_mk, aev, opd, Fr.get, putO, Fr.norm, List.map_cons, List.map_nil, with1, with2, onInt, AV.lit, entry, ↓reduceIte, Nat.reduceEqDiff, Nat.reduceAdd, reduceCtorEq, true_and, and_true, Option.map_some, Option.map_none, Option.bind_some, Option.bind_none, cond_true, cond_false, binV, unV, fieldV, loadV, sto, cellsAV, newF, newL, Fr.map, Loc.kill, Loc.set, AO.kill, AV.kill, AV.mapN, AV.mapNL, List.filter_nil, List.filter_cons, allP, EndV, retV, resV, resL, frz, dropL, AV.pick, nilV, tupV, imp_self, ne_eq, Int.cast_ofNat_Int, Int.reduceLT, Int.reduceToNat, List.getD_cons_zero, List.getD_cons_succ, bsliceV, buildV, afill, repl, chunk, rvs, AV.rv, RV.nrm, List.getElem?_nil, List.append_assoc, Nat.reduceMul, Nat.reducePow, Nat.zero_lt_succ, Nat.zero_add, Nat.add_zero, List.length_cons, List.length_nil, Nat.reduceLeDiff, Nat.le_refl, List.take_succ_cons, List.take_zero, List.drop_succ_cons, List.drop_zero, indexV, lenV, rowOf_mapD, rowOf_mapI, rowOf_mapA, List.length_map, Int.toNat_natCast, List.getElem?_cons_zero, List.getElem?_cons_succ, and_self, implies_true, if_true, if_false, HQ_zn, HQ_zr, HQ_wn, HQ_wr, AV.nz, AV.nzL, RV.nrm, SEbin, SEnil, nilK, srcV, dstV, appName, List.length_append, Nat.mul_one, take_map_len, take_map_app, List.getElem?_cons_zero, List.map_append, SEmkmap, SEmset, mgetV, kvOf, getM, setM, c8, r8, v8_1, v8_2, u8_3, u8_4, u8_5, v8_6, u8_7, v8_8, v8_9, u8_10, u8_11, u8_12, u8_13, u8_14, u8_15, u8_16, u8_17, u8_18, u8_19, u8_20, u8_21, ty23, ty28, ty30, ty24, ty3, ty29, ty25, ty55, ty5, GeoD.av, DevD.av, GeoD.cells, DevD.cells, noN, secRow, bytes, WrD.row, curB_zero]) | (with_reducible refine And.intro ?_ ?_) | (refine call_ro e23 ( devFault_p g d) rfl ?_ ?_ ?_ ?_) | (refine gcall_ro e23 ( devFault_p g d) rfl ?_ ?_ ?_ ?_) | (refine dcall_ro e23 ( devFault_p g d) rfl ?_ ?_ ?_ ?_) | (refine gdcall_ro rfl e23 ( devFault_p g d) rfl ?_ ?_ ?_ ?_) | (refine call_ro e24 ( In_p _ _ _) rfl ?_ ?_ ?_ ?_) | (refine gcall_ro e24 ( In_p _ _ _) rfl ?_ ?_ ?_ ?_) | (refine dcall_ro e24 ( In_p _ _ _) rfl ?_ ?_ ?_ ?_) | (refine gdcall_ro rfl e24 ( In_p _ _ _) rfl ?_ ?_ ?_ ?_) | (refine call_ro e25 ( joinedC (curB d pos k) (curB_sz hsz' hp.1 hp.2 hk)) rfl ?_ ?_ ?_ ?_) | (refine gcall_ro e25 ( joinedC (curB d pos k) (curB_sz hsz' hp.1 hp.2 hk)) rfl ?_ ?_ ?_ ?_) | (refine dcall_ro e25 ( joinedC (curB d pos k) (curB_sz hsz' hp.1 hp.2 hk)) rfl ?_ ?_ ?_ ?_) | (refine gdcall_ro rfl e25 ( joinedC (curB d pos k) (curB_sz hsz' hp.1 hp.2 hk)) rfl ?_ ?_ ?_ ?_) | (refine loop_nat (d.cache.length) (fun _ => True) (fun k => [(2, I pos), (4, .lp (B + 4) 0), (9, .d (bytes (curB d pos k))), (10, I k)]) (fun k => [(B + 3, .box g.cells), (B + 4, .box d.cells)]) ?_ (Wk.keep hcl ?_ ?_ ?_) fun k hk hF => ?_; rotate_left 1; (focus (simp [Fr.get, newF, Fr.map, AV.kill, AV.mapN, GeoD.av, DevD.av, GeoD.cells, DevD.cells, noN, secRow, bytes, WrD.row, curB_zero] <;> fail)); (focus (simp [sto, newL, Loc.kill, Loc.set, AO.kill, AV.kill, AV.mapN, GeoD.av, DevD.av, GeoD.cells, DevD.cells, noN, secRow, bytes, WrD.row, curB_zero] <;> fail)); (focus (simp [newL, Loc.kill, Loc.set, GeoD.av, DevD.av, GeoD.cells, DevD.cells, noN, secRow, bytes, WrD.row, curB_zero] <;> fail)); (try have hw : IntKind.i64.wrap ((k : Int) + 1) = (k : Int) + 1 := IntWalk.i64_in _ (by omega))) | (refine EndX.plain ?_) | (refine nil_split (fun hn => ?_) (fun hn => ?_)) | (refine gcall_no not_false ?_) | (refine gdcall_no not_false ?_) | (refine GuardS_of _ _ _ _ _ _ (fun hg => ?_) (fun hg => ?_)) | (refine GuardD_of _ _ _ _ (fun hg => ?_) (fun hg => ?_)) | (refine CondB_of _ _ _ _ _ _ _ ?_ (fun hg => ?_) (fun hg => ?_)))
  all_goals (try (first | ((first | unfold noN | unfold Fr.below | unfold Loc.below); simp [Fr.allN, AV.allN, AV.allNL, AO.allN]; done) | rfl | trivial | assumption | (intro row hrow; simp only [List.mem_map] at hrow; obtain ⟨x, _, rfl⟩ := hrow; rfl) | (refine Wk.keep hcl ?_ ?_ ?_; (focus (simp [Fr.get, GeoD.av, DevD.av, GeoD.cells, DevD.cells, noN, secRow, bytes, WrD.row, curB_zero] <;> fail)); (focus (simp [sto, GeoD.av, DevD.av, GeoD.cells, DevD.cells, noN, secRow, bytes, WrD.row, curB_zero] <;> fail)); (focus (simp <;> fail))) | (simp [allP, opd, Fr.get, Fr.below, Fr.allN, AV.allN, AV.allNL, Loc.below, AO.allN, noN, killO, killT, killD, mkNames, AO.kill, AV.kill, AV.mapN, AV.mapNL]; done) | (with_reducible exact ltD (by assumption)) | omega | (simp only [decide_eq_true_eq, decide_eq_false_iff_not] at *; omega)))
  all_goals (try (first | (rw [curB_hit hg]; refine Wk.keep hcl ?_ ?_ ?_ <;> simp [Fr.get, sto]; done) | (rw [curB_miss hg]; refine Wk.keep hcl ?_ ?_ ?_ <;> simp [Fr.get, sto]; done)))
  all_goals (try (first | (refine get_ok (l := curB d pos k) ?_ ?_) | (refine get_err ?_ ?_)))
  all_goals (try (first | rfl | assumption | (have e : k = d.cache.length := Nat.le_antisymm hk (geD hg); subst e; rfl) | (simp only [getE]; grind)))
end Go.Proofs.Ytalhjhmphdgaoaa
