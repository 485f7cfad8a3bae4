/- The document's answer on which version is the latest. -/
import Derived.Test.YtobbkfldjemgkaaStD
import Derived.Test.YtobbkfldjemgkaaMay
import Derived.Test.YtobbkfldjemgkaaNz
import Derived.Test.YtobbkfldjemgkaaMayP
import Derived.Test.YtobbkfldjemgkaaTypes
namespace Go.Proofs.Ytobbkfldjemgkaa
open Go.RowKit
set_option maxRecDepth 100000
def c21_1 : SC := (.cond (.tmp 8) .skip (.exit 0))
theorem u21_1 : type_of% (@swc _ _ c21_1.eq_1) := @swc _ _ c21_1.eq_1
def o21_2 : List SO := ((SO.mk (some 15) (.load 3 (.tmp 14)) none) :: (SO.mk (some 16) (.bslice 28 1 [(0 , (.tmp 15))]) none) :: (SO.mk (some 17) (.app 28 28 (.tmp 11) (.tmp 16)) none) :: (SO.mk (some 3) (.move (.tmp 17)) none) :: [])
theorem v21_2 : type_of% (@swl _ _ o21_2.eq_1) := @swl _ _ o21_2.eq_1
def c21_3 : SC := (.reg [SO.mk (some 9) (.move (.tmp 4)) none, SO.mk (some 10) (.bin .add 3 (.tmp 9) (.const (Value.int .i64 1))) none, SO.mk (some 4) (.move (.tmp 10)) none])
theorem u21_3 : type_of% (@swc _ _ c21_3.eq_1) := @swc _ _ c21_3.eq_1
def c21_4 : SC := (.seq (.block 1 (.reg ((SO.mk (some 11) (.move (.tmp 3)) none) :: (SO.mk (some 12) (.move (.tmp 0)) none) :: (SO.mk (some 13) (.move (.tmp 4)) none) :: (SO.mk (some 14) (.iaddr 28 (.tmp 12) (.tmp 13)) none) :: o21_2))) (.keep [4, 0, 3] c21_3))
theorem u21_4 : type_of% (@swc _ _ c21_4.eq_1) := @swc _ _ c21_4.eq_1
def c21_5 : SC := (.seq (.seq (.reg [SO.mk (some 5) (.move (.tmp 4)) none, SO.mk (some 6) (.move (.tmp 0)) none, SO.mk (some 7) (.len 28 (.tmp 6)) none, SO.mk (some 8) (.bin .lss 3 (.tmp 5) (.tmp 7)) none]) (.keep [8, 0, 4, 3] c21_1)) (.keep [3, 4, 0] c21_4))
theorem u21_5 : type_of% (@swc _ _ c21_5.eq_1) := @swc _ _ c21_5.eq_1
def c21_6 : SC := (.block 0 (.loop (.keep [0, 4, 3] c21_5)))
theorem u21_6 : type_of% (@swc _ _ c21_6.eq_1) := @swc _ _ c21_6.eq_1
def c21_7 : SC := (.seq (.reg [SO.mk (some 18) (.move (.tmp 3)) none, SO.mk (some 2) (.move (.tmp 18)) none]) (.keep [2] .ret))
theorem u21_7 : type_of% (@swc _ _ c21_7.eq_1) := @swc _ _ c21_7.eq_1
def c21_8 : SC := (.seq (.seq (.reg [SO.mk (some 4) (.move (.const (Value.int .i64 0))) none]) (.keep [0, 4, 3] c21_6)) (.keep [3] c21_7))
theorem u21_8 : type_of% (@swc _ _ c21_8.eq_1) := @swc _ _ c21_8.eq_1
def c21_9 : SC := (.seq (.reg [SO.mk (some 3) (.move (.const (Value.slice none 0 0))) none]) (.keep [0, 3] c21_8))
theorem u21_9 : type_of% (@swc _ _ c21_9.eq_1) := @swc _ _ c21_9.eq_1
def c21 : SC := (.seq (.reg [SO.mk (some 2) (.move (.const (Value.slice none 0 0))) none]) (.keep [0] c21_9))
theorem c21_eq : annC Try.f21 = some c21 := by kernel_rfl
theorem r21 : Try.f21.results.toList = [.tmp 2] := by kernel_rfl
theorem e21 : enters Try.prog 21 = true := by kernel_rfl
def c9_1 : SC := (.seq (.reg [SO.mk (some 15) (.build 37 []) none, SO.mk none (.store 37 (.tmp 6) (.tmp 15)) none, SO.mk (some 7) (.move (.const (Value.bool false))) none, SO.mk (some 8) (.move (.const (Value.int .i64 9))) none]) (.keep [6, 7, 8] .ret))
theorem u9_1 : type_of% (@swc _ _ c9_1.eq_1) := @swc _ _ c9_1.eq_1
def c9_2 : SC := (.cond (.tmp 14) c9_1 .skip)
theorem u9_2 : type_of% (@swc _ _ c9_2.eq_1) := @swc _ _ c9_2.eq_1
def c9_3 : SC := (.cond (.tmp 21) .skip (.exit 0))
theorem u9_3 : type_of% (@swc _ _ c9_3.eq_1) := @swc _ _ c9_3.eq_1
def o9_4 : List SO := ((SO.mk (some 28) (.load 37 (.tmp 27)) none) :: (SO.mk (some 11) (.alloc 37) none) :: (SO.mk none (.store 37 (.tmp 11) (.tmp 28)) none) :: [])
theorem v9_4 : type_of% (@swl _ _ o9_4.eq_1) := @swl _ _ o9_4.eq_1
def o9_5 : List SO := ((SO.mk (some 45) (.pick (.tmp 39) (.tmp 44) (.const (Value.bool false))) none) :: [])
theorem v9_5 : type_of% (@swl _ _ o9_5.eq_1) := @swl _ _ o9_5.eq_1
def o9_6 : List SO := ((SO.mk (some 41) (.load 3 (.tmp 40)) (some (39 , true))) :: (SO.mk (some 42) (.faddr 37 (.tmp 9) 0) (some (39 , true))) :: (SO.mk (some 43) (.load 3 (.tmp 42)) (some (39 , true))) :: (SO.mk (some 44) (.bin .gtr 3 (.tmp 41) (.tmp 43)) (some (39 , true))) :: o9_5)
theorem v9_6 : type_of% (@swl _ _ o9_6.eq_1) := @swl _ _ o9_6.eq_1
def o9_7 : List SO := ((SO.mk (some 37) (.bin .eql 9 (.tmp 35) (.tmp 36)) (some (33 , true))) :: (SO.mk (some 38) (.pick (.tmp 33) (.tmp 37) (.const (Value.bool false))) none) :: (SO.mk (some 39) (.move (.tmp 38)) none) :: (SO.mk (some 40) (.faddr 37 (.tmp 11) 0) (some (39 , true))) :: o9_6)
theorem v9_7 : type_of% (@swl _ _ o9_7.eq_1) := @swl _ _ o9_7.eq_1
def o9_8 : List SO := ((SO.mk (some 33) (.move (.tmp 32)) none) :: (SO.mk (some 34) (.faddr 37 (.tmp 11) 2) (some (33 , true))) :: (SO.mk (some 35) (.load 9 (.tmp 34)) (some (33 , true))) :: (SO.mk (some 36) (.move (.tmp 2)) (some (33 , true))) :: o9_7)
theorem v9_8 : type_of% (@swl _ _ o9_8.eq_1) := @swl _ _ o9_8.eq_1
def c9_9 : SC := (.reg [SO.mk (some 47) (.faddr 37 (.tmp 11) 8) none, SO.mk (some 48) (.load 28 (.tmp 47)) none, SO.mk (some 49) (.call 21 [(.tmp 48)]) none, SO.mk (some 50) (.faddr 37 (.tmp 9) 8) none, SO.mk none (.store 28 (.tmp 50) (.tmp 49)) none])
theorem u9_9 : type_of% (@swc _ _ c9_9.eq_1) := @swc _ _ c9_9.eq_1
def c9_10 : SC := (.seq (.reg [SO.mk (some 46) (.load 37 (.tmp 11)) none, SO.mk none (.store 37 (.tmp 9) (.tmp 46)) none]) (.keep [11, 10, 2, 1, 3, 9, 6] c9_9))
theorem u9_10 : type_of% (@swc _ _ c9_10.eq_1) := @swc _ _ c9_10.eq_1
def c9_11 : SC := (.cond (.tmp 45) c9_10 .skip)
theorem u9_11 : type_of% (@swc _ _ c9_11.eq_1) := @swc _ _ c9_11.eq_1
def c9_12 : SC := (.seq (.reg ((SO.mk (some 29) (.faddr 37 (.tmp 11) 1) none) :: (SO.mk (some 30) (.load 9 (.tmp 29)) none) :: (SO.mk (some 31) (.move (.tmp 1)) none) :: (SO.mk (some 32) (.bin .eql 9 (.tmp 30) (.tmp 31)) none) :: o9_8)) (.keep [45, 11, 10, 2, 1, 3, 9, 6] c9_11))
theorem u9_12 : type_of% (@swc _ _ c9_12.eq_1) := @swc _ _ c9_12.eq_1
def c9_13 : SC := (.reg [SO.mk (some 22) (.move (.tmp 10)) none, SO.mk (some 23) (.bin .add 3 (.tmp 22) (.const (Value.int .i64 1))) none, SO.mk (some 10) (.move (.tmp 23)) none])
theorem u9_13 : type_of% (@swc _ _ c9_13.eq_1) := @swc _ _ c9_13.eq_1
def c9_14 : SC := (.seq (.block 1 (.seq (.reg ((SO.mk (some 24) (.faddr 30 (.tmp 3) 3) none) :: (SO.mk (some 25) (.load 25 (.tmp 24)) none) :: (SO.mk (some 26) (.move (.tmp 10)) none) :: (SO.mk (some 27) (.iaddr 25 (.tmp 25) (.tmp 26)) none) :: o9_4)) (.keep [11, 10, 2, 1, 3, 9, 6] c9_12))) (.keep [10, 2, 1, 3, 9, 6] c9_13))
theorem u9_14 : type_of% (@swc _ _ c9_14.eq_1) := @swc _ _ c9_14.eq_1
def c9_15 : SC := (.seq (.seq (.reg [SO.mk (some 17) (.move (.tmp 10)) none, SO.mk (some 18) (.faddr 30 (.tmp 3) 3) none, SO.mk (some 19) (.load 25 (.tmp 18)) none, SO.mk (some 20) (.len 25 (.tmp 19)) none, SO.mk (some 21) (.bin .lss 3 (.tmp 17) (.tmp 20)) none]) (.keep [21, 3, 1, 2, 10, 9, 6] c9_3)) (.keep [10, 2, 1, 3, 9, 6] c9_14))
theorem u9_15 : type_of% (@swc _ _ c9_15.eq_1) := @swc _ _ c9_15.eq_1
def c9_16 : SC := (.block 0 (.loop (.keep [3, 1, 2, 10, 9, 6] c9_15)))
theorem u9_16 : type_of% (@swc _ _ c9_16.eq_1) := @swc _ _ c9_16.eq_1
def c9_17 : SC := (.seq (.dreg true [SO.mk (some 51) (.load 37 (.tmp 9)) none, SO.mk (some 52) (.faddr 37 (.tmp 9) 0) none, SO.mk (some 53) (.load 3 (.tmp 52)) none, SO.mk (some 54) (.bin .gtr 3 (.tmp 53) (.const (Value.int .i64 0))) none] [SO.mk none (.store 37 (.tmp 6) (.tmp 51)) none, SO.mk (some 7) (.move (.tmp 54)) none, SO.mk (some 8) (.move (.const (Value.int .i64 0))) none]) (.keep [6, 7, 8] .ret))
theorem u9_17 : type_of% (@swc _ _ c9_17.eq_1) := @swc _ _ c9_17.eq_1
def c9_18 : SC := (.seq (.seq (.reg [SO.mk (some 10) (.move (.const (Value.int .i64 0))) none]) (.keep [3, 1, 2, 10, 9, 6] c9_16)) (.keep [9, 6] c9_17))
theorem u9_18 : type_of% (@swc _ _ c9_18.eq_1) := @swc _ _ c9_18.eq_1
def c9_19 : SC := (.seq (.reg [SO.mk (some 16) (.build 37 []) none, SO.mk (some 9) (.alloc 37) none, SO.mk none (.store 37 (.tmp 9) (.tmp 16)) none]) (.keep [3, 1, 2, 9, 6] c9_18))
theorem u9_19 : type_of% (@swc _ _ c9_19.eq_1) := @swc _ _ c9_19.eq_1
def c9_20 : SC := (.seq (.seq (.reg [SO.mk (some 12) (.load 30 (.tmp 3)) none, SO.mk (some 13) (.call 15 [(.tmp 12)]) none, SO.mk (some 14) (.un .not (.tmp 13)) none]) (.keep [14, 3, 1, 2, 6] c9_2)) (.keep [3, 1, 2, 6] c9_19))
theorem u9_20 : type_of% (@swc _ _ c9_20.eq_1) := @swc _ _ c9_20.eq_1
def c9 : SC := (.seq (.reg [SO.mk (some 3) (.box 30 (.tmp 0)) none, SO.mk (some 6) (.alloc 37) none, SO.mk (some 7) (.move (.const (Value.bool false))) none, SO.mk (some 8) (.move (.const (Value.int .i64 0))) none]) (.keep [3, 1, 2, 6] c9_20))
theorem c9_eq : annC Try.f9 = some c9 := by kernel_rfl
theorem r9 : Try.f9.results.toList = [.cell 6 37, .tmp 7, .tmp 8] := by kernel_rfl
theorem e9 : enters Try.prog 9 = true := by kernel_rfl
end Go.Proofs.Ytobbkfldjemgkaa
namespace Go.Proofs.Ytobbkfldjemgkaa
open Go.RowKit
set_option maxHeartbeats 4000000
set_option maxRecDepth 20000
attribute [local irreducible] SW SWL SWLn SWD SEcall SEcallv SDv SE SO1 SOg ACalls ACallv Wk EndV
set_option linter.unusedSimpArgs false
set_option linter.unusedVariables false
theorem copyI_p (l : List Int) (h : l.length * 8 ≤ 2 ^ 47) : Pure Try.prog 21 [.d (ints l)] (.d (ints l)) := by
  refine pureZ_of follows Try.func21 c21_eq r21 (Nat.le_of_ble_eq_true rfl) fun B σ hcl hsz => ?_
  clear hsz
  repeat' (first | (simp -implicitDefEqProofs only [*, contN, contC, Nat.reduceBEq, Bool.or_false, Bool.or_true, Bool.false_or, Bool.true_or, Bool.not_true, Bool.not_false, w_skip, w_ret, w_exit, w_reg, w_dreg, w_seq, SK_n, SK_r, SK_x, w_keep, w_block, w_cond, w_nil, w_cons, w_consg, w_nnil, w_ncons, w_dnil, w_dcons, w_dconsg, HK_app, HD_app, HQ_n, HQ_r, HQ_x, HQ_bn, HQ_br, HQ_bx, HQ_en, HQ_er, HQ_ex, CondB_true, CondB_false, SO1, w_sdv, SDe_alloc, SDe_box, SDe_bslice, SDe_app, true_imp_iff, false_imp_iff, and_false, false_and, not_false_eq_true, not_true_eq_false, addN, mkNames, killT, killD, killO, List.foldl_nil, List.foldl_cons, List.append_nil, List.nil_append, List.cons_append, GuardS_true, GuardS_false, GuardD_true, GuardD_false, DK_true, DK_false, lt_self_add, le_self_add, decide_true, decide_false, Bool.false_eq_true, Bool.true_eq_false, Nat.add_left_cancel_iff, SE, SEalloc, SEbox, SEstore, w_bs, SEbl, SEfz, SEbs0, fzName, osOf, AV.fz1, w_app, w_mk, aev, opd, Fr.get, putO, Fr.norm, List.map_cons, List.map_nil, with1, with2, onInt, AV.lit, entry, ↓reduceIte, Nat.reduceEqDiff, Nat.reduceAdd, reduceCtorEq, true_and, and_true, Option.map_some, Option.map_none, Option.bind_some, Option.bind_none, cond_true, cond_false, binV, unV, fieldV, loadV, sto, cellsAV, newF, newL, Fr.map, Loc.kill, Loc.set, AO.kill, AV.kill, AV.mapN, AV.mapNL, List.filter_nil, List.filter_cons, allP, EndV, retV, resV, resL, frz, dropL, AV.pick, nilV, tupV, imp_self, ne_eq, Int.cast_ofNat_Int, Int.reduceLT, Int.reduceToNat, List.getD_cons_zero, List.getD_cons_succ, bsliceV, buildV, afill, repl, chunk, rvs, AV.rv, RV.nrm, List.getElem?_nil, List.append_assoc, Nat.reduceMul, Nat.reducePow, Nat.zero_lt_succ, Nat.zero_add, Nat.add_zero, List.length_cons, List.length_nil, Nat.reduceLeDiff, Nat.le_refl, List.take_succ_cons, List.take_zero, List.drop_succ_cons, List.drop_zero, indexV, lenV, rowOf_mapD, rowOf_mapI, rowOf_mapA, List.length_map, Int.toNat_natCast, List.getElem?_cons_zero, List.getElem?_cons_succ, and_self, implies_true, if_true, if_false, HQ_zn, HQ_zr, HQ_wn, HQ_wr, AV.nz, AV.nzL, RV.nrm, SEbin, SEnil, nilK, srcV, dstV, appName, List.length_append, Nat.mul_one, take_map_len, take_map_app, List.getElem?_cons_zero, List.map_append, SEmkmap, SEmset, mgetV, kvOf, getM, setM, c21, r21, u21_1, v21_2, u21_3, u21_4, u21_5, u21_6, u21_7, u21_8, u21_9, ty28, ty3, ints, int_]) | (with_reducible refine And.intro ?_ ?_) | (refine loop_nat (l.length) (fun _ => True) (fun k => [(0, .d (ints l)), (4, I k), (3, .os (B + 3) k)]) (fun k => [(B + 3, .arr 1 3 ((l.take k).map int_))]) ?_ (Wk.trans (Wk.nameF (s := 3) (n := B + 3) (k := 1) (E := 3) rfl (by omega) (.inl (by omega)) (fun m => AO.kill_below (q := fun m => decide (m < B)) (by simp) _ (hcl m).1)) (Wk.keep hcl ?_ ?_ ?_)) fun k hk hF => ?_; rotate_left 1; (focus (simp [Fr.get, newF, Fr.map, AV.kill, AV.mapN, ints, int_] <;> fail)); (focus (simp [sto, newL, Loc.kill, Loc.set, AO.kill, AV.kill, AV.mapN, ints, int_] <;> fail)); (focus (simp [newL, Loc.kill, Loc.set, ints, int_] <;> fail)); (try have hw : IntKind.i64.wrap ((k : Int) + 1) = (k : Int) + 1 := IntWalk.i64_in _ (by omega))) | (refine EndX.plain ?_) | (refine nil_split (fun hn => ?_) (fun hn => ?_)) | (refine gcall_no not_false ?_) | (refine gdcall_no not_false ?_) | (refine GuardS_of _ _ _ _ _ _ (fun hg => ?_) (fun hg => ?_)) | (refine GuardD_of _ _ _ _ (fun hg => ?_) (fun hg => ?_)) | (refine CondB_of _ _ _ _ _ _ _ ?_ (fun hg => ?_) (fun hg => ?_)))
  all_goals (try (first | ((first | unfold noN | unfold Fr.below | unfold Loc.below); simp [Fr.allN, AV.allN, AV.allNL, AO.allN]; done) | rfl | trivial | assumption | (intro row hrow; simp only [List.mem_map] at hrow; obtain ⟨x, _, rfl⟩ := hrow; rfl) | (refine Wk.keep hcl ?_ ?_ ?_; (focus (simp [Fr.get, ints, int_] <;> fail)); (focus (simp [sto, ints, int_] <;> fail)); (focus (simp <;> fail))) | (simp [allP, opd, Fr.get, Fr.below, Fr.allN, AV.allN, AV.allNL, Loc.below, AO.allN, noN, killO, killT, killD, mkNames, AO.kill, AV.kill, AV.mapN, AV.mapNL]; done) | (with_reducible exact ltD (by assumption)) | omega | (simp only [decide_eq_true_eq, decide_eq_false_iff_not] at *; omega)))
  all_goals (
    have e0 : List.take k (List.map int_ (List.take k l)) = List.map int_ (List.take k l) := List.take_of_length_le (by simp only [List.length_map, List.length_take]; omega)
    have e2 : (List.map int_ (List.take k l)).length = k := by simp only [List.length_map, List.length_take]; omega
    have e4 : (List.take k l).length = k := by simp only [List.length_take]; omega)
  all_goals (try rw [e0])
  all_goals first
    | omega
    | (rw [e2]; omega)
    | (have hk2 : k < l.length := ltD (by assumption)
       rw [e2]; omega)
    | (have hk2 : k < l.length := ltD (by assumption)
       have e3 : List.map int_ (List.take k l) ++ [[RV.v (Value.int IntKind.i64 l[k]!)]] = List.map int_ (List.take (k + 1) l) := by
         rw [List.take_add_one, List.getElem?_eq_getElem hk2, List.map_append, getElem!_pos l k hk2]; rfl
       rw [e2, e3]
       refine Wk.keep hcl ?_ ?_ ?_ <;> simp [Fr.get, sto])
    | (have hk2 : k = l.length := Nat.le_antisymm hk (geD (by assumption))
       rw [if_pos (by omega), hk2, List.take_length])
def forB (v : VerD) (name key : ByteArray) : Bool := (v.bkt.toList == name.toList) && (v.key.toList == key.toList)
def bestK (l : List VerD) (name key : ByteArray) : Nat → VerD
  | 0 => ⟨0, ⟨#[]⟩, ⟨#[]⟩, false, false, 0, 0, 0, [], 0, 0, 0⟩
  | k + 1 => bif forB l[k]! name key && decide (l[k]!.id > (bestK l name key k).id) then l[k]! else bestK l name key k
def verZ : VerD := ⟨0, ⟨#[]⟩, ⟨#[]⟩, false, false, 0, 0, 0, [], 0, 0, 0⟩
theorem best0 (l : List VerD) (name key : ByteArray) : bestK l name key 0 = verZ := rfl
def latV (s : SttD) (name key : ByteArray) : AV := bif mayF s then .tup [.agg ((bestK s.vers name key s.vers.length).row.map .d), Bo (decide ((bestK s.vers name key s.vers.length).id > 0)), I 0] else .tup [.agg (verZ.row.map .d), Bo false, I 9]
theorem best_yes {l : List VerD} {name key : ByteArray} {k : Nat} (h1 : (l[k]!.bkt.toList == name.toList) = true) (h2 : (l[k]!.key.toList == key.toList) = true) (h3 : decide (l[k]!.id > (bestK l name key k).id) = true) : bestK l name key (k + 1) = l[k]! := by
  show cond _ _ _ = _; simp only [forB, h1, h2, h3, Bool.and_self, cond_true]
theorem best_no3 {l : List VerD} {name key : ByteArray} {k : Nat} (h3 : decide (l[k]!.id > (bestK l name key k).id) = false) : bestK l name key (k + 1) = bestK l name key k := by
  show cond _ _ _ = _; simp only [h3, Bool.and_false, cond_false]
theorem best_no2 {l : List VerD} {name key : ByteArray} {k : Nat} (h2 : (l[k]!.key.toList == key.toList) = false) : bestK l name key (k + 1) = bestK l name key k := by
  show cond _ _ _ = _; simp only [forB, h2, Bool.and_false, Bool.false_and, cond_false]
theorem best_no1 {l : List VerD} {name key : ByteArray} {k : Nat} (h1 : (l[k]!.bkt.toList == name.toList) = false) : bestK l name key (k + 1) = bestK l name key k := by
  show cond _ _ _ = _; simp only [forB, h1, Bool.false_and, cond_false]
theorem vers_szd {s : SttD} (h : s.av.sz) : s.vers.length ≤ 2 ^ 47 := by
  simp only [SttD.av, SttD.cells, AV.sz] at h
  have h2 : Sized (.ro (s.vers.map VerD.row)) := h (.d (.ro (s.vers.map VerD.row))) (by simp)
  simpa using h2.len
theorem latestOf_p (s : SttD) (hm : Pure Try.prog 15 [s.av] (Bo (mayF s))) (hsec : ∀ k : Nat, (s.vers[k]!).secs.length * 8 ≤ 2 ^ 47) (name key : ByteArray) : Pure Try.prog 9 [s.av, .d (.v (.string name)), .d (.v (.string key))] (latV s name key) := by
  refine pureY_of follows Try.func9 c9_eq r9 (Nat.le_of_ble_eq_true rfl) fun B σ hcl hsz => ?_
  have hpl := vers_szd (hsz s.av (by simp))
  clear hsz
  unfold latV
  generalize mayF s = b at hm ⊢
  cases b
  · simp only [cond_false] at hm ⊢
    repeat' (first | (simp -implicitDefEqProofs only [*, contN, contC, Nat.reduceBEq, Bool.or_false, Bool.or_true, Bool.false_or, Bool.true_or, Bool.not_true, Bool.not_false, w_skip, w_ret, w_exit, w_reg, w_dreg, w_seq, SK_n, SK_r, SK_x, w_keep, w_block, w_cond, w_nil, w_cons, w_consg, w_nnil, w_ncons, w_dnil, w_dcons, w_dconsg, HK_app, HD_app, HQ_n, HQ_r, HQ_x, HQ_bn, HQ_br, HQ_bx, HQ_en, HQ_er, HQ_ex, CondB_true, CondB_false, SO1, w_sdv, SDe_alloc, SDe_box, SDe_bslice, SDe_app, true_imp_iff, false_imp_iff, and_false, false_and, not_false_eq_true, not_true_eq_false, addN, mkNames, killT, killD, killO, List.foldl_nil, List.foldl_cons, List.append_nil, List.nil_append, List.cons_append, GuardS_true, GuardS_false, GuardD_true, GuardD_false, DK_true, DK_false, lt_self_add, le_self_add, decide_true, decide_false, Bool.false_eq_true, Bool.true_eq_false, Nat.add_left_cancel_iff, SE, SEalloc, SEbox, SEstore, w_bs, SEbl, SEfz, SEbs0, fzName, osOf, AV.fz1, w_app, w_mk, aev, opd, Fr.get, putO, Fr.norm, List.map_cons, List.map_nil, with1, with2, onInt, AV.lit, entry, ↓reduceIte, Nat.reduceEqDiff, Nat.reduceAdd, reduceCtorEq, true_and, and_true, Option.map_some, Option.map_none, Option.bind_some, Option.bind_none, cond_true, cond_false, binV, unV, fieldV, loadV, sto, cellsAV, newF, newL, Fr.map, Loc.kill, Loc.set, AO.kill, AV.kill, AV.mapN, AV.mapNL, List.filter_nil, List.filter_cons, allP, EndV, retV, resV, resL, frz, dropL, AV.pick, nilV, tupV, imp_self, ne_eq, Int.cast_ofNat_Int, Int.reduceLT, Int.reduceToNat, List.getD_cons_zero, List.getD_cons_succ, bsliceV, buildV, afill, repl, chunk, rvs, AV.rv, RV.nrm, List.getElem?_nil, List.append_assoc, Nat.reduceMul, Nat.reducePow, Nat.zero_lt_succ, Nat.zero_add, Nat.add_zero, List.length_cons, List.length_nil, Nat.reduceLeDiff, Nat.le_refl, List.take_succ_cons, List.take_zero, List.drop_succ_cons, List.drop_zero, indexV, lenV, rowOf_mapD, rowOf_mapI, rowOf_mapA, List.length_map, Int.toNat_natCast, List.getElem?_cons_zero, List.getElem?_cons_succ, and_self, implies_true, if_true, if_false, HQ_zn, HQ_zr, HQ_wn, HQ_wr, AV.nz, AV.nzL, RV.nrm, SEbin, SEnil, nilK, srcV, dstV, appName, List.length_append, Nat.mul_one, take_map_len, take_map_app, List.getElem?_cons_zero, List.map_append, SEmkmap, SEmset, mgetV, kvOf, getM, setM, c9, r9, u9_1, u9_2, u9_3, v9_4, v9_5, v9_6, v9_7, v9_8, u9_9, u9_10, u9_11, u9_12, u9_13, u9_14, u9_15, u9_16, u9_17, u9_18, u9_19, u9_20, ty30, ty37, ty25, ty3, ty9, ty28, SttD.av, SttD.cells, VerD.row, ints, verZ, best0, HQ_yn, HQ_yr, Loc.nz, AO.nz, AV.nz, RV.nrm]) | (with_reducible refine And.intro ?_ ?_) | (refine call_ro e15 ( hm) rfl ?_ ?_ ?_ ?_) | (refine gcall_ro e15 ( hm) rfl ?_ ?_ ?_ ?_) | (refine dcall_ro e15 ( hm) rfl ?_ ?_ ?_ ?_) | (refine gdcall_ro rfl e15 ( hm) rfl ?_ ?_ ?_ ?_) | (refine EndX.plain ?_) | (refine nil_split (fun hn => ?_) (fun hn => ?_)) | (refine gcall_no not_false ?_) | (refine gdcall_no not_false ?_) | (refine GuardS_of _ _ _ _ _ _ (fun hg => ?_) (fun hg => ?_)) | (refine GuardD_of _ _ _ _ (fun hg => ?_) (fun hg => ?_)) | (refine CondB_of _ _ _ _ _ _ _ ?_ (fun hg => ?_) (fun hg => ?_)))
    all_goals (try (first | ((first | unfold noN | unfold Fr.below | unfold Loc.below); simp [Fr.allN, AV.allN, AV.allNL, AO.allN]; done) | rfl | trivial | assumption | (intro row hrow; simp only [List.mem_map] at hrow; obtain ⟨x, _, rfl⟩ := hrow; rfl) | (refine Wk.keep hcl ?_ ?_ ?_; (focus (simp [Fr.get, SttD.av, SttD.cells, VerD.row, ints, verZ, best0, HQ_yn, HQ_yr, Loc.nz, AO.nz, AV.nz, RV.nrm] <;> fail)); (focus (simp [sto, SttD.av, SttD.cells, VerD.row, ints, verZ, best0, HQ_yn, HQ_yr, Loc.nz, AO.nz, AV.nz, RV.nrm] <;> fail)); (focus (simp <;> fail))) | (simp [allP, opd, Fr.get, Fr.below, Fr.allN, AV.allN, AV.allNL, Loc.below, AO.allN, noN, killO, killT, killD, mkNames, AO.kill, AV.kill, AV.mapN, AV.mapNL]; done) | (with_reducible exact ltD (by assumption)) | omega | (simp only [decide_eq_true_eq, decide_eq_false_iff_not] at *; omega)))
  · simp only [cond_true] at hm ⊢
    repeat' (first | (simp -implicitDefEqProofs only [*, contN, contC, Nat.reduceBEq, Bool.or_false, Bool.or_true, Bool.false_or, Bool.true_or, Bool.not_true, Bool.not_false, w_skip, w_ret, w_exit, w_reg, w_dreg, w_seq, SK_n, SK_r, SK_x, w_keep, w_block, w_cond, w_nil, w_cons, w_consg, w_nnil, w_ncons, w_dnil, w_dcons, w_dconsg, HK_app, HD_app, HQ_n, HQ_r, HQ_x, HQ_bn, HQ_br, HQ_bx, HQ_en, HQ_er, HQ_ex, CondB_true, CondB_false, SO1, w_sdv, SDe_alloc, SDe_box, SDe_bslice, SDe_app, true_imp_iff, false_imp_iff, and_false, false_and, not_false_eq_true, not_true_eq_false, addN, mkNames, killT, killD, killO, List.foldl_nil, List.foldl_cons, List.append_nil, List.nil_append, List.cons_append, GuardS_true, GuardS_false, GuardD_true, GuardD_false, DK_true, DK_false, lt_self_add, le_self_add, decide_true, decide_false, Bool.false_eq_true, Bool.true_eq_false, Nat.add_left_cancel_iff, SE, SEalloc, SEbox, SEstore, w_bs, SEbl, SEfz, SEbs0, fzName, osOf, AV.fz1, w_app, w_mk, aev, opd, Fr.get, putO, Fr.norm, List.map_cons, List.map_nil, with1, with2, onInt, AV.lit, entry, ↓reduceIte, Nat.reduceEqDiff, Nat.reduceAdd, reduceCtorEq, true_and, and_true, Option.map_some, Option.map_none, Option.bind_some, Option.bind_none, cond_true, cond_false, binV, unV, fieldV, loadV, sto, cellsAV, newF, newL, Fr.map, Loc.kill, Loc.set, AO.kill, AV.kill, AV.mapN, AV.mapNL, List.filter_nil, List.filter_cons, allP, EndV, retV, resV, resL, frz, dropL, AV.pick, nilV, tupV, imp_self, ne_eq, Int.cast_ofNat_Int, Int.reduceLT, Int.reduceToNat, List.getD_cons_zero, List.getD_cons_succ, bsliceV, buildV, afill, repl, chunk, rvs, AV.rv, RV.nrm, List.getElem?_nil, List.append_assoc, Nat.reduceMul, Nat.reducePow, Nat.zero_lt_succ, Nat.zero_add, Nat.add_zero, List.length_cons, List.length_nil, Nat.reduceLeDiff, Nat.le_refl, List.take_succ_cons, List.take_zero, List.drop_succ_cons, List.drop_zero, indexV, lenV, rowOf_mapD, rowOf_mapI, rowOf_mapA, List.length_map, Int.toNat_natCast, List.getElem?_cons_zero, List.getElem?_cons_succ, and_self, implies_true, if_true, if_false, HQ_zn, HQ_zr, HQ_wn, HQ_wr, AV.nz, AV.nzL, RV.nrm, SEbin, SEnil, nilK, srcV, dstV, appName, List.length_append, Nat.mul_one, take_map_len, take_map_app, List.getElem?_cons_zero, List.map_append, SEmkmap, SEmset, mgetV, kvOf, getM, setM, c9, r9, u9_1, u9_2, u9_3, v9_4, v9_5, v9_6, v9_7, v9_8, u9_9, u9_10, u9_11, u9_12, u9_13, u9_14, u9_15, u9_16, u9_17, u9_18, u9_19, u9_20, ty30, ty37, ty25, ty3, ty9, ty28, SttD.av, SttD.cells, VerD.row, ints, verZ, best0, HQ_yn, HQ_yr, Loc.nz, AO.nz, AV.nz, RV.nrm]) | (with_reducible refine And.intro ?_ ?_) | (refine call_ro e15 ( hm) rfl ?_ ?_ ?_ ?_) | (refine gcall_ro e15 ( hm) rfl ?_ ?_ ?_ ?_) | (refine dcall_ro e15 ( hm) rfl ?_ ?_ ?_ ?_) | (refine gdcall_ro rfl e15 ( hm) rfl ?_ ?_ ?_ ?_) | (refine call_ro e21 ( copyI_p s.vers[k]!.secs (hsec k)) rfl ?_ ?_ ?_ ?_) | (refine gcall_ro e21 ( copyI_p s.vers[k]!.secs (hsec k)) rfl ?_ ?_ ?_ ?_) | (refine dcall_ro e21 ( copyI_p s.vers[k]!.secs (hsec k)) rfl ?_ ?_ ?_ ?_) | (refine gdcall_ro rfl e21 ( copyI_p s.vers[k]!.secs (hsec k)) rfl ?_ ?_ ?_ ?_) | (refine loop_nat (s.vers.length) (fun _ => True) (fun k => [(3, .lp (B + 3) 0), (1, .d (.v (.string name))), (2, .d (.v (.string key))), (10, I k), (9, .lp (B + 9) 0), (6, .lp (B + 6) 0)]) (fun k => [(B + 3, .box s.cells), (B + 9, .box ((bestK s.vers name key k).row.map .d)), (B + 6, .box (verZ.row.map .d))]) ?_ (Wk.trans (Wk.nzL _ _ _ _ _) (Wk.keep hcl ?_ ?_ ?_)) fun k hk hF => ?_; rotate_left 1; (focus (simp [Fr.get, newF, Fr.map, AV.kill, AV.mapN, SttD.av, SttD.cells, VerD.row, ints, verZ, best0, HQ_yn, HQ_yr, Loc.nz, AO.nz, AV.nz, RV.nrm] <;> fail)); (focus (simp [sto, newL, Loc.kill, Loc.set, AO.kill, AV.kill, AV.mapN, SttD.av, SttD.cells, VerD.row, ints, verZ, best0, HQ_yn, HQ_yr, Loc.nz, AO.nz, AV.nz, RV.nrm] <;> fail)); (focus (simp [newL, Loc.kill, Loc.set, SttD.av, SttD.cells, VerD.row, ints, verZ, best0, HQ_yn, HQ_yr, Loc.nz, AO.nz, AV.nz, RV.nrm] <;> fail)); (try have hw : IntKind.i64.wrap ((k : Int) + 1) = (k : Int) + 1 := IntWalk.i64_in _ (by omega))) | (refine EndX.plain ?_) | (refine nil_split (fun hn => ?_) (fun hn => ?_)) | (refine gcall_no not_false ?_) | (refine gdcall_no not_false ?_) | (refine GuardS_of _ _ _ _ _ _ (fun hg => ?_) (fun hg => ?_)) | (refine GuardD_of _ _ _ _ (fun hg => ?_) (fun hg => ?_)) | (refine CondB_of _ _ _ _ _ _ _ ?_ (fun hg => ?_) (fun hg => ?_)))
    all_goals (try (first | ((first | unfold noN | unfold Fr.below | unfold Loc.below); simp [Fr.allN, AV.allN, AV.allNL, AO.allN]; done) | rfl | trivial | assumption | (intro row hrow; simp only [List.mem_map] at hrow; obtain ⟨x, _, rfl⟩ := hrow; rfl) | (refine Wk.keep hcl ?_ ?_ ?_; (focus (simp [Fr.get, SttD.av, SttD.cells, VerD.row, ints, verZ, best0, HQ_yn, HQ_yr, Loc.nz, AO.nz, AV.nz, RV.nrm] <;> fail)); (focus (simp [sto, SttD.av, SttD.cells, VerD.row, ints, verZ, best0, HQ_yn, HQ_yr, Loc.nz, AO.nz, AV.nz, RV.nrm] <;> fail)); (focus (simp <;> fail))) | (simp [allP, opd, Fr.get, Fr.below, Fr.allN, AV.allN, AV.allNL, Loc.below, AO.allN, noN, killO, killT, killD, mkNames, AO.kill, AV.kill, AV.mapN, AV.mapNL]; done) | (with_reducible exact ltD (by assumption)) | omega | (simp only [decide_eq_true_eq, decide_eq_false_iff_not] at *; omega)))
    all_goals first
      | (simp [avName, loadNames, opd, Fr.get]; done)
      | (rw [best_yes (by assumption) (by assumption) (by assumption)]
         refine Wk.keep hcl ?_ ?_ ?_ <;> simp [Fr.get, sto])
      | (first | rw [best_no3 (by assumption)] | rw [best_no2 (by assumption)] | rw [best_no1 (by assumption)]
         refine Wk.keep hcl ?_ ?_ ?_ <;> simp [Fr.get, sto])
      | (have hk2 : k = s.vers.length := Nat.le_antisymm hk (geD (by assumption))
         subst hk2; rfl)
end Go.Proofs.Ytobbkfldjemgkaa
