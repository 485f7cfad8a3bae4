/- Things that are done to devices, one by one: the reference's list of them. -/
import Derived.Test.YtalhjhmphdgaoaaWr
import Derived.Test.YtalhjhmphdgaoaaTypes
namespace Go.Proofs.Ytalhjhmphdgaoaa
open Go.RowKit
set_option maxRecDepth 100000
def o43_1 : List SO := ((SO.mk (some 9) (.alloc 45) none) :: (SO.mk (some 10) (.move (.const (Value.int .i64 0))) none) :: [])
theorem v43_1 : type_of% (@swl _ _ o43_1.eq_1) := @swl _ _ o43_1.eq_1
def c43_2 : SC := (.cond (.tmp 17) .skip (.exit 0))
theorem u43_2 : type_of% (@swc _ _ c43_2.eq_1) := @swc _ _ c43_2.eq_1
def o43_3 : List SO := ((SO.mk (some 30) (.extract (.tmp 26) 0) none) :: (SO.mk (some 31) (.extract (.tmp 26) 1) none) :: (SO.mk none (.store 28 (.tmp 12) (.tmp 30)) none) :: (SO.mk (some 13) (.move (.tmp 31)) none) :: [])
theorem v43_3 : type_of% (@swl _ _ o43_3.eq_1) := @swl _ _ o43_3.eq_1
def c43_4 : SC := (.reg ((SO.mk (some 27) (.load 23 (.tmp 4)) none) :: (SO.mk (some 28) (.load 28 (.tmp 5)) none) :: (SO.mk (some 29) (.call 66 [(.tmp 27), (.tmp 28)]) none) :: (SO.mk (some 26) (.move (.tmp 29)) none) :: o43_3))
theorem u43_4 : type_of% (@swc _ _ c43_4.eq_1) := @swc _ _ c43_4.eq_1
def o43_5 : List SO := ((SO.mk (some 45) (.call 67 [(.tmp 33), (.tmp 34), (.tmp 39), (.tmp 44)]) none) :: (SO.mk (some 32) (.move (.tmp 45)) none) :: (SO.mk (some 46) (.extract (.tmp 32) 0) none) :: (SO.mk (some 47) (.extract (.tmp 32) 1) none) :: [])
theorem v43_5 : type_of% (@swd _ _ o43_5.eq_1) := @swd _ _ o43_5.eq_1
def o43_6 : List SO := ((SO.mk (some 41) (.move (.tmp 11)) none) :: (SO.mk (some 42) (.iaddr 83 (.tmp 40) (.tmp 41)) none) :: (SO.mk (some 43) (.faddr 82 (.tmp 42) 2) none) :: (SO.mk (some 44) (.load 29 (.tmp 43)) none) :: o43_5)
theorem v43_6 : type_of% (@swd _ _ o43_6.eq_1) := @swd _ _ o43_6.eq_1
def o43_7 : List SO := ((SO.mk (some 37) (.iaddr 83 (.tmp 35) (.tmp 36)) none) :: (SO.mk (some 38) (.faddr 82 (.tmp 37) 1) none) :: (SO.mk (some 39) (.load 3 (.tmp 38)) none) :: (SO.mk (some 40) (.move (.tmp 2)) none) :: o43_6)
theorem v43_7 : type_of% (@swd _ _ o43_7.eq_1) := @swd _ _ o43_7.eq_1
def o43_8 : List SO := ((SO.mk (some 33) (.load 23 (.tmp 4)) none) :: (SO.mk (some 34) (.load 28 (.tmp 5)) none) :: (SO.mk (some 35) (.move (.tmp 2)) none) :: (SO.mk (some 36) (.move (.tmp 11)) none) :: o43_7)
theorem v43_8 : type_of% (@swd _ _ o43_8.eq_1) := @swd _ _ o43_8.eq_1
theorem m43_8 (B : Nat) : mkNames B o43_8 = [] := (rfl)
def c43_9 : SC := (.dreg false o43_8 [SO.mk none (.store 28 (.tmp 12) (.tmp 46)) none, SO.mk (some 13) (.move (.tmp 47)) none])
theorem u43_9 : type_of% (@swc _ _ c43_9.eq_1) := @swc _ _ c43_9.eq_1
def c43_10 : SC := (.cond (.tmp 25) c43_4 c43_9)
theorem u43_10 : type_of% (@swc _ _ c43_10.eq_1) := @swc _ _ c43_10.eq_1
def o43_11 : List SO := ((SO.mk none (.store 45 (.tmp 9) (.tmp 51)) none) :: (SO.mk (some 10) (.move (.tmp 52)) none) :: [])
theorem v43_11 : type_of% (@swl _ _ o43_11.eq_1) := @swl _ _ o43_11.eq_1
def c43_12 : SC := (.seq (.reg ((SO.mk (some 50) (.load 28 (.tmp 5)) none) :: (SO.mk (some 51) (.build 45 []) none) :: (SO.mk (some 52) (.move (.tmp 13)) none) :: (SO.mk none (.store 28 (.tmp 8) (.tmp 50)) none) :: o43_11)) (.keep [8, 9, 10] .ret))
theorem u43_12 : type_of% (@swc _ _ c43_12.eq_1) := @swc _ _ c43_12.eq_1
def c43_13 : SC := (.cond (.tmp 49) c43_12 .skip)
theorem u43_13 : type_of% (@swc _ _ c43_13.eq_1) := @swc _ _ c43_13.eq_1
def o43_14 : List SO := ((SO.mk none (.store 45 (.tmp 9) (.tmp 56)) none) :: (SO.mk (some 10) (.move (.tmp 57)) none) :: [])
theorem v43_14 : type_of% (@swl _ _ o43_14.eq_1) := @swl _ _ o43_14.eq_1
def c43_15 : SC := (.seq (.reg ((SO.mk (some 55) (.build 28 []) none) :: (SO.mk (some 56) (.build 45 []) none) :: (SO.mk (some 57) (.move (.tmp 13)) none) :: (SO.mk none (.store 28 (.tmp 8) (.tmp 55)) none) :: o43_14)) (.keep [8, 9, 10] .ret))
theorem u43_15 : type_of% (@swc _ _ c43_15.eq_1) := @swc _ _ c43_15.eq_1
def c43_16 : SC := (.cond (.tmp 54) c43_15 .skip)
theorem u43_16 : type_of% (@swc _ _ c43_16.eq_1) := @swc _ _ c43_16.eq_1
def c43_17 : SC := (.reg [SO.mk (some 58) (.load 28 (.tmp 12)) none, SO.mk none (.store 28 (.tmp 5) (.tmp 58)) none])
theorem u43_17 : type_of% (@swc _ _ c43_17.eq_1) := @swc _ _ c43_17.eq_1
def c43_18 : SC := (.seq (.seq (.reg [SO.mk (some 53) (.move (.tmp 13)) none, SO.mk (some 54) (.bin .neq 30 (.tmp 53) (.const (Value.int .i64 0))) none]) (.keep [54, 13, 12, 11, 2, 4, 5, 7, 8, 9] c43_16)) (.keep [12, 11, 2, 4, 5, 7, 8, 9] c43_17))
theorem u43_18 : type_of% (@swc _ _ c43_18.eq_1) := @swc _ _ c43_18.eq_1
def c43_19 : SC := (.seq (.seq (.reg [SO.mk (some 48) (.move (.tmp 13)) none, SO.mk (some 49) (.bin .eql 30 (.tmp 48) (.const (Value.int .i64 10))) none]) (.keep [49, 13, 12, 11, 2, 4, 5, 7, 8, 9] c43_13)) (.keep [13, 12, 11, 2, 4, 5, 7, 8, 9] c43_18))
theorem u43_19 : type_of% (@swc _ _ c43_19.eq_1) := @swc _ _ c43_19.eq_1
def c43_20 : SC := (.seq (.seq (.reg [SO.mk (some 21) (.move (.tmp 2)) none, SO.mk (some 22) (.move (.tmp 11)) none, SO.mk (some 23) (.iaddr 83 (.tmp 21) (.tmp 22)) none, SO.mk (some 24) (.faddr 82 (.tmp 23) 0) none, SO.mk (some 25) (.load 4 (.tmp 24)) none]) (.keep [25, 12, 11, 2, 4, 5, 7, 8, 9] c43_10)) (.keep [13, 12, 11, 2, 4, 5, 7, 8, 9] c43_19))
theorem u43_20 : type_of% (@swc _ _ c43_20.eq_1) := @swc _ _ c43_20.eq_1
def c43_21 : SC := (.seq (.reg [SO.mk (some 13) (.move (.const (Value.int .i64 0))) none]) (.keep [12, 11, 2, 4, 5, 7, 8, 9] c43_20))
theorem u43_21 : type_of% (@swc _ _ c43_21.eq_1) := @swc _ _ c43_21.eq_1
def c43_22 : SC := (.reg [SO.mk (some 18) (.move (.tmp 11)) none, SO.mk (some 19) (.bin .add 3 (.tmp 18) (.const (Value.int .i64 1))) none, SO.mk (some 11) (.move (.tmp 19)) none])
theorem u43_22 : type_of% (@swc _ _ c43_22.eq_1) := @swc _ _ c43_22.eq_1
def c43_23 : SC := (.seq (.block 1 (.seq (.reg [SO.mk (some 20) (.build 28 []) none, SO.mk (some 12) (.alloc 28) none, SO.mk none (.store 28 (.tmp 12) (.tmp 20)) none]) (.keep [12, 11, 2, 4, 5, 7, 8, 9] c43_21))) (.keep [11, 2, 4, 5, 7, 8, 9] c43_22))
theorem u43_23 : type_of% (@swc _ _ c43_23.eq_1) := @swc _ _ c43_23.eq_1
def c43_24 : SC := (.seq (.seq (.reg [SO.mk (some 14) (.move (.tmp 11)) none, SO.mk (some 15) (.move (.tmp 2)) none, SO.mk (some 16) (.len 83 (.tmp 15)) none, SO.mk (some 17) (.bin .lss 3 (.tmp 14) (.tmp 16)) none]) (.keep [17, 4, 2, 11, 5, 7, 8, 9] c43_2)) (.keep [11, 2, 4, 5, 7, 8, 9] c43_23))
theorem u43_24 : type_of% (@swc _ _ c43_24.eq_1) := @swc _ _ c43_24.eq_1
def c43_25 : SC := (.block 0 (.loop (.keep [4, 2, 11, 5, 7, 8, 9] c43_24)))
theorem u43_25 : type_of% (@swc _ _ c43_25.eq_1) := @swc _ _ c43_25.eq_1
def c43_26 : SC := (.seq (.dreg true [SO.mk (some 59) (.load 28 (.tmp 5)) none, SO.mk (some 60) (.load 45 (.tmp 7)) none] [SO.mk none (.store 28 (.tmp 8) (.tmp 59)) none, SO.mk none (.store 45 (.tmp 9) (.tmp 60)) none, SO.mk (some 10) (.move (.const (Value.int .i64 0))) none]) (.keep [8, 9, 10] .ret))
theorem u43_26 : type_of% (@swc _ _ c43_26.eq_1) := @swc _ _ c43_26.eq_1
def c43_27 : SC := (.seq (.seq (.reg [SO.mk (some 11) (.move (.const (Value.int .i64 0))) none]) (.keep [4, 2, 11, 5, 7, 8, 9] c43_25)) (.keep [5, 7, 8, 9] c43_26))
theorem u43_27 : type_of% (@swc _ _ c43_27.eq_1) := @swc _ _ c43_27.eq_1
def c43 : SC := (.seq (.reg ((SO.mk (some 4) (.box 23 (.tmp 0)) none) :: (SO.mk (some 5) (.box 28 (.tmp 1)) none) :: (SO.mk (some 7) (.box 45 (.tmp 3)) none) :: (SO.mk (some 8) (.alloc 28) none) :: o43_1)) (.keep [4, 2, 5, 7, 8, 9] c43_27))
theorem c43_eq : annC Try.f43 = some c43 := by kernel_rfl
theorem r43 : Try.f43.results.toList = [.cell 8 28, .cell 9 45, .tmp 10] := by kernel_rfl
theorem e43 : enters Try.prog 43 = true := by kernel_rfl
end Go.Proofs.Ytalhjhmphdgaoaa
namespace Go.Proofs.Ytalhjhmphdgaoaa
open Go.RowKit
set_option maxHeartbeats 4000000
set_option maxRecDepth 20000
attribute [local irreducible] SW SWL SWLn SWD SEcall SEcallv SDv SE SO1 SOg ACalls ACallv Wk EndV
set_option linter.unusedSimpArgs false
set_option linter.unusedVariables false
structure TodD where
  fl : Bool
  pos : Int
  b : List UInt8
instance : Inhabited TodD := ⟨⟨false, 0, []⟩⟩
def TodD.row (t : TodD) : List RV := [.v (.bool t.fl), .v (.int .i64 t.pos), bytes t.b]
def stepE (g : GeoD) (d : DevD) (t : TodD) : Int := bif t.fl then spendE g d else putE g d t.pos t.b
def stepD (g : GeoD) (d : DevD) (t : TodD) : DevD := bif t.fl then flushD g d else putD g d t.pos t.b
def stepF (g : GeoD) (s : DevD × Int) (t : TodD) : DevD × Int := bif s.2 != 0 then s else bif stepE g s.1 t == 0 then (stepD g s.1 t, 0) else (s.1, stepE g s.1 t)
def runF (g : GeoD) (d : DevD) (ts : List TodD) : DevD × Int := ts.foldl (stepF g) (d, 0)
def endR (s : DevD × Int) : DevD × Int := bif s.2 == 0 || s.2 == 10 then s else (nilD, s.2)
def jEnd (e : Int) (j : JrnD) : JrnD := bif e == 0 then j else nilJ
theorem stepD_fit {g : GeoD} {d : DevD} (hw : d.fit) (t : TodD) : (stepD g d t).fit := by
  unfold stepD
  cases t.fl
  · exact putD_fit hw
  · exact flushD_fit hw
theorem stepF_fit {g : GeoD} {s : DevD × Int} (hw : s.1.fit) (t : TodD) : (stepF g s t).1.fit := by
  unfold stepF
  cases s.2 != 0
  · simp only [cond_false]
    cases stepE g s.1 t == 0
    · exact hw
    · exact stepD_fit hw t
  · exact hw
theorem foldF_fit {g : GeoD} (ts : List TodD) : ∀ {s : DevD × Int}, s.1.fit → (ts.foldl (stepF g) s).1.fit := by
  induction ts with
  | nil => intro s h; exact h
  | cons t ts ih => intro s h; exact ih (stepF_fit h t)
theorem runF_nil (g : GeoD) (d : DevD) : runF g d [] = (d, 0) := rfl
theorem runF_fit {g : GeoD} {d : DevD} (hw : d.fit) (ts : List TodD) : (runF g d ts).1.fit := foldF_fit ts hw
theorem runF_next {g : GeoD} {d : DevD} {ts : List TodD} {k : Nat} (h : k < ts.length) : runF g d (ts.take (k + 1)) = stepF g (runF g d (ts.take k)) ts[k]! := by
  rw [take_next h]; unfold runF; rw [List.foldl_append]; rfl
theorem foldF_stop {g : GeoD} (ts : List TodD) : ∀ {s : DevD × Int}, s.2 ≠ 0 → ts.foldl (stepF g) s = s := by
  induction ts with
  | nil => intro s h; rfl
  | cons t ts ih =>
    intro s h
    have e : stepF g s t = s := by
      have : (s.2 != 0) = true := by simpa using h
      unfold stepF; rw [this]; rfl
    rw [List.foldl_cons, e, ih h]
theorem runF_at {g : GeoD} {d : DevD} {ts : List TodD} (k : Nat) (h : (runF g d (ts.take k)).2 ≠ 0) : runF g d ts = runF g d (ts.take k) := by
  have e : ts.foldl (stepF g) (d, 0) = (ts.take k ++ ts.drop k).foldl (stepF g) (d, 0) := by rw [List.take_append_drop]
  unfold runF at h ⊢
  rw [e, List.foldl_append, foldF_stop _ h]
section
variable {g : GeoD} {d : DevD} {ts : List TodD} {k : Nat} {e : Int}
theorem run_go (hF : (runF g d (ts.take k)).2 = 0) (hk : k < ts.length) (he : stepE g (runF g d (ts.take k)).1 ts[k]! = e) (h0 : (e != 0) = false) : runF g d (ts.take (k + 1)) = (stepD g (runF g d (ts.take k)).1 ts[k]!, 0) := by
  have h1 : e = 0 := by simpa using h0
  subst h1
  rw [runF_next hk]
  unfold stepF
  rw [hF, he]; rfl
theorem run_no (hF : (runF g d (ts.take k)).2 = 0) (hk : k < ts.length) (he : stepE g (runF g d (ts.take k)).1 ts[k]! = e) (h0 : e ≠ 0) : runF g d ts = ((runF g d (ts.take k)).1, e) := by
  have h1 : (e == 0) = false := by simpa using h0
  have e1 : runF g d (ts.take (k + 1)) = ((runF g d (ts.take k)).1, e) := by
    rw [runF_next hk]
    unfold stepF
    rw [hF, he, h1]; rfl
  rw [runF_at (k + 1) (by rw [e1]; exact h0), e1]
theorem run_all (hk : k ≤ ts.length) (hg : decide ((k : Int) < ts.length) = false) : runF g d ts = runF g d (ts.take k) := by
  have : k = ts.length := by simp at hg; omega
  subst this; rw [List.take_length]
theorem step_fl (h : (ts[k]!).fl = true) : stepE g (runF g d (ts.take k)).1 ts[k]! = spendE g (runF g d (ts.take k)).1 ∧ stepD g (runF g d (ts.take k)).1 ts[k]! = flushD g (runF g d (ts.take k)).1 := by
  unfold stepE stepD; rw [h]; exact ⟨rfl, rfl⟩
theorem step_pu (h : (ts[k]!).fl = false) : stepE g (runF g d (ts.take k)).1 ts[k]! = putE g (runF g d (ts.take k)).1 (ts[k]!).pos (ts[k]!).b ∧ stepD g (runF g d (ts.take k)).1 ts[k]! = putD g (runF g d (ts.take k)).1 (ts[k]!).pos (ts[k]!).b := by
  unfold stepE stepD; rw [h]; exact ⟨rfl, rfl⟩
end
def doneV (s : DevD × Int) (j : JrnD) : AV := .tup [(endR s).1.av, (jEnd s.2 j).av, I s.2]
theorem done_10 {s : DevD × Int} {x : DevD} {e : Int} {j : JrnD} (h : s = (x, e)) (he : (e == 10) = true) : AV.tup [.agg [.d (.ro (x.safe.map secRow)), .d (.ro (x.cache.map WrD.row)), .d (.ro (x.vols.map VolD.row)), I x.fuel], .agg [I 0, I 0, I 0, I 0, I 0, I 0, I 0, I 0, I 0], I e] = doneV s j := by
  have : e = 10 := by simpa using he
  subst this; subst h; rfl
theorem done_e {s : DevD × Int} {x : DevD} {e : Int} {j : JrnD} (h : s = (x, e)) (he : (e == 10) = false) (h0 : e ≠ 0) : AV.tup [.agg [.d (.ro []), .d (.ro []), .d (.ro []), I 0], .agg [I 0, I 0, I 0, I 0, I 0, I 0, I 0, I 0, I 0], I e] = doneV s j := by
  have h1 : (e == 0) = false := by simpa using h0
  subst h; simp only [doneV, endR, jEnd, h1, he, Bool.false_or, Bool.true_or, Bool.or_true, Bool.or_false, Bool.and_true, Bool.true_and, Bool.false_and, Bool.and_false, Bool.not_true, Bool.not_false, cond_true, cond_false]; rfl
theorem done_0 {s : DevD × Int} {j : JrnD} (h0 : s.2 = 0) : AV.tup [.agg [.d (.ro (s.1.safe.map secRow)), .d (.ro (s.1.cache.map WrD.row)), .d (.ro (s.1.vols.map VolD.row)), I s.1.fuel], .agg [I j.gen, I j.epoch, I j.area, I j.length, I j.start, I j.first, I j.place, I j.next, I j.used], I 0] = doneV s j := by
  obtain ⟨x, e⟩ := s
  simp only at h0; subst h0; rfl
theorem ne10 {e : Int} (h : (e == 10) = true) : e ≠ 0 := by
  have : e = 10 := by simpa using h
  rw [this]; decide
theorem neB {e : Int} (h : (e != 0) = true) : e ≠ 0 := by simpa using h
theorem done_p (g : GeoD) (d : DevD) (ts : List TodD) (j : JrnD) (hwf : d.fit) : Pure Try.prog 43 [g.av, d.av, .d (.ro (ts.map TodD.row)), j.av] (doneV (runF g d ts) j) := by
  refine pureY_of follows Try.func43 c43_eq r43 (Nat.le_of_ble_eq_true rfl) fun B σ hcl hsz => ?_
  have hlen : ts.length ≤ 2 ^ 47 := by simpa using (show Sized (.ro (ts.map TodD.row)) from hsz (.d (.ro (ts.map TodD.row))) (by simp)).len
  clear hsz
  repeat' (first | (simp -implicitDefEqProofs only [*, contN, contC, Nat.reduceBEq, Bool.or_false, Bool.or_true, Bool.false_or, Bool.true_or, Bool.not_true, Bool.not_false, w_skip, w_ret, w_exit, w_reg, w_dreg, w_seq, SK_n, SK_r, SK_x, w_keep, w_block, w_cond, w_nil, w_cons, w_consg, w_nnil, w_ncons, w_dnil, w_dcons, w_dconsg, HK_app, HD_app, HQ_n, HQ_r, HQ_x, HQ_bn, HQ_br, HQ_bx, HQ_en, HQ_er, HQ_ex, CondB_true, CondB_false, SO1, w_sdv, SDe_alloc, SDe_box, SDe_bslice, SDe_app, true_imp_iff, false_imp_iff, and_false, false_and, not_false_eq_true, not_true_eq_false, addN, mkNames, killT, killD, killO, List.foldl_nil, List.foldl_cons, List.append_nil, List.nil_append, List.cons_append, GuardS_true, GuardS_false, GuardD_true, GuardD_false, DK_true, DK_false, lt_self_add, le_self_add, decide_true, decide_false, Bool.false_eq_true, Bool.true_eq_false, Nat.add_left_cancel_iff, SE, SEalloc, SEbox, SEstore, w_bs, SEbl, SEfz, SEbs0, fzName, osOf, AV.fz1, w_app, w_mk, aev, opd, Fr.get, putO, Fr.norm, List.map_cons, List.map_nil, with1, with2, onInt, AV.lit, entry, ↓reduceIte, Nat.reduceEqDiff, Nat.reduceAdd, reduceCtorEq, true_and, and_true, Option.map_some, Option.map_none, Option.bind_some, Option.bind_none, cond_true, cond_false, binV, unV, fieldV, loadV, sto, cellsAV, newF, newL, Fr.map, Loc.kill, Loc.set, AO.kill, AV.kill, AV.mapN, AV.mapNL, List.filter_nil, List.filter_cons, allP, EndV, retV, resV, resL, frz, dropL, AV.pick, nilV, tupV, imp_self, ne_eq, Int.cast_ofNat_Int, Int.reduceLT, Int.reduceToNat, List.getD_cons_zero, List.getD_cons_succ, bsliceV, buildV, afill, repl, chunk, rvs, AV.rv, RV.nrm, List.getElem?_nil, List.append_assoc, Nat.reduceMul, Nat.reducePow, Nat.zero_lt_succ, Nat.zero_add, Nat.add_zero, List.length_cons, List.length_nil, Nat.reduceLeDiff, Nat.le_refl, List.take_succ_cons, List.take_zero, List.drop_succ_cons, List.drop_zero, indexV, lenV, rowOf_mapD, rowOf_mapI, rowOf_mapA, List.length_map, Int.toNat_natCast, List.getElem?_cons_zero, List.getElem?_cons_succ, and_self, implies_true, if_true, if_false, HQ_zn, HQ_zr, HQ_wn, HQ_wr, AV.nz, AV.nzL, RV.nrm, SEbin, SEnil, nilK, srcV, dstV, appName, List.length_append, Nat.mul_one, take_map_len, take_map_app, List.getElem?_cons_zero, List.map_append, SEmkmap, SEmset, mgetV, kvOf, getM, setM, c43, r43, v43_1, u43_2, v43_3, u43_4, v43_5, v43_6, v43_7, v43_8, m43_8, u43_9, u43_10, v43_11, u43_12, u43_13, v43_14, u43_15, u43_16, u43_17, u43_18, u43_19, u43_20, u43_21, u43_22, u43_23, u43_24, u43_25, u43_26, u43_27, ty23, ty28, ty45, ty83, ty3, ty82, ty4, ty29, ty30, ty5, GeoD.av, GeoD.cells, DevD.av, DevD.cells, JrnD.av, JrnD.cells, TodD.row, bytes, HQ_yn, HQ_yr, Loc.nz, AO.nz, bne_self_eq_false, runF_nil]) | (with_reducible refine And.intro ?_ ?_) | (refine call_ro e66 ( flushedOf_p g (runF g d (ts.take k)).1 (runF_fit hwf _)) rfl ?_ ?_ ?_ ?_) | (refine gcall_ro e66 ( flushedOf_p g (runF g d (ts.take k)).1 (runF_fit hwf _)) rfl ?_ ?_ ?_ ?_) | (refine dcall_ro e66 ( flushedOf_p g (runF g d (ts.take k)).1 (runF_fit hwf _)) rfl ?_ ?_ ?_ ?_) | (refine gdcall_ro rfl e66 ( flushedOf_p g (runF g d (ts.take k)).1 (runF_fit hwf _)) rfl ?_ ?_ ?_ ?_) | (refine call_ro e67 ( putOf_p g (runF g d (ts.take k)).1 (ts[k]!).pos (ts[k]!).b (runF_fit hwf _)) rfl ?_ ?_ ?_ ?_) | (refine gcall_ro e67 ( putOf_p g (runF g d (ts.take k)).1 (ts[k]!).pos (ts[k]!).b (runF_fit hwf _)) rfl ?_ ?_ ?_ ?_) | (refine dcall_ro e67 ( putOf_p g (runF g d (ts.take k)).1 (ts[k]!).pos (ts[k]!).b (runF_fit hwf _)) rfl ?_ ?_ ?_ ?_) | (refine gdcall_ro rfl e67 ( putOf_p g (runF g d (ts.take k)).1 (ts[k]!).pos (ts[k]!).b (runF_fit hwf _)) rfl ?_ ?_ ?_ ?_) | (refine loop_nat (ts.length) (fun k => (runF g d (ts.take k)).2 = 0) (fun k => [(4, .lp (B + 4) 0), (2, .d (.ro (ts.map TodD.row))), (11, I k), (5, .lp (B + 5) 0), (7, .lp (B + 7) 0), (8, .lp (B + 8) 0), (9, .lp (B + 9) 0)]) (fun k => [(B + 4, .box g.cells), (B + 5, .box (runF g d (ts.take k)).1.cells), (B + 7, .box j.cells), (B + 8, .box [.d (.v (.slice none 0 0)), .d (.v (.slice none 0 0)), .d (.v (.slice none 0 0)), I 0]), (B + 9, .box [I 0, I 0, I 0, I 0, I 0, I 0, I 0, I 0, I 0])]) ?_ (Wk.keep hcl ?_ ?_ ?_) fun k hk hF => ?_; rotate_left 1; (focus (simp [Fr.get, newF, Fr.map, AV.kill, AV.mapN, GeoD.av, GeoD.cells, DevD.av, DevD.cells, JrnD.av, JrnD.cells, TodD.row, bytes, HQ_yn, HQ_yr, Loc.nz, AO.nz, bne_self_eq_false, runF_nil] <;> fail)); (focus (simp [sto, newL, Loc.kill, Loc.set, AO.kill, AV.kill, AV.mapN, GeoD.av, GeoD.cells, DevD.av, DevD.cells, JrnD.av, JrnD.cells, TodD.row, bytes, HQ_yn, HQ_yr, Loc.nz, AO.nz, bne_self_eq_false, runF_nil] <;> fail)); (focus (simp [newL, Loc.kill, Loc.set, GeoD.av, GeoD.cells, DevD.av, DevD.cells, JrnD.av, JrnD.cells, TodD.row, bytes, HQ_yn, HQ_yr, Loc.nz, AO.nz, bne_self_eq_false, runF_nil] <;> fail)); (try have hw : IntKind.i64.wrap ((k : Int) + 1) = (k : Int) + 1 := IntWalk.i64_in _ (by omega))) | (refine EndX.plain ?_) | (refine nil_split (fun hn => ?_) (fun hn => ?_)) | (refine gcall_no not_false ?_) | (refine gdcall_no not_false ?_) | (refine GuardS_of _ _ _ _ _ _ (fun hg => ?_) (fun hg => ?_)) | (refine GuardD_of _ _ _ _ (fun hg => ?_) (fun hg => ?_)) | (refine CondB_of _ _ _ _ _ _ _ ?_ (fun hg => ?_) (fun hg => ?_)))
  all_goals (try (first | ((first | unfold noN | unfold Fr.below | unfold Loc.below); simp [Fr.allN, AV.allN, AV.allNL, AO.allN]; done) | rfl | trivial | assumption | (intro row hrow; simp only [List.mem_map] at hrow; obtain ⟨x, _, rfl⟩ := hrow; rfl) | (refine Wk.keep hcl ?_ ?_ ?_; (focus (simp [Fr.get, GeoD.av, GeoD.cells, DevD.av, DevD.cells, JrnD.av, JrnD.cells, TodD.row, bytes, HQ_yn, HQ_yr, Loc.nz, AO.nz, bne_self_eq_false, runF_nil] <;> fail)); (focus (simp [sto, GeoD.av, GeoD.cells, DevD.av, DevD.cells, JrnD.av, JrnD.cells, TodD.row, bytes, HQ_yn, HQ_yr, Loc.nz, AO.nz, bne_self_eq_false, runF_nil] <;> fail)); (focus (simp <;> fail))) | (simp [allP, opd, Fr.get, Fr.below, Fr.allN, AV.allN, AV.allNL, Loc.below, AO.allN, noN, killO, killT, killD, mkNames, AO.kill, AV.kill, AV.mapN, AV.mapNL]; done) | (with_reducible exact ltD (by assumption)) | omega | (simp only [decide_eq_true_eq, decide_eq_false_iff_not] at *; omega)))
  all_goals first
    | (simp [avName, loadNames, opd, Fr.get]; done)
    | exact done_10 (run_no hF (dltL (by assumption)) (step_fl (by assumption)).1 (ne10 (by assumption))) (by assumption)
    | exact done_10 (run_no hF (dltL (by assumption)) (step_pu (by assumption)).1 (ne10 (by assumption))) (by assumption)
    | exact done_e (run_no hF (dltL (by assumption)) (step_fl (by assumption)).1 (neB (by assumption))) (by assumption) (neB (by assumption))
    | exact done_e (run_no hF (dltL (by assumption)) (step_pu (by assumption)).1 (neB (by assumption))) (by assumption) (neB (by assumption))
    | (rw [run_go hF (dltL (by assumption)) (step_fl (by assumption)).1 hg]; done)
    | (rw [run_go hF (dltL (by assumption)) (step_pu (by assumption)).1 hg]; done)
    | (rw [run_go hF (dltL (by assumption)) (step_fl (by assumption)).1 hg, (step_fl (by assumption)).2]
       refine Wk.keep hcl (by simp [Fr.get]) (by simp [sto]) (by simp))
    | (rw [run_go hF (dltL (by assumption)) (step_pu (by assumption)).1 hg, (step_pu (by assumption)).2]
       refine Wk.keep hcl (by simp [Fr.get]) (by simp [sto]) (by simp))
    | (rw [run_all hk hg]; exact done_0 hF)
attribute [irreducible] stepF
end Go.Proofs.Ytalhjhmphdgaoaa
