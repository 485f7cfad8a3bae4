/- state.Latest: the version that was put last. -/
import Derived.Test.YtobbkfldjemgkaaRgBV
import Derived.Test.YtobbkfldjemgkaaChkP
import Derived.Test.YtobbkfldjemgkaaLatOf
import Derived.Test.YtobbkfldjemgkaaTypes
namespace Go.Proofs.Ytobbkfldjemgkaa
open Go.RowKit
set_option maxRecDepth 100000
def c20_1 : SC := (.seq (.reg [SO.mk (some 2) (.move (.const (Value.slice none 0 0))) none]) (.keep [2] .ret))
theorem u20_1 : type_of% (@swc _ _ c20_1.eq_1) := @swc _ _ c20_1.eq_1
def c20_2 : SC := (.cond (.tmp 4) c20_1 .skip)
theorem u20_2 : type_of% (@swc _ _ c20_2.eq_1) := @swc _ _ c20_2.eq_1
def c20_3 : SC := (.seq (.reg [SO.mk (some 5) (.bslice 28 0 []) none, SO.mk (some 6) (.move (.tmp 0)) none, SO.mk (some 7) (.app 28 28 (.tmp 5) (.tmp 6)) none, SO.mk (some 2) (.move (.tmp 7)) none]) (.keep [2] .ret))
theorem u20_3 : type_of% (@swc _ _ c20_3.eq_1) := @swc _ _ c20_3.eq_1
def c20_4 : SC := (.seq (.seq (.reg [SO.mk (some 3) (.move (.tmp 0)) none, SO.mk (some 4) (.bin .eql 28 (.tmp 3) (.const (Value.slice none 0 0))) none]) (.keep [4, 0] c20_2)) (.keep [0] c20_3))
theorem u20_4 : type_of% (@swc _ _ c20_4.eq_1) := @swc _ _ c20_4.eq_1
def c20 : SC := (.seq (.reg [SO.mk (some 2) (.move (.const (Value.slice none 0 0))) none]) (.keep [0] c20_4))
theorem c20_eq : annC Try.f20 = some c20 := by kernel_rfl
theorem r20 : Try.f20.results.toList = [.tmp 2] := by kernel_rfl
end Go.Proofs.Ytobbkfldjemgkaa
namespace Go.Proofs.Ytobbkfldjemgkaa
open Go.RowKit Go.Shelf
set_option linter.unusedSimpArgs false
set_option linter.unusedVariables false
attribute [local go_sem] Oper.semAt_some
theorem rep_int {K : KS} {w : World} {n : Int} {x : Value} (h : Rep K w (I n) x) : x = .int .i64 n := by
  cases h with | d h => cases h; rfl
theorem rep_ro {K : KS} {w : World} {r : RV} {x : Value} (h : Rep K w (.d r) x) : RRep K.I w r x := by
  cases h with | d h => exact h
theorem rep_agg {K : KS} {w : World} {cs : List AV} {x : Value} (h : Rep K w (.agg cs) x) : ∃ xs : List Value, x = .agg xs.toArray ∧ cs.length = xs.length ∧ ∀ (i : Nat) (c : AV) (y : Value), cs[i]? = some c → xs[i]? = some y → Rep K w c y := by
  cases h with | agg h1 h2 h3 => exact ⟨_, rfl, h1, h2⟩
theorem old_blk {W : World} {b : Nat} {o : Obj} (h : W.heap[b]? = some o) (o' : Obj) : (W.alloc o').heap[b]? = some o := (Below.heap_alloc W o' b (Array.getElem?_eq_some_iff.1 h).1).trans h
theorem new_blk (W : World) (o : Obj) {b : Nat} (hb : W.heap.size = b) : (W.alloc o).heap[b]? = some o := by rw [← hb]; exact World.alloc_heap_new W o
def CellsI (I : Nat → Prop) (w : World) (b : Nat) : Prop := I b ∧ ∃ o, w.heap[b]? = some o ∧ o.isCells = true
theorem RRep.cells {I : Nat → Prop} {w : World} {r : RV} {x : Value} (h : RRep I w r x) : RRep (CellsI I w) w r x := by
  induction h with
  | v h => exact .v h
  | nil => exact .nil
  | ro h1 h2 h3 h4 h5 h6 h7 h8 ih =>
    rename_i rows b o cap k f
    refine .ro h1 ⟨h2, ?_⟩ h3 h4 h5 h6 h7 ih
    match rows, h1 with
    | r :: rs, _ =>
      have hl := h6 0 r rfl
      match r, hl with
      | [], hl => simp at hl; omega
      | c :: cs, hl =>
        have hc := h7 0 0 _ _ rfl rfl
        unfold World.cell? at hc
        cases hb : w.heap[b]? with
        | none => simp [hb] at hc
        | some ob =>
          refine ⟨ob, rfl, ?_⟩
          cases ob <;> simp [hb] at hc ⊢ <;> rfl
def CellsOnly (w : World) (I : Nat → Prop) (W : World) : Prop := ∀ b, I b → b < w.heap.size ∨ ∃ o, W.heap[b]? = some o ∧ o.isCells = true
theorem reps_one {I : Nat → Prop} {w : World} {r : RV} {x : Value} (hI : ∀ b, I b → b < w.heap.size) (h : RRep I w r x) : RepsI I w [.d r] [x] := ⟨hI, rfl, fun i c y hc hy => by
  match i, hc, hy with
  | 0, hc, hy => cases hc; cases hy; exact .d h⟩
theorem keeps_grow {B : Nat} {W W' : World} (h : Grow W W') : KeepsFrom B W W' := ⟨h.size, fun k o _ hk _ => (h.heap (Array.getElem?_eq_some_iff.1 hk).1).trans hk⟩
theorem rep_st {K : KS} {w : World} {s : SttD} {x : Value} (h : Rep K w s.av x) : ∃ b v u q gn : Value, x = .agg #[.int .i64 s.next, .int .i64 s.clock, b, v, u, q, gn] ∧ RRep K.I w (.ro (s.vers.map VerD.row)) v := by
  obtain ⟨xs, rfl, hl, hr⟩ := rep_agg h
  match xs, hl with
  | [a, b, c, d, e, f, g], _ =>
    have h0 := rep_int (hr 0 _ _ rfl rfl)
    have h1 := rep_int (hr 1 _ _ rfl rfl)
    subst h0 h1
    exact ⟨c, d, e, f, g, rfl, rep_ro (hr 3 _ _ rfl rfl)⟩
theorem rep_str {K : KS} {w : World} {s : ByteArray} {x : Value} (h : Rep K w (.d (.v (.string s))) x) : x = .string s := by
  cases h with | d h => cases h; rfl
structure VerAt (I : Nat → Prop) (w : World) (v : VerD) (c : Nat → Value) : Prop where
  h0 : c 0 = .int .i64 v.id
  h1 : c 1 = .string v.bkt
  h2 : c 2 = .string v.key
  h3 : c 3 = .bool v.null
  h4 : c 4 = .bool v.mark
  h5 : c 5 = .int .i64 v.size
  h6 : c 6 = .int .i64 v.time
  h7 : c 7 = .int .i64 v.tier
  h8 : RRep I w (ints v.secs) (c 8)
  h9 : c 9 = .int .i64 v.vol
  h10 : c 10 = .int .i64 v.pos
  h11 : c 11 = .int .i64 v.till
theorem rv_v {I : Nat → Prop} {w : World} {x y : Value} (h : RRep I w (.v x) y) : y = x := by cases h; rfl
theorem rows_ver {I : Nat → Prop} {w : World} {l : List VerD} {x : Value} (h : RRep I w (.ro (l.map VerD.row)) x) : ∃ (a : Option Addr) (cap : Nat) (c : Nat → Nat → Value), x = .slice a l.length cap ∧ l.length ≤ 2 ^ 47 ∧ (l.length = 0 ∨ ∃ (b o : Nat), a = some ⟨b, o, none⟩ ∧ I b ∧ ∀ i, i < l.length → (∀ j, j < 12 → w.cell? ⟨b, o + i * 12 + j, none⟩ = some (c i j)) ∧ VerAt I w l[i]! (c i)) := by
  generalize hr : l.map VerD.row = rows at h
  cases h with
  | nil =>
    have hl : l = [] := by simpa using hr
    subst hl
    exact ⟨_, _, fun _ _ => undef, rfl, by simp, .inl rfl⟩
  | ro h1 h2 h3 h4 h5 h6 h7 h8 =>
    rename_i b o cap k f
    subst hr
    refine ⟨some ⟨b, o, none⟩, cap, f, by simp, by simpa using h4, .inr ⟨b, o, rfl, h2, fun i hi => ?_⟩⟩
    have hrow : (l.map VerD.row)[i]? = some (VerD.row l[i]!) := by rw [List.getElem?_map, List.getElem?_eq_getElem hi, getElem!_pos l i hi]; rfl
    have hk : k = 12 := (h6 i _ hrow).symm
    subst hk
    refine ⟨fun j hj => ?_, ?_⟩
    · have : ∃ r, (VerD.row l[i]!)[j]? = some r := ⟨_, List.getElem?_eq_getElem (by simpa [VerD.row] using hj)⟩
      obtain ⟨r, hr⟩ := this
      rw [Nat.add_assoc]; exact h7 i j _ r hrow hr
    · exact ⟨rv_v (h8 i 0 _ _ hrow rfl), rv_v (h8 i 1 _ _ hrow rfl), rv_v (h8 i 2 _ _ hrow rfl), rv_v (h8 i 3 _ _ hrow rfl), rv_v (h8 i 4 _ _ hrow rfl), rv_v (h8 i 5 _ _ hrow rfl), rv_v (h8 i 6 _ _ hrow rfl), rv_v (h8 i 7 _ _ hrow rfl), h8 i 8 _ _ hrow rfl, rv_v (h8 i 9 _ _ hrow rfl), rv_v (h8 i 10 _ _ hrow rfl), rv_v (h8 i 11 _ _ hrow rfl)⟩
def lastV (l : List VerD) (name key : ByteArray) : Nat → Option VerD
  | 0 => none
  | k + 1 => bif forB l[k]! name key then some l[k]! else lastV l name key k
def optV : Option VerD → AV
  | some v => .tup [.agg (v.row.map .d), Bo true, I 0]
  | none => .tup [.agg (verZ.row.map .d), Bo false, I 0]
def lat2 (s : SttD) (name key : ByteArray) : AV := bif mayF s then optV (lastV s.vers name key s.vers.length) else .tup [.agg (verZ.row.map .d), Bo false, I 9]
theorem cloneL_p (l : List Int) (h : l.length * 8 ≤ 2 ^ 47) : Pure Try.prog 20 [.d (ints l)] (.d (ints l)) := by
  refine pureZ_of follows Try.func20 c20_eq r20 (Nat.le_of_ble_eq_true rfl) fun B σ hcl hsz => ?_
  clear hsz
  repeat' (first | (simp -implicitDefEqProofs only [*, contN, contC, Nat.reduceBEq, Bool.or_false, Bool.or_true, Bool.false_or, Bool.true_or, Bool.not_true, Bool.not_false, w_skip, w_ret, w_exit, w_reg, w_dreg, w_seq, SK_n, SK_r, SK_x, w_keep, w_block, w_cond, w_nil, w_cons, w_consg, w_nnil, w_ncons, w_dnil, w_dcons, w_dconsg, HK_app, HD_app, HQ_n, HQ_r, HQ_x, HQ_bn, HQ_br, HQ_bx, HQ_en, HQ_er, HQ_ex, CondB_true, CondB_false, SO1, w_sdv, SDe_alloc, SDe_box, SDe_bslice, SDe_app, true_imp_iff, false_imp_iff, and_false, false_and, not_false_eq_true, not_true_eq_false, addN, mkNames, killT, killD, killO, List.foldl_nil, List.foldl_cons, List.append_nil, List.nil_append, List.cons_append, GuardS_true, GuardS_false, GuardD_true, GuardD_false, DK_true, DK_false, lt_self_add, le_self_add, decide_true, decide_false, Bool.false_eq_true, Bool.true_eq_false, Nat.add_left_cancel_iff, SE, SEalloc, SEbox, SEstore, w_bs, SEbl, SEfz, SEbs0, fzName, osOf, AV.fz1, w_app, w_mk, aev, opd, Fr.get, putO, Fr.norm, List.map_cons, List.map_nil, with1, with2, onInt, AV.lit, entry, ↓reduceIte, Nat.reduceEqDiff, Nat.reduceAdd, reduceCtorEq, true_and, and_true, Option.map_some, Option.map_none, Option.bind_some, Option.bind_none, cond_true, cond_false, binV, unV, fieldV, loadV, sto, cellsAV, newF, newL, Fr.map, Loc.kill, Loc.set, AO.kill, AV.kill, AV.mapN, AV.mapNL, List.filter_nil, List.filter_cons, allP, EndV, retV, resV, resL, frz, dropL, AV.pick, nilV, tupV, imp_self, ne_eq, Int.cast_ofNat_Int, Int.reduceLT, Int.reduceToNat, List.getD_cons_zero, List.getD_cons_succ, bsliceV, buildV, afill, repl, chunk, rvs, AV.rv, RV.nrm, List.getElem?_nil, List.append_assoc, Nat.reduceMul, Nat.reducePow, Nat.zero_lt_succ, Nat.zero_add, Nat.add_zero, List.length_cons, List.length_nil, Nat.reduceLeDiff, Nat.le_refl, List.take_succ_cons, List.take_zero, List.drop_succ_cons, List.drop_zero, indexV, lenV, rowOf_mapD, rowOf_mapI, rowOf_mapA, List.length_map, Int.toNat_natCast, List.getElem?_cons_zero, List.getElem?_cons_succ, and_self, implies_true, if_true, if_false, HQ_zn, HQ_zr, HQ_wn, HQ_wr, AV.nz, AV.nzL, RV.nrm, SEbin, SEnil, nilK, srcV, dstV, appName, List.length_append, Nat.mul_one, take_map_len, take_map_app, List.getElem?_cons_zero, List.map_append, SEmkmap, SEmset, mgetV, kvOf, getM, setM, c20, r20, u20_1, u20_2, u20_3, u20_4, ty28, ty3, ints]) | (with_reducible refine And.intro ?_ ?_) | (refine EndX.plain ?_) | (refine nil_split (fun hn => ?_) (fun hn => ?_)) | (refine gcall_no not_false ?_) | (refine gdcall_no not_false ?_) | (refine GuardS_of _ _ _ _ _ _ (fun hg => ?_) (fun hg => ?_)) | (refine GuardD_of _ _ _ _ (fun hg => ?_) (fun hg => ?_)) | (refine CondB_of _ _ _ _ _ _ _ ?_ (fun hg => ?_) (fun hg => ?_)))
  all_goals (try (first | ((first | unfold noN | unfold Fr.below | unfold Loc.below); simp [Fr.allN, AV.allN, AV.allNL, AO.allN]; done) | rfl | trivial | assumption | (intro row hrow; simp only [List.mem_map] at hrow; obtain ⟨x, _, rfl⟩ := hrow; rfl) | (refine Wk.keep hcl ?_ ?_ ?_; (focus (simp [Fr.get, ints] <;> fail)); (focus (simp [sto, ints] <;> fail)); (focus (simp <;> fail))) | (simp [allP, opd, Fr.get, Fr.below, Fr.allN, AV.allN, AV.allNL, Loc.below, AO.allN, noN, killO, killT, killD, mkNames, AO.kill, AV.kill, AV.mapN, AV.mapNL]; done) | (with_reducible exact ltD (by assumption)) | omega | (simp only [decide_eq_true_eq, decide_eq_false_iff_not] at *; omega)))
theorem cell_set {W : World} {b : Nat} {c : Array Value} {t : TypeId} (off : Nat) (v : Value) (h : W.heap[b]? = some (.cells c t (0, 0))) : (W.setCell ⟨b, off, none⟩ v).heap[b]? = some (.cells (c.setIfInBounds off v) t (0, 0)) := by
  simp [World.setCell, Array.getElem?_modify, h]
def set12 (W : World) (b : Nat) (x0 x1 x2 x3 x4 x5 x6 x7 x8 x9 x10 x11 : Value) : World := ((((((((((((W.setCell ⟨b, 0, none⟩ x0).setCell ⟨b, 1, none⟩ x1).setCell ⟨b, 2, none⟩ x2).setCell ⟨b, 3, none⟩ x3).setCell ⟨b, 4, none⟩ x4).setCell ⟨b, 5, none⟩ x5).setCell ⟨b, 6, none⟩ x6).setCell ⟨b, 7, none⟩ x7).setCell ⟨b, 8, none⟩ x8).setCell ⟨b, 9, none⟩ x9).setCell ⟨b, 10, none⟩ x10).setCell ⟨b, 11, none⟩ x11)
theorem set12_own {W : World} {b : Nat} {t : TypeId} {v0 v1 v2 v3 v4 v5 v6 v7 v8 v9 v10 v11 : Value} (x0 x1 x2 x3 x4 x5 x6 x7 x8 x9 x10 x11 : Value) (h : W.heap[b]? = some (.cells #[v0, v1, v2, v3, v4, v5, v6, v7, v8, v9, v10, v11] t (0, 0))) : (set12 W b x0 x1 x2 x3 x4 x5 x6 x7 x8 x9 x10 x11).heap[b]? = some (.cells #[x0, x1, x2, x3, x4, x5, x6, x7, x8, x9, x10, x11] t (0, 0)) := by
  unfold set12
  have h0 : (W.setCell ⟨b, 0, none⟩ x0).heap[b]? = some (.cells #[x0, v1, v2, v3, v4, v5, v6, v7, v8, v9, v10, v11] t (0, 0)) := cell_set 0 x0 h
  have h1 : ((W.setCell ⟨b, 0, none⟩ x0).setCell ⟨b, 1, none⟩ x1).heap[b]? = some (.cells #[x0, x1, v2, v3, v4, v5, v6, v7, v8, v9, v10, v11] t (0, 0)) := cell_set 1 x1 h0
  have h2 : (((W.setCell ⟨b, 0, none⟩ x0).setCell ⟨b, 1, none⟩ x1).setCell ⟨b, 2, none⟩ x2).heap[b]? = some (.cells #[x0, x1, x2, v3, v4, v5, v6, v7, v8, v9, v10, v11] t (0, 0)) := cell_set 2 x2 h1
  have h3 : ((((W.setCell ⟨b, 0, none⟩ x0).setCell ⟨b, 1, none⟩ x1).setCell ⟨b, 2, none⟩ x2).setCell ⟨b, 3, none⟩ x3).heap[b]? = some (.cells #[x0, x1, x2, x3, v4, v5, v6, v7, v8, v9, v10, v11] t (0, 0)) := cell_set 3 x3 h2
  have h4 : (((((W.setCell ⟨b, 0, none⟩ x0).setCell ⟨b, 1, none⟩ x1).setCell ⟨b, 2, none⟩ x2).setCell ⟨b, 3, none⟩ x3).setCell ⟨b, 4, none⟩ x4).heap[b]? = some (.cells #[x0, x1, x2, x3, x4, v5, v6, v7, v8, v9, v10, v11] t (0, 0)) := cell_set 4 x4 h3
  have h5 : ((((((W.setCell ⟨b, 0, none⟩ x0).setCell ⟨b, 1, none⟩ x1).setCell ⟨b, 2, none⟩ x2).setCell ⟨b, 3, none⟩ x3).setCell ⟨b, 4, none⟩ x4).setCell ⟨b, 5, none⟩ x5).heap[b]? = some (.cells #[x0, x1, x2, x3, x4, x5, v6, v7, v8, v9, v10, v11] t (0, 0)) := cell_set 5 x5 h4
  have h6 : (((((((W.setCell ⟨b, 0, none⟩ x0).setCell ⟨b, 1, none⟩ x1).setCell ⟨b, 2, none⟩ x2).setCell ⟨b, 3, none⟩ x3).setCell ⟨b, 4, none⟩ x4).setCell ⟨b, 5, none⟩ x5).setCell ⟨b, 6, none⟩ x6).heap[b]? = some (.cells #[x0, x1, x2, x3, x4, x5, x6, v7, v8, v9, v10, v11] t (0, 0)) := cell_set 6 x6 h5
  have h7 : ((((((((W.setCell ⟨b, 0, none⟩ x0).setCell ⟨b, 1, none⟩ x1).setCell ⟨b, 2, none⟩ x2).setCell ⟨b, 3, none⟩ x3).setCell ⟨b, 4, none⟩ x4).setCell ⟨b, 5, none⟩ x5).setCell ⟨b, 6, none⟩ x6).setCell ⟨b, 7, none⟩ x7).heap[b]? = some (.cells #[x0, x1, x2, x3, x4, x5, x6, x7, v8, v9, v10, v11] t (0, 0)) := cell_set 7 x7 h6
  have h8 : (((((((((W.setCell ⟨b, 0, none⟩ x0).setCell ⟨b, 1, none⟩ x1).setCell ⟨b, 2, none⟩ x2).setCell ⟨b, 3, none⟩ x3).setCell ⟨b, 4, none⟩ x4).setCell ⟨b, 5, none⟩ x5).setCell ⟨b, 6, none⟩ x6).setCell ⟨b, 7, none⟩ x7).setCell ⟨b, 8, none⟩ x8).heap[b]? = some (.cells #[x0, x1, x2, x3, x4, x5, x6, x7, x8, v9, v10, v11] t (0, 0)) := cell_set 8 x8 h7
  have h9 : ((((((((((W.setCell ⟨b, 0, none⟩ x0).setCell ⟨b, 1, none⟩ x1).setCell ⟨b, 2, none⟩ x2).setCell ⟨b, 3, none⟩ x3).setCell ⟨b, 4, none⟩ x4).setCell ⟨b, 5, none⟩ x5).setCell ⟨b, 6, none⟩ x6).setCell ⟨b, 7, none⟩ x7).setCell ⟨b, 8, none⟩ x8).setCell ⟨b, 9, none⟩ x9).heap[b]? = some (.cells #[x0, x1, x2, x3, x4, x5, x6, x7, x8, x9, v10, v11] t (0, 0)) := cell_set 9 x9 h8
  have h10 : (((((((((((W.setCell ⟨b, 0, none⟩ x0).setCell ⟨b, 1, none⟩ x1).setCell ⟨b, 2, none⟩ x2).setCell ⟨b, 3, none⟩ x3).setCell ⟨b, 4, none⟩ x4).setCell ⟨b, 5, none⟩ x5).setCell ⟨b, 6, none⟩ x6).setCell ⟨b, 7, none⟩ x7).setCell ⟨b, 8, none⟩ x8).setCell ⟨b, 9, none⟩ x9).setCell ⟨b, 10, none⟩ x10).heap[b]? = some (.cells #[x0, x1, x2, x3, x4, x5, x6, x7, x8, x9, x10, v11] t (0, 0)) := cell_set 10 x10 h9
  have h11 : ((((((((((((W.setCell ⟨b, 0, none⟩ x0).setCell ⟨b, 1, none⟩ x1).setCell ⟨b, 2, none⟩ x2).setCell ⟨b, 3, none⟩ x3).setCell ⟨b, 4, none⟩ x4).setCell ⟨b, 5, none⟩ x5).setCell ⟨b, 6, none⟩ x6).setCell ⟨b, 7, none⟩ x7).setCell ⟨b, 8, none⟩ x8).setCell ⟨b, 9, none⟩ x9).setCell ⟨b, 10, none⟩ x10).setCell ⟨b, 11, none⟩ x11).heap[b]? = some (.cells #[x0, x1, x2, x3, x4, x5, x6, x7, x8, x9, x10, x11] t (0, 0)) := cell_set 11 x11 h10
  exact h11
theorem set12_other {W : World} {b k : Nat} (x0 x1 x2 x3 x4 x5 x6 x7 x8 x9 x10 x11 : Value) (hk : k ≠ b) : (set12 W b x0 x1 x2 x3 x4 x5 x6 x7 x8 x9 x10 x11).heap[k]? = W.heap[k]? := by
  unfold set12
  rw [Below.heap_setCell _ ⟨b, 11, none⟩ _ k hk, Below.heap_setCell _ ⟨b, 10, none⟩ _ k hk, Below.heap_setCell _ ⟨b, 9, none⟩ _ k hk, Below.heap_setCell _ ⟨b, 8, none⟩ _ k hk, Below.heap_setCell _ ⟨b, 7, none⟩ _ k hk, Below.heap_setCell _ ⟨b, 6, none⟩ _ k hk, Below.heap_setCell _ ⟨b, 5, none⟩ _ k hk, Below.heap_setCell _ ⟨b, 4, none⟩ _ k hk, Below.heap_setCell _ ⟨b, 3, none⟩ _ k hk, Below.heap_setCell _ ⟨b, 2, none⟩ _ k hk, Below.heap_setCell _ ⟨b, 1, none⟩ _ k hk, Below.heap_setCell _ ⟨b, 0, none⟩ _ k hk]
theorem set12_size (W : World) (b : Nat) (x0 x1 x2 x3 x4 x5 x6 x7 x8 x9 x10 x11 : Value) : (set12 W b x0 x1 x2 x3 x4 x5 x6 x7 x8 x9 x10 x11).heap.size = W.heap.size := by
  unfold set12
  simp
theorem set12_grow {w W : World} {b : Nat} (h : Grow w W) (hb : w.heap.size ≤ b) (x0 x1 x2 x3 x4 x5 x6 x7 x8 x9 x10 x11 : Value) : Grow w (set12 W b x0 x1 x2 x3 x4 x5 x6 x7 x8 x9 x10 x11) := by
  unfold set12
  exact ((((((((((((h.setCell hb x0).setCell hb x1).setCell hb x2).setCell hb x3).setCell hb x4).setCell hb x5).setCell hb x6).setCell hb x7).setCell hb x8).setCell hb x9).setCell hb x10).setCell hb x11)
theorem fin_lat {W : World} {n3 n4 n5 : Nat} {x0 x1 x2 x3 x4 x5 x6 x7 x8 x9 x10 x11 y z : Value} (b3 : W.heap[n3]? = some (.cells #[x0, x1, x2, x3, x4, x5, x6, x7, x8, x9, x10, x11] 37 (0, 0))) (b4 : W.heap[n4]? = some (.cells #[y] 4 (0, 0))) (b5 : W.heap[n5]? = some (.cells #[z] 31 (0, 0))) (tmps : Array Value) (h6 : tmps.getD 6 undef = .pointer (some ⟨n3, 0, none⟩)) (h7 : tmps.getD 7 undef = .pointer (some ⟨n4, 0, none⟩)) (h8 : tmps.getD 8 undef = .pointer (some ⟨n5, 0, none⟩)) :
    (results Try.f8 tmps).run Try.prog W = .ok (.tuple #[.agg #[x0, x1, x2, x3, x4, x5, x6, x7, x8, x9, x10, x11], y, z]) W := by
  have c0 : W.cell? ⟨n3, 0, none⟩ = some x0 := by simp [World.cell?, b3]
  have c1 : W.cell? ⟨n3, 1, none⟩ = some x1 := by simp [World.cell?, b3]
  have c2 : W.cell? ⟨n3, 2, none⟩ = some x2 := by simp [World.cell?, b3]
  have c3 : W.cell? ⟨n3, 3, none⟩ = some x3 := by simp [World.cell?, b3]
  have c4 : W.cell? ⟨n3, 4, none⟩ = some x4 := by simp [World.cell?, b3]
  have c5 : W.cell? ⟨n3, 5, none⟩ = some x5 := by simp [World.cell?, b3]
  have c6 : W.cell? ⟨n3, 6, none⟩ = some x6 := by simp [World.cell?, b3]
  have c7 : W.cell? ⟨n3, 7, none⟩ = some x7 := by simp [World.cell?, b3]
  have c8 : W.cell? ⟨n3, 8, none⟩ = some x8 := by simp [World.cell?, b3]
  have c9 : W.cell? ⟨n3, 9, none⟩ = some x9 := by simp [World.cell?, b3]
  have c10 : W.cell? ⟨n3, 10, none⟩ = some x10 := by simp [World.cell?, b3]
  have c11 : W.cell? ⟨n3, 11, none⟩ = some x11 := by simp [World.cell?, b3]
  have d4 : W.cell? ⟨n4, 0, none⟩ = some y := by simp [World.cell?, b4]
  have d5 : W.cell? ⟨n5, 0, none⟩ = some z := by simp [World.cell?, b5]
  have hr : Try.f8.results = #[.cell 6 37, .cell 7 4, .cell 8 31] := by kernel_rfl
  rw [Array.getD_eq_getD_getElem?] at h6 h7 h8
  simp [results, hr, go_sem, h6, h7, h8, d4, d5, c0, c1, c2, c3, c4, c5, c6, c7, c8, c9, c10, c11]
def zc : Nat → Value
  | 0 => Value.int IntKind.i64 0
  | 1 => Value.string ⟨#[]⟩
  | 2 => Value.string ⟨#[]⟩
  | 3 => Value.bool false
  | 4 => Value.bool false
  | 5 => Value.int IntKind.i64 0
  | 6 => Value.int IntKind.i64 0
  | 7 => Value.int IntKind.i64 0
  | 8 => Value.slice none 0 0
  | 9 => Value.int IntKind.i64 0
  | 10 => Value.int IntKind.i64 0
  | _ => Value.int IntKind.i64 0
theorem ver_z (I : Nat → Prop) (w : World) : VerAt I w verZ zc := ⟨rfl, rfl, rfl, rfl, rfl, rfl, rfl, rfl, .nil, rfl, rfl, rfl⟩
theorem rep_ver {I : Nat → Prop} {w : World} {v : VerD} {c : Nat → Value} (h : VerAt I w v c) : Rep (KI I) w (.agg (v.row.map .d)) (.agg #[c 0, c 1, c 2, c 3, c 4, c 5, c 6, c 7, c 8, c 9, c 10, c 11]) := by
  refine Rep.agg (cs := v.row.map .d) (xs := [c 0, c 1, c 2, c 3, c 4, c 5, c 6, c 7, c 8, c 9, c 10, c 11]) rfl (fun i c' y hc hy => ?_) (fun x hx => ?_)
  have one : ∀ {x y : Value}, x.oneCell' = true → y = x → Rep (KI I) w (.d (.v x)) y := fun ho e => by subst e; exact .d (.v ho)
  · match i, hc, hy with
    | 0, hc, hy => cases hc; cases hy; exact one rfl h.h0
    | 1, hc, hy => cases hc; cases hy; exact one rfl h.h1
    | 2, hc, hy => cases hc; cases hy; exact one rfl h.h2
    | 3, hc, hy => cases hc; cases hy; exact one rfl h.h3
    | 4, hc, hy => cases hc; cases hy; exact one rfl h.h4
    | 5, hc, hy => cases hc; cases hy; exact one rfl h.h5
    | 6, hc, hy => cases hc; cases hy; exact one rfl h.h6
    | 7, hc, hy => cases hc; cases hy; exact one rfl h.h7
    | 8, hc, hy => cases hc; cases hy; exact .d h.h8
    | 9, hc, hy => cases hc; cases hy; exact one rfl h.h9
    | 10, hc, hy => cases hc; cases hy; exact one rfl h.h10
    | 11, hc, hy => cases hc; cases hy; exact one rfl h.h11
  · simp only [List.mem_cons, List.not_mem_nil, or_false] at hx
    rcases hx with rfl | rfl | rfl | rfl | rfl | rfl | rfl | rfl | rfl | rfl | rfl | rfl
    · rw [h.h0]; rfl
    · rw [h.h1]; rfl
    · rw [h.h2]; rfl
    · rw [h.h3]; rfl
    · rw [h.h4]; rfl
    · rw [h.h5]; rfl
    · rw [h.h6]; rfl
    · rw [h.h7]; rfl
    · exact h.h8.one
    · rw [h.h9]; rfl
    · rw [h.h10]; rfl
    · rw [h.h11]; rfl
theorem rep_three {I : Nat → Prop} {w : World} {a : AV} {x : Value} {b : Bool} {n : Int} (h : Rep (KI I) w a x) : Rep (KI I) w (.tup [a, AV.d (.v (.bool b)), AV.d (.v (.int .i64 n))]) (.tuple #[x, .bool b, .int .i64 n]) := by
  refine Rep.tup (cs := [a, AV.d (.v (.bool b)), AV.d (.v (.int .i64 n))]) (xs := [x, .bool b, .int .i64 n]) rfl fun i c y hc hy => ?_
  match i, hc, hy with
  | 0, hc, hy => cases hc; cases hy; exact h
  | 1, hc, hy => cases hc; cases hy; exact .d (.v rfl)
  | 2, hc, hy => cases hc; cases hy; exact .d (.v rfl)
theorem VerAt.cells {I : Nat → Prop} {w : World} {v : VerD} {c : Nat → Value} (h : VerAt I w v c) : VerAt (CellsI I w) w v c := { h with h8 := h.h8.cells }
theorem VerAt.up {I I' : Nat → Prop} {w w' : World} {v : VerD} {c : Nat → Value} (h : VerAt I w v c) (hI : ∀ b, I b → I' b) (hk : Keep I w w') : VerAt I' w' v c := { h with h8 := h.h8.up hI hk }
def FinL (n3 n4 n5 : Nat) (args : List AV) (xs : List Value) (w W : World) (v : VerD) : Prop := ∃ c : Nat → Value, W.heap[n3]? = some (.cells #[c 0, c 1, c 2, c 3, c 4, c 5, c 6, c 7, c 8, c 9, c 10, c 11] 37 (0, 0)) ∧ W.heap[n4]? = some (.cells #[.bool true] 4 (0, 0)) ∧ W.heap[n5]? = some (.cells #[.int .i64 0] 31 (0, 0)) ∧ Grow w W ∧ ∀ I, RepsI I w args xs → ∃ I', UpI I I' w W ∧ CellsOnly w I' W ∧ VerAt I' W v c
theorem FinL.grown {n3 n4 n5 : Nat} {args : List AV} {xs : List Value} {w W W' : World} {v : VerD} {row : Option Nat} {B : Nat} (h : FinL n3 n4 n5 args xs w W v) (hg : W.grownBy W' row) (hB : w.heap.size ≤ B) (hr : ∀ k, row = some k → B ≤ k ∧ ∃ o : Obj, W.heap[k]? = some o ∧ o.isCells = false) : FinL n3 n4 n5 args xs w W' v := by
  obtain ⟨c, h3, h4, h5, h6, h7⟩ := h
  have kp : ∀ {n : Nat} {cs : Array Value} {t : TypeId}, W.heap[n]? = some (.cells cs t (0, 0)) → W'.heap[n]? = some (.cells cs t (0, 0)) := fun {n cs t} hb => (hg.block n (Array.getElem?_eq_some_iff.1 hb).1 fun e => by
    obtain ⟨_, o, ho, hc⟩ := hr n e.symm
    rw [hb] at ho; cases ho; cases hc).trans hb
  refine ⟨c, kp h3, kp h4, kp h5, Below.grown h6 hg h6.size (fun k e => Nat.le_trans hB (hr k e).1), fun I hI => ?_⟩
  obtain ⟨I', ⟨u1, u2, u3⟩, hc, hR⟩ := h7 I hI
  have key : ∀ b, I' b → W'.heap[b]? = W.heap[b]? := fun b hb => hg.block b (u3 b hb) fun e => by
    obtain ⟨h1, o, ho, hn⟩ := hr b e.symm
    rcases hc b hb with h2 | ⟨o', ho', hc'⟩
    · omega
    · rw [ho] at ho'; cases ho'; rw [hn] at hc'; cases hc'
  refine ⟨I', ⟨u1, u2, fun b hb => Nat.lt_of_lt_of_le (u3 b hb) hg.size⟩, fun b hb => ?_, hR.up (fun _ h => h) ⟨hg.os, hg.tape, hg.output, hg.size, key⟩⟩
  rcases hc b hb with h2 | ⟨o, ho, hcc⟩
  · exact .inl h2
  · exact .inr ⟨o, by rw [key b hb]; exact ho, hcc⟩
theorem fin_cloneL {n3 n4 n5 Bx : Nat} {args : List AV} {xs : List Value} {w W W3 Wf : World} {v : VerD} {c : Nat → Value} (hgw : Grow w W) (hg3 : Grow W W3) (hgf : Grow w Wf)
    (l3 : w.heap.size ≤ n3 ∧ n3 < W.heap.size) (l4 : w.heap.size ≤ n4 ∧ n4 < W.heap.size) (l5 : w.heap.size ≤ n5 ∧ n5 < W.heap.size) (lx : w.heap.size ≤ Bx ∧ Bx < W.heap.size)
    (hk : ∀ b, b ≠ Bx → b ≠ n3 → b ≠ n4 → b ≠ n5 → Wf.heap[b]? = W3.heap[b]?) (hs : W3.heap.size ≤ Wf.heap.size) (e1 : Wf.os = W3.os) (e2 : Wf.tape = W3.tape) (e3 : Wf.output = W3.output)
    (b3 : Wf.heap[n3]? = some (.cells #[c 0, c 1, c 2, c 3, c 4, c 5, c 6, c 7, c 8, c 9, c 10, c 11] 37 (0, 0))) (b4 : Wf.heap[n4]? = some (.cells #[.bool true] 4 (0, 0))) (b5 : Wf.heap[n5]? = some (.cells #[.int .i64 0] 31 (0, 0)))
    (hI : ∀ I, RepsI I w args xs → ∃ I', UpI I I' W W3 ∧ VerAt I' W3 v c) : FinL n3 n4 n5 args xs w Wf v := by
  refine ⟨c, b3, b4, b5, hgf, fun I hI0 => ?_⟩
  obtain ⟨I', ⟨u1, u2, u3⟩, hR⟩ := hI I hI0
  have hsz := hgw.size
  have keyI : ∀ b, I' b → Wf.heap[b]? = W3.heap[b]? := fun b hb => by
    have h1 : b < w.heap.size ∨ W.heap.size ≤ b := (u2 b hb).elim (fun h => .inl (hI0.1 b h)) .inr
    refine hk b ?_ ?_ ?_ ?_ <;> omega
  refine ⟨fun b => I b ∨ CellsI I' W3 b, ⟨fun b hb => .inl hb, fun b hb => ?_, fun b hb => ?_⟩, fun b hb => ?_, hR.cells.up (I' := fun b => I b ∨ CellsI I' W3 b) (w' := Wf) (fun b hb => .inr hb) (show Keep (CellsI I' W3) W3 Wf from ⟨e1, e2, e3, hs, fun b hb => keyI b hb.1⟩)⟩
  · rcases hb with hb | hb
    · exact .inl hb
    · rcases u2 b hb.1 with h | h
      · exact .inl h
      · exact .inr (by omega)
  · rcases hb with hb | hb
    · have := hI0.1 b hb
      have := hg3.size
      omega
    · have := u3 b hb.1
      omega
  · rcases hb with hb | hb
    · exact .inl (hI0.1 b hb)
    · obtain ⟨hb1, o, ho, hc⟩ := hb
      exact .inr ⟨o, by rw [keyI b hb1]; exact ho, hc⟩
theorem set_os (W : World) (a : Addr) (v : Value) : (W.setCell a v).os = W.os := rfl
theorem set12_os (W : World) (b : Nat) (x0 x1 x2 x3 x4 x5 x6 x7 x8 x9 x10 x11 : Value) : (set12 W b x0 x1 x2 x3 x4 x5 x6 x7 x8 x9 x10 x11).os = W.os := by
  unfold set12
  simp only [set_os]
theorem set_tape (W : World) (a : Addr) (v : Value) : (W.setCell a v).tape = W.tape := rfl
theorem set12_tape (W : World) (b : Nat) (x0 x1 x2 x3 x4 x5 x6 x7 x8 x9 x10 x11 : Value) : (set12 W b x0 x1 x2 x3 x4 x5 x6 x7 x8 x9 x10 x11).tape = W.tape := by
  unfold set12
  simp only [set_tape]
theorem set_output (W : World) (a : Addr) (v : Value) : (W.setCell a v).output = W.output := rfl
theorem set12_output (W : World) (b : Nat) (x0 x1 x2 x3 x4 x5 x6 x7 x8 x9 x10 x11 : Value) : (set12 W b x0 x1 x2 x3 x4 x5 x6 x7 x8 x9 x10 x11).output = W.output := by
  unfold set12
  simp only [set_output]
theorem size_set (W : World) (a : Addr) (v : Value) : (W.setCell a v).heap.size = W.heap.size := by simp
theorem fin_clone12 {n3 n4 n5 Bx : Nat} {args : List AV} {xs : List Value} {w W W3 : World} {v : VerD} (c : Nat → Value) {y z0 z1 z2 z3 z4 z5 z6 z7 z8 z9 z10 z11 zb ze : Value} (hgw : Grow w W) (hg3 : Grow W W3)
    (l3 : w.heap.size ≤ n3 ∧ n3 < W.heap.size) (l4 : w.heap.size ≤ n4 ∧ n4 < W.heap.size) (l5 : w.heap.size ≤ n5 ∧ n5 < W.heap.size) (lx : w.heap.size ≤ Bx ∧ Bx < W.heap.size) (d34 : n3 ≠ n4) (d35 : n3 ≠ n5) (d45 : n4 ≠ n5)
    (y3 : (W3.setCell ⟨Bx, 8, none⟩ y).heap[n3]? = some (.cells #[z0, z1, z2, z3, z4, z5, z6, z7, z8, z9, z10, z11] 37 (0, 0))) (y4 : (W3.setCell ⟨Bx, 8, none⟩ y).heap[n4]? = some (.cells #[zb] 4 (0, 0))) (y5 : (W3.setCell ⟨Bx, 8, none⟩ y).heap[n5]? = some (.cells #[ze] 31 (0, 0)))
    (hI : ∀ I, RepsI I w args xs → ∃ I', UpI I I' W W3 ∧ VerAt I' W3 v c) : FinL n3 n4 n5 args xs w (((set12 (W3.setCell ⟨Bx, 8, none⟩ y) n3 (c 0) (c 1) (c 2) (c 3) (c 4) (c 5) (c 6) (c 7) (c 8) (c 9) (c 10) (c 11)).setCell ⟨n4, 0, none⟩ (.bool true)).setCell ⟨n5, 0, none⟩ (.int .i64 0)) v := by
  have hgf : Grow w (((set12 (W3.setCell ⟨Bx, 8, none⟩ y) n3 (c 0) (c 1) (c 2) (c 3) (c 4) (c 5) (c 6) (c 7) (c 8) (c 9) (c 10) (c 11)).setCell ⟨n4, 0, none⟩ (.bool true)).setCell ⟨n5, 0, none⟩ (.int .i64 0)) := ((set12_grow ((hgw.trans hg3).setCell (p := ⟨Bx, 8, none⟩) lx.1 y) l3.1 (c 0) (c 1) (c 2) (c 3) (c 4) (c 5) (c 6) (c 7) (c 8) (c 9) (c 10) (c 11)).setCell (p := ⟨n4, 0, none⟩) l4.1 _).setCell (p := ⟨n5, 0, none⟩) l5.1 _
  have o5 : ∀ k, k ≠ n5 → (((set12 (W3.setCell ⟨Bx, 8, none⟩ y) n3 (c 0) (c 1) (c 2) (c 3) (c 4) (c 5) (c 6) (c 7) (c 8) (c 9) (c 10) (c 11)).setCell ⟨n4, 0, none⟩ (.bool true)).setCell ⟨n5, 0, none⟩ (.int .i64 0)).heap[k]? = ((set12 (W3.setCell ⟨Bx, 8, none⟩ y) n3 (c 0) (c 1) (c 2) (c 3) (c 4) (c 5) (c 6) (c 7) (c 8) (c 9) (c 10) (c 11)).setCell ⟨n4, 0, none⟩ (.bool true)).heap[k]? := fun k hk => Below.heap_setCell _ ⟨n5, 0, none⟩ _ k hk
  have o4 : ∀ k, k ≠ n4 → ((set12 (W3.setCell ⟨Bx, 8, none⟩ y) n3 (c 0) (c 1) (c 2) (c 3) (c 4) (c 5) (c 6) (c 7) (c 8) (c 9) (c 10) (c 11)).setCell ⟨n4, 0, none⟩ (.bool true)).heap[k]? = (set12 (W3.setCell ⟨Bx, 8, none⟩ y) n3 (c 0) (c 1) (c 2) (c 3) (c 4) (c 5) (c 6) (c 7) (c 8) (c 9) (c 10) (c 11)).heap[k]? := fun k hk => Below.heap_setCell _ ⟨n4, 0, none⟩ _ k hk
  have o3 : ∀ k, k ≠ n3 → (set12 (W3.setCell ⟨Bx, 8, none⟩ y) n3 (c 0) (c 1) (c 2) (c 3) (c 4) (c 5) (c 6) (c 7) (c 8) (c 9) (c 10) (c 11)).heap[k]? = (W3.setCell ⟨Bx, 8, none⟩ y).heap[k]? := fun k hk => set12_other (c 0) (c 1) (c 2) (c 3) (c 4) (c 5) (c 6) (c 7) (c 8) (c 9) (c 10) (c 11) hk
  have ox : ∀ k, k ≠ Bx → (W3.setCell ⟨Bx, 8, none⟩ y).heap[k]? = W3.heap[k]? := fun k hk => Below.heap_setCell _ ⟨Bx, 8, none⟩ _ k hk
  refine fin_cloneL (Bx := Bx) (c := c) hgw hg3 hgf l3 l4 l5 lx (fun b h1 h2 h3 h4 => (o5 b h4).trans ((o4 b h3).trans ((o3 b h2).trans (ox b h1)))) ?_ (by simp only [set_os, set12_os]) (by simp only [set_tape, set12_tape]) (by simp only [set_output, set12_output]) ?_ ?_ ?_ hI
  · rw [size_set, size_set, set12_size, size_set]; exact Nat.le_refl _
  · exact (o5 _ d35).trans ((o4 _ d34).trans (set12_own (c 0) (c 1) (c 2) (c 3) (c 4) (c 5) (c 6) (c 7) (c 8) (c 9) (c 10) (c 11) y3))
  · exact (o5 _ d45).trans (one_setCell ((o3 _ (fun e => d34 e.symm)).trans y4))
  · exact one_setCell ((o4 _ (fun e => d45 e.symm)).trans ((o3 _ (fun e => d35 e.symm)).trans y5))
def c12 (f0 f1 f2 f3 f4 f5 f6 f7 f8 f9 f10 f11 : Nat → Value) (j : Nat) : Nat → Value
  | 0 => f0 j
  | 1 => f1 j
  | 2 => f2 j
  | 3 => f3 j
  | 4 => f4 j
  | 5 => f5 j
  | 6 => f6 j
  | 7 => f7 j
  | 8 => f8 j
  | 9 => f9 j
  | 10 => f10 j
  | _ => f11 j
theorem back_stops12 (F : Fence) (n : Nat) (hf : F.fn 37) (hro : F.round = none) (hn : 1 ≤ n) (Bs n₀ : Nat) (sv : Value) (len : Nat) (f0 f1 f2 f3 f4 f5 f6 f7 f8 f9 f10 f11 : Nat → Value) (w : World) (hBs : Bs < w.heap.size) (hBn : Bs < n₀) (hn₀ : n₀ ≤ w.heap.size) (hcB : w.cell? ⟨Bs, 0, none⟩ = some sv)
    (hI : (∃ a cap, sv = .slice a 0 cap ∧ len = 0) ∨ ∃ b off cap, sv = .slice (some ⟨b, off, none⟩) len cap ∧ b < n₀ ∧ len ≤ 2 ^ 47 ∧ ∀ j, j < len → ∀ i, i < 12 → w.cell? ⟨b, off + j * 12 + i, none⟩ = some (c12 f0 f1 f2 f3 f4 f5 f6 f7 f8 f9 f10 f11 j i)) :
    SeqStopsK F n Try.prog 37 #[.pointer (some ⟨Bs, 0, none⟩)] (fun x : Below1 len => #[Value.int .i64 (x.1 : Int), Value.agg #[f0 x.1, f1 x.1, f2 x.1, f3 x.1, f4 x.1, f5 x.1, f6 x.1, f7 x.1, f8 x.1, f9 x.1, f10 x.1, f11 x.1]]) (Below n₀) (fun ys => ys.map (·.1) = downto len len) (fun pre => ∃ k, k ≤ len ∧ pre.map (·.1) = downto len k) len w :=
  back_stops F n hf hro hn Bs n₀ sv len (c12 f0 f1 f2 f3 f4 f5 f6 f7 f8 f9 f10 f11) w hBs hBn hn₀ hcB hI
theorem ver_at {I : Nat → Prop} {w : World} {l : List VerD} {b o n cap i : Nat} {y : Value} (h : RRep I w (.ro (l.map VerD.row)) (.slice (some ⟨b, o, none⟩) n cap)) (hi : i < l.length) (hc : w.cell? ⟨b, o + i * 12 + 8, none⟩ = some y) : RRep I w (ints l[i]!.secs) y := by
  obtain ⟨a, cap', c, e, _, h2⟩ := rows_ver h
  rcases h2 with h2 | ⟨b', o', ha, _, h2⟩
  · omega
  · injection e with e1 e2 e3
    subst ha
    injection e1 with e1
    injection e1 with e1 e4
    subst e1 e4
    have := (h2 i hi).1 8 (by decide)
    rw [hc] at this
    rw [Option.some.inj this]
    exact (h2 i hi).2.h8
theorem rep_st3 {K : KS} {w : World} {s : SttD} {n c b v u q gn : Value} (h : Rep K w s.av (.agg #[n, c, b, v, u, q, gn])) : RRep K.I w (.ro (s.vers.map VerD.row)) v := by
  obtain ⟨b', v', u', q', gn', e, h1⟩ := rep_st h
  simp at e
  obtain ⟨_, _, _, rfl, _⟩ := e
  exact h1
theorem ints_slice {I : Nat → Prop} {w : World} {l : List Int} {x : Value} (h : RRep I w (ints l) x) : ∃ a n c, x = .slice a n c := by
  unfold ints at h
  generalize l.map int_ = rows at h
  cases h with
  | nil => exact ⟨_, _, _, rfl⟩
  | ro h1 h2 h3 h4 h5 h6 h7 h8 => exact ⟨_, _, _, rfl⟩
theorem fin_none {n3 n4 n5 D : Nat} {args : List AV} {xs : List Value} {w W : World} {z0 z1 z2 z3 z4 z5 z6 z7 z8 z9 z10 z11 zb ze : Value} (hgW : Grow w W) (l3 : w.heap.size ≤ n3) (l4 : w.heap.size ≤ n4) (l5 : w.heap.size ≤ n5) (lD : w.heap.size ≤ D) (d34 : n3 ≠ n4) (d35 : n3 ≠ n5) (d45 : n4 ≠ n5) (D3 : D ≠ n3) (D4 : D ≠ n4) (D5 : D ≠ n5)
    (y3 : W.heap[n3]? = some (.cells #[z0, z1, z2, z3, z4, z5, z6, z7, z8, z9, z10, z11] 37 (0, 0))) (y4 : W.heap[n4]? = some (.cells #[zb] 4 (0, 0))) (y5 : W.heap[n5]? = some (.cells #[ze] 31 (0, 0))) {o : Obj} (hK : W.heap[D]? = some o) :
    (((set12 W n3 (Value.int IntKind.i64 0) (Value.string ⟨#[]⟩) (Value.string ⟨#[]⟩) (Value.bool false) (Value.bool false) (Value.int IntKind.i64 0) (Value.int IntKind.i64 0) (Value.int IntKind.i64 0) (Value.slice none 0 0) (Value.int IntKind.i64 0) (Value.int IntKind.i64 0) (Value.int IntKind.i64 0)).setCell ⟨n4, 0, none⟩ (.bool false)).setCell ⟨n5, 0, none⟩ (.int .i64 0)).heap[D]? = some o ∧ ∀ W'' : World, (((set12 W n3 (Value.int IntKind.i64 0) (Value.string ⟨#[]⟩) (Value.string ⟨#[]⟩) (Value.bool false) (Value.bool false) (Value.int IntKind.i64 0) (Value.int IntKind.i64 0) (Value.int IntKind.i64 0) (Value.slice none 0 0) (Value.int IntKind.i64 0) (Value.int IntKind.i64 0) (Value.int IntKind.i64 0)).setCell ⟨n4, 0, none⟩ (.bool false)).setCell ⟨n5, 0, none⟩ (.int .i64 0)).grownBy W'' (some D) → ∀ tmps : Array Value, tmps.getD 6 undef = .pointer (some ⟨n3, 0, none⟩) → tmps.getD 7 undef = .pointer (some ⟨n4, 0, none⟩) → tmps.getD 8 undef = .pointer (some ⟨n5, 0, none⟩) → ∃ v, (results Try.f8 tmps).run Try.prog W'' = .ok v W'' ∧ ∃ x, Ending.returned v = .returned x ∧ Grow w W'' ∧ ∀ I, RepsI I w args xs → ∃ I', UpI I I' w W'' ∧ Rep (KI I') W'' (optV none) x := by
  have hgf : Grow w (((set12 W n3 (Value.int IntKind.i64 0) (Value.string ⟨#[]⟩) (Value.string ⟨#[]⟩) (Value.bool false) (Value.bool false) (Value.int IntKind.i64 0) (Value.int IntKind.i64 0) (Value.int IntKind.i64 0) (Value.slice none 0 0) (Value.int IntKind.i64 0) (Value.int IntKind.i64 0) (Value.int IntKind.i64 0)).setCell ⟨n4, 0, none⟩ (.bool false)).setCell ⟨n5, 0, none⟩ (.int .i64 0)) := ((set12_grow hgW l3 (Value.int IntKind.i64 0) (Value.string ⟨#[]⟩) (Value.string ⟨#[]⟩) (Value.bool false) (Value.bool false) (Value.int IntKind.i64 0) (Value.int IntKind.i64 0) (Value.int IntKind.i64 0) (Value.slice none 0 0) (Value.int IntKind.i64 0) (Value.int IntKind.i64 0) (Value.int IntKind.i64 0)).setCell (p := ⟨n4, 0, none⟩) l4 _).setCell (p := ⟨n5, 0, none⟩) l5 _
  have o5 : ∀ k, k ≠ n5 → (((set12 W n3 (Value.int IntKind.i64 0) (Value.string ⟨#[]⟩) (Value.string ⟨#[]⟩) (Value.bool false) (Value.bool false) (Value.int IntKind.i64 0) (Value.int IntKind.i64 0) (Value.int IntKind.i64 0) (Value.slice none 0 0) (Value.int IntKind.i64 0) (Value.int IntKind.i64 0) (Value.int IntKind.i64 0)).setCell ⟨n4, 0, none⟩ (.bool false)).setCell ⟨n5, 0, none⟩ (.int .i64 0)).heap[k]? = ((set12 W n3 (Value.int IntKind.i64 0) (Value.string ⟨#[]⟩) (Value.string ⟨#[]⟩) (Value.bool false) (Value.bool false) (Value.int IntKind.i64 0) (Value.int IntKind.i64 0) (Value.int IntKind.i64 0) (Value.slice none 0 0) (Value.int IntKind.i64 0) (Value.int IntKind.i64 0) (Value.int IntKind.i64 0)).setCell ⟨n4, 0, none⟩ (.bool false)).heap[k]? := fun k hk => Below.heap_setCell _ ⟨n5, 0, none⟩ _ k hk
  have o4 : ∀ k, k ≠ n4 → ((set12 W n3 (Value.int IntKind.i64 0) (Value.string ⟨#[]⟩) (Value.string ⟨#[]⟩) (Value.bool false) (Value.bool false) (Value.int IntKind.i64 0) (Value.int IntKind.i64 0) (Value.int IntKind.i64 0) (Value.slice none 0 0) (Value.int IntKind.i64 0) (Value.int IntKind.i64 0) (Value.int IntKind.i64 0)).setCell ⟨n4, 0, none⟩ (.bool false)).heap[k]? = (set12 W n3 (Value.int IntKind.i64 0) (Value.string ⟨#[]⟩) (Value.string ⟨#[]⟩) (Value.bool false) (Value.bool false) (Value.int IntKind.i64 0) (Value.int IntKind.i64 0) (Value.int IntKind.i64 0) (Value.slice none 0 0) (Value.int IntKind.i64 0) (Value.int IntKind.i64 0) (Value.int IntKind.i64 0)).heap[k]? := fun k hk => Below.heap_setCell _ ⟨n4, 0, none⟩ _ k hk
  have o3 : ∀ k, k ≠ n3 → (set12 W n3 (Value.int IntKind.i64 0) (Value.string ⟨#[]⟩) (Value.string ⟨#[]⟩) (Value.bool false) (Value.bool false) (Value.int IntKind.i64 0) (Value.int IntKind.i64 0) (Value.int IntKind.i64 0) (Value.slice none 0 0) (Value.int IntKind.i64 0) (Value.int IntKind.i64 0) (Value.int IntKind.i64 0)).heap[k]? = W.heap[k]? := fun k hk => set12_other (Value.int IntKind.i64 0) (Value.string ⟨#[]⟩) (Value.string ⟨#[]⟩) (Value.bool false) (Value.bool false) (Value.int IntKind.i64 0) (Value.int IntKind.i64 0) (Value.int IntKind.i64 0) (Value.slice none 0 0) (Value.int IntKind.i64 0) (Value.int IntKind.i64 0) (Value.int IntKind.i64 0) hk
  have b3 := (o5 _ d35).trans ((o4 _ d34).trans (set12_own (Value.int IntKind.i64 0) (Value.string ⟨#[]⟩) (Value.string ⟨#[]⟩) (Value.bool false) (Value.bool false) (Value.int IntKind.i64 0) (Value.int IntKind.i64 0) (Value.int IntKind.i64 0) (Value.slice none 0 0) (Value.int IntKind.i64 0) (Value.int IntKind.i64 0) (Value.int IntKind.i64 0) y3))
  have b4 := (o5 _ d45).trans (one_setCell (u := .bool false) ((o3 _ (fun e => d34 e.symm)).trans y4))
  have b5 := one_setCell (u := .int .i64 0) ((o4 _ (fun e => d45 e.symm)).trans ((o3 _ (fun e => d35 e.symm)).trans y5))
  generalize (((set12 W n3 (Value.int IntKind.i64 0) (Value.string ⟨#[]⟩) (Value.string ⟨#[]⟩) (Value.bool false) (Value.bool false) (Value.int IntKind.i64 0) (Value.int IntKind.i64 0) (Value.int IntKind.i64 0) (Value.slice none 0 0) (Value.int IntKind.i64 0) (Value.int IntKind.i64 0) (Value.int IntKind.i64 0)).setCell ⟨n4, 0, none⟩ (.bool false)).setCell ⟨n5, 0, none⟩ (.int .i64 0)) = WF at *
  refine ⟨(o5 _ D5).trans ((o4 _ D4).trans ((o3 _ D3).trans hK)), fun W'' hg tmps t6 t7 t8 => ?_⟩
  have kp : ∀ {n : Nat} {ob : Obj}, WF.heap[n]? = some ob → D ≠ n → W''.heap[n]? = some ob := fun {n ob} hb hne => (hg.block n (Array.getElem?_eq_some_iff.1 hb).1 fun e => by cases e; exact hne rfl).trans hb
  have hg2 : Grow w W'' := Below.grown hgf hg hgf.size (fun k e => by cases e; exact lD)
  refine ⟨_, fin_lat (kp b3 D3) (kp b4 D4) (kp b5 D5) tmps t6 t7 t8, _, rfl, hg2, fun I hI => ⟨I, ⟨fun _ h => h, fun _ h => .inl h, fun b hb => ?_⟩, rep_three (rep_ver (ver_z I _))⟩⟩
  have := hI.1 b hb; have := hg2.size; omega
theorem lastV_hit {l : List VerD} {name key : ByteArray} {i : Nat} : ∀ {n : Nat}, i < n → forB l[i]! name key = true → (∀ j, i < j → j < n → forB l[j]! name key = false) → lastV l name key n = some l[i]!
  | 0, hi, _, _ => absurd hi (Nat.not_lt_zero _)
  | n + 1, hi, hm, hno => by
    rcases Nat.lt_or_eq_of_le (Nat.le_of_lt_succ hi) with h | h
    · have e : lastV l name key (n + 1) = lastV l name key n := by
        show cond _ _ _ = _
        rw [hno n h (by omega)]; rfl
      rw [e]
      exact lastV_hit h hm fun j h1 h2 => hno j h1 (by omega)
    · subst h
      show cond _ _ _ = _
      rw [hm]; rfl
theorem lastV_none {l : List VerD} {name key : ByteArray} : ∀ {n : Nat}, (∀ j, j < n → forB l[j]! name key = false) → lastV l name key n = none
  | 0, _ => rfl
  | n + 1, h => by
    show cond _ _ _ = _
    rw [h n (by omega)]
    exact lastV_none fun j hj => h j (by omega)
theorem downto_mem {n k j : Nat} (h1 : n - k ≤ j) (h2 : j < n) : j ∈ downto n k := by
  unfold downto
  rw [List.mem_map]
  exact ⟨n - 1 - j, by rw [List.mem_range]; omega, by omega⟩
theorem lastV_hit2 {l : List VerD} {name key : ByteArray} {p : List (Below1 l.length)} {x : Below1 l.length} {k : Nat} (hk : k ≤ l.length) (hmap : (p ++ [x]).map (·.1) = downto l.length k) (hz : ∀ z ∈ p, forB l[z.1]! name key = false) (hx : forB l[x.1]! name key = true) : lastV l name key l.length = some l[x.1]! := by
  match k, hmap, hk with
  | 0, hmap, _ => simp [downto] at hmap
  | k + 1, hmap, hk =>
    rw [downto_succ, List.map_append] at hmap
    obtain ⟨h1, h2⟩ := List.append_inj' hmap rfl
    have hx1 : x.1 = l.length - 1 - k := by simpa using h2
    refine lastV_hit x.2 hx fun j hj1 hj2 => ?_
    have hm : j ∈ downto l.length k := downto_mem (by omega) hj2
    rw [← h1, List.mem_map] at hm
    obtain ⟨z, hz1, rfl⟩ := hm
    exact hz z hz1
theorem lastV_miss {l : List VerD} {name key : ByteArray} {p : List (Below1 l.length)} (hmap : p.map (·.1) = downto l.length l.length) (hz : ∀ z ∈ p, forB l[z.1]! name key = false) : lastV l name key l.length = none := by
  refine lastV_none fun j hj => ?_
  have hm : j ∈ downto l.length l.length := downto_mem (by omega) hj
  rw [← hmap, List.mem_map] at hm
  obtain ⟨z, hz1, rfl⟩ := hm
  exact hz z hz1
end Go.Proofs.Ytobbkfldjemgkaa
