/- slices.SortFunc where there is nothing to sort. -/
import Derived.Test.YtikgiadbkjmabaaLkO
import Derived.Test.YtikgiadbkjmabaaLkL
import Derived.Test.YtikgiadbkjmabaaRgA
import Derived.Test.YtikgiadbkjmabaaNm
import Derived.LoopN

/- slices.SortFunc of versions in one's own memory. CODED ELSEWHERE: icehouse/list.keys$2 -/
namespace Go.Proofs.Ytikgiadbkjmabaa
open Go.RowKit
open Go.Sort (HoldsK Holds size_flatK get_flatK flatK putCells)
set_option maxHeartbeats 4000000
set_option maxRecDepth 20000
attribute [local irreducible] SW OSW SWL SWLn SWD SEcall SEcallv SDv SE SO1 SOg ACalls ACallv Wk EndV
set_option linter.unusedSimpArgs false
set_option linter.unusedVariables false
theorem grow_form {w w':World} (h:Grow w w'):∃ q os,w' = Go.Sort.grow (w.drewN q) os:=by
  refine ⟨w'.drawn - w.drawn,w'.heap.extract w.heap.size w'.heap.size,?_⟩
  have hs:=h.size
  have hd:=h.drawn
  have hh:w'.heap = w.heap ++ w'.heap.extract w.heap.size w'.heap.size:=by
    apply Array.ext_getElem?
    intro i
    rw [Array.getElem?_append]
    split
    · rename_i hi;exact h.heap hi
    · rename_i hi
      rw [Array.getElem?_extract]
      split
      · congr 1;omega
      · rw [Array.getElem?_eq_none];omega
  obtain ⟨h1,h2,h3,h4,h5⟩:=w'
  obtain ⟨g1,g2,g3,g4,g5⟩:=w
  have e1:=h.os
  have e2:=h.tape
  have e3:=h.output
  simp only at e1 e2 e3 hd hh
  subst e1;subst e2;subst e3
  unfold Go.Sort.grow World.drewN
  simp only [World.mk.injEq,true_and,and_true]
  exact ⟨hh,by omega⟩
def encV (x:VerM):List Value:=[.int .i64 x.1.id,.string x.1.bkt,.string x.1.key,.bool x.1.null,.bool x.1.mark,.int .i64 x.1.size,.int .i64 x.1.time,.int .i64 x.1.tier,.slice x.2.1 x.2.2.1 x.2.2.2,.int .i64 x.1.vol,.int .i64 x.1.pos,.int .i64 x.1.till]
theorem encV_len (x:VerM):(encV x).length = 12:=rfl
theorem encV_one (x:VerM):∀ v ∈ encV x,v.oneCell' = true:=by
  intro v hv
  simp only [encV,List.mem_cons,List.not_mem_nil,or_false] at hv
  rcases hv with rfl | rfl | rfl | rfl | rfl | rfl | rfl | rfl | rfl | rfl | rfl | rfl<;>rfl
theorem ordM_p (a b:VerM):Pure Try.prog 27 [.agg ((encV a).map fun v=>.d (.v v)),.agg ((encV b).map fun v=>.d (.v v))] (I (cfM a b)):=by
  refine pure_of follows Try.func27 c27_eq r27 (Nat.le_of_ble_eq_true rfl) fun B σ hcl hsz=>?_
  clear hsz
  repeat' (first | (simp -implicitDefEqProofs only [*,Nat.reduceBEq,↓reduceIte,Nat.reduceEqDiff,Nat.reduceAdd,reduceCtorEq,AO.kill,Int.reduceLT,Int.reduceToNat,List.getElem?_nil,Nat.reduceMul,Nat.reducePow,Nat.reduceLeDiff,rowOf_mapD,rowOf_mapI,rowOf_mapA,List.getElem?_cons_zero,List.getElem?_cons_succ,take_map_len,take_map_app,List.getElem?_cons_zero,c27,r27,v27_1,v27_2,v27_3,v27_4,m27_4,u27_5,ty41,ty9,ty3,ty26,encV,mvcgen_simp]) | (with_reducible refine And.intro ?_ ?_) | (refine call_ro e29 ( cmp_p a.1.key b.1.key) rfl ?_ ?_ ?_ ?_) | (refine gcall_ro e29 ( cmp_p a.1.key b.1.key) rfl ?_ ?_ ?_ ?_) | (refine dcall_ro e29 ( cmp_p a.1.key b.1.key) rfl ?_ ?_ ?_ ?_) | (refine gdcall_ro rfl e29 ( cmp_p a.1.key b.1.key) rfl ?_ ?_ ?_ ?_) | (refine call_ro e30 ( cmpI_p b.1.id a.1.id) rfl ?_ ?_ ?_ ?_) | (refine gcall_ro e30 ( cmpI_p b.1.id a.1.id) rfl ?_ ?_ ?_ ?_) | (refine dcall_ro e30 ( cmpI_p b.1.id a.1.id) rfl ?_ ?_ ?_ ?_) | (refine gdcall_ro rfl e30 ( cmpI_p b.1.id a.1.id) rfl ?_ ?_ ?_ ?_) | (refine call_ro e28 ( or_p _ _) rfl ?_ ?_ ?_ ?_) | (refine gcall_ro e28 ( or_p _ _) rfl ?_ ?_ ?_ ?_) | (refine dcall_ro e28 ( or_p _ _) rfl ?_ ?_ ?_ ?_) | (refine gdcall_ro rfl e28 ( or_p _ _) rfl ?_ ?_ ?_ ?_) | (refine EndX.plain ?_) | (refine nil_split (fun hn=>?_) (fun hn=>?_)) | (refine gcall_no not_false ?_) | (refine gdcall_no not_false ?_) | (refine GuardS_of _ _ _ _ _ _ (fun hg=>?_) (fun hg=>?_)) | (refine GuardD_of _ _ _ _ (fun hg=>?_) (fun hg=>?_)) | (refine CondB_of _ _ _ _ _ _ _ ?_ (fun hg=>?_) (fun hg=>?_)))
  all_goals (try (first | ((first | unfold noN | unfold Fr.below | unfold Loc.below);simp [Fr.allN,AV.allN,AV.allNL,AO.allN];done) | rfl | trivial | assumption | (intro row hrow;simp only [List.mem_map] at hrow;obtain ⟨x,_,rfl⟩:=hrow;rfl) | (refine Wk.keep hcl ?_ ?_ ?_;(focus (simp [Fr.get,encV]<;>fail));(focus (simp [sto,encV]<;>fail));(focus (simp<;>fail))) | (simp [allP,opd,Fr.get,Fr.below,Fr.allN,AV.allN,AV.allNL,Loc.below,AO.allN,noN,killO,killT,killD,mkNames,AO.kill,AV.kill,AV.mapN,AV.mapNL];done) | (with_reducible exact ltD (by assumption)) | omega | (simp only [decide_eq_true_eq,decide_eq_false_iff_not] at *;omega)))
theorem agg_reps {w:World} {K:KS} {l:List Value} (h:∀ v ∈ l,v.oneCell' = true):Rep K w (.agg (l.map fun v=>.d (.v v))) (.agg l.toArray):=by
  refine .agg (by simp) (fun i c x hc hx=>?_) h
  rw [List.getElem?_map,hx] at hc
  cases hc
  exact .d (.v (h x (List.mem_of_getElem? hx)))
theorem lays_p (blk off size:Nat) (w:World):CmpLays Try.prog 27 #[] encV 12 cfM blk off size w:=by
  intro m os dk hs x y
  generalize sortWorldK encV 12 w blk off m dk os = W
  have h:=(ordM_p x y).g rfl (by simp [noName,AV.allN];exact ⟨AV.allNL_iff.2 (by simp [AV.allN]),AV.allNL_iff.2 (by simp [AV.allN])⟩)
  have hR:RepsI (fun _=>False) W [.agg ((encV x).map fun v=>.d (.v v)),.agg ((encV y).map fun v=>.d (.v v))] [.agg (encV x).toArray,.agg (encV y).toArray]:=by
    refine ⟨fun b hb=>hb.elim,rfl,fun i c z hc hz=>?_⟩
    match i with
    | 0=>cases hc;cases hz;exact agg_reps (encV_one x)
    | 1=>cases hc;cases hz;exact agg_reps (encV_one y)
    | i + 2=>simp at hc
  refine (h _ W ⟨_,hR⟩).mono fun e w' ⟨z,he,hg,hall⟩=>?_
  obtain ⟨I',_,hz⟩:=hall _ hR
  refine ⟨?_,grow_form hg⟩
  rw [he]
  cases hz with | d hz=>cases hz with | v hz=>rfl
theorem sw_heap (w:World) (blk m:Nat) (dk:Array VerM) (os:Array Obj) (cs:Array Value) (E:TypeId) (hb:w.heap[blk]? = some (.cells cs E (0,0))) :
    (sortWorldK encV 12 w blk 0 m dk os).heap[blk]? = some (.cells (Go.Sort.putCells id 0 (Go.Sort.flatK encV 12 dk) cs) E (0,0)):=by
  have hlt:blk < w.heap.size:=(Array.getElem?_eq_some_iff.1 hb).1
  simp only [sortWorldK,Go.Sort.putRowK,Go.Sort.putRow,Go.Sort.mapBlock,Go.Sort.grow,Go.Sort.ahead]
  rw [Array.getElem?_append,if_pos (by simpa using hlt),Array.getElem?_modify,if_pos rfl,hb]
  rfl
theorem sw_other (w:World) (blk m:Nat) (dk:Array VerM) (os:Array Obj) (b:Nat) (hlt:b < w.heap.size) (hne:b ≠ blk):(sortWorldK encV 12 w blk 0 m dk os).heap[b]? = w.heap[b]?:=by
  simp only [sortWorldK,Go.Sort.putRowK,Go.Sort.putRow,Go.Sort.mapBlock,Go.Sort.grow,Go.Sort.ahead]
  rw [Array.getElem?_append,if_pos (by simpa using hlt),Array.getElem?_modify,if_neg (fun e=>hne e.symm)]
theorem sw_keep (w:World) (blk m:Nat) (dk:Array VerM) (os:Array Obj) (I:Nat → Prop) (hI:∀ b,I b → b < w.heap.size) (hb:¬ I blk):Keep I w (sortWorldK encV 12 w blk 0 m dk os) where
  os:=rfl
  tape:=rfl
  output:=rfl
  size:=by simp [sortWorldK,Go.Sort.putRowK,Go.Sort.putRow,Go.Sort.mapBlock,Go.Sort.grow,Go.Sort.ahead]
  block:=fun b h=>sw_other w blk m dk os b (hI b h) fun e=>hb (e ▸ h)
  drawn:=by simp [sortWorldK,Go.Sort.putRowK,Go.Sort.putRow,Go.Sort.mapBlock,Go.Sort.grow,Go.Sort.ahead]
def tri:Value → Option Addr × Nat × Nat
  | .slice a l c=>(a,l,c)
  | _=>(none,0,0)
theorem tri_ok {I:Nat → Prop} {w:World} {rows:List (List RV)} {x:Value} (h:RRep I w (.ro rows) x):x = .slice (tri x).1 (tri x).2.1 (tri x).2.2:=by
  cases h<;>rfl
theorem row_cell {I:Nat → Prop} {w:World} {v:VerD} {cs:Nat → Value} (h:∀ (j:Nat) (c:RV),v.row[j]? = some c → RRep I w c (cs j)):∀ j,j < 12 → (encV (v,tri (cs 8)))[j]! = cs j:=by
  intro j hj
  have h8:cs 8 = .slice (tri (cs 8)).1 (tri (cs 8)).2.1 (tri (cs 8)).2.2:=tri_ok (h 8 _ rfl)
  have hv:∀ j x,v.row[j]? = some (.v x) → x = cs j:=fun j x hx=>by
    have:=h j _ hx
    generalize cs j = z at this
    cases this;rfl
  match j,hj with
  | 0,_=>exact hv 0 _ rfl
  | 1,_=>exact hv 1 _ rfl
  | 2,_=>exact hv 2 _ rfl
  | 3,_=>exact hv 3 _ rfl
  | 4,_=>exact hv 4 _ rfl
  | 5,_=>exact hv 5 _ rfl
  | 6,_=>exact hv 6 _ rfl
  | 7,_=>exact hv 7 _ rfl
  | 8,_=>exact h8.symm
  | 9,_=>exact hv 9 _ rfl
  | 10,_=>exact hv 10 _ rfl
  | 11,_=>exact hv 11 _ rfl
theorem cell_row {I:Nat → Prop} {w:World} {v:VerD} {s:Option Addr × Nat × Nat} (h:RRep I w (ints v.secs) (.slice s.1 s.2.1 s.2.2)):∀ (j:Nat) (c:RV),v.row[j]? = some c → RRep I w c (encV (v,s))[j]!:=by
  intro j c hc
  match j with
  | 0=>cases hc;exact .v rfl
  | 1=>cases hc;exact .v rfl
  | 2=>cases hc;exact .v rfl
  | 3=>cases hc;exact .v rfl
  | 4=>cases hc;exact .v rfl
  | 5=>cases hc;exact .v rfl
  | 6=>cases hc;exact .v rfl
  | 7=>cases hc;exact .v rfl
  | 8=>cases hc;exact h
  | 9=>cases hc;exact .v rfl
  | 10=>cases hc;exact .v rfl
  | 11=>cases hc;exact .v rfl
  | j + 12=>simp [VerD.row] at hc
theorem put_at (F:Array Value) (cs:List Value) (j:Nat) (hF:F.size ≤ cs.length):(Go.Sort.putCells id 0 F cs.toArray).toList[j]? = if j < F.size then some F[j]! else cs[j]?:=by
  rw [Array.getElem?_toList]
  simp only [Go.Sort.putCells,Array.getElem?_mapIdx,List.getElem?_toArray,Nat.zero_le,true_and,Nat.zero_add,Nat.sub_zero,id]
  by_cases h:j < F.size
  · rw [if_pos h,List.getElem?_eq_getElem (by omega),Option.map_some,if_pos h]
  · rw [if_neg h]
    cases cs[j]? with
    | none=>rfl
    | some x=>simp [h]
theorem get!_some {α:Type} [Inhabited α] {l:List α} {i:Nat} (h:i < l.length):l[i]? = some l[i]!:=by simp [h]
theorem sortV_own (xs ys:List VerD) (rest:List (List RV)) (m B:Nat) (σ:Sto) (hm:σ m = .arr 12 41 (xs.map VerD.row ++ rest)) (hne:xs.map VerD.row ++ rest ≠ []) (hp:ys.Perm xs) (hs:ys.Pairwise (fun a b=>ltR a b = true)) :
    ACalls Try.prog 26 [.os m xs.length,.clo (.func 27) [] []] σ B [] (fun v' σ'=>v' = .tup [] ∧ σ' = sto [(m,.arr 12 41 (ys.map VerD.row ++ rest))] σ):=by
  unfold ACalls
  intro vs w ⟨K0,hP0⟩
  obtain ⟨x0,x1,rfl⟩:∃ x0 x1,vs = [x0,x1]:=by
    have:=hP0.2.2.1
    match vs,this with
    | [x0,x1],_=>exact ⟨x0,x1,rfl⟩
  have hx0:∀ K,Pre [.os m xs.length,.clo (.func 27) [] []] σ B [x0,x1] w K → x0 = K.sl m xs.length:=fun K hK=>by
    have:=hK.2.2.2 0 _ _ rfl rfl
    cases this;rfl
  have hx1:x1 = .func (.func 27) #[] #[]:=by
    have:=hP0.2.2.2 1 _ _ rfl rfl
    cases this with
    | clo h1 h2 h3 h4 =>
      rename_i fs cs
      have e1:fs = []:=List.eq_nil_of_length_eq_zero h1.symm
      have e2:cs = []:=List.eq_nil_of_length_eq_zero h2.symm
      rw [e1,e2]
  have hobj:∀ K,Pre [.os m xs.length,.clo (.func 27) [] []] σ B [x0,x1] w K → RepO K w m (.arr 12 41 (xs.map VerD.row ++ rest)):=fun K hK=>by
    have:=hK.1.obj m
    rwa [hm] at this
  have hnl:∀ K,Pre [.os m xs.length,.clo (.func 27) [] []] σ B [x0,x1] w K → K.nl m = false:=fun K hK=>by
    obtain ⟨_,⟨_,hr⟩ | ⟨h,_⟩⟩:=hobj K hK
    · exact absurd hr hne
    · exact h
  have hx:∀ K,Pre [.os m xs.length,.clo (.func 27) [] []] σ B [x0,x1] w K → x0 = .slice (some ⟨K.blk m,0,none⟩) xs.length (K.cap m):=fun K hK=>by
    rw [hx0 K hK];simp [KS.sl,hnl K hK]
  have hbc:∀ K,Pre [.os m xs.length,.clo (.func 27) [] []] σ B [x0,x1] w K → K.blk m = K0.blk m ∧ K.cap m = K0.cap m:=fun K hK=>by
    have a:=hx K hK
    rw [hx K0 hP0] at a
    simp only [Value.slice.injEq,Option.some.injEq,Addr.mk.injEq,and_true,true_and] at a
    exact ⟨a.1.symm,a.2.symm⟩
  obtain ⟨_,⟨_,hr⟩ | ⟨_,hI0,cs,hcs,hcl,hcap,hmax,h47,hrl,hrr,hone⟩⟩:=hobj K0 hP0
  · exact absurd hr hne
  have hlt:K0.blk m < w.heap.size:=(Array.getElem?_eq_some_iff.1 hcs).1
  generalize hdd:((List.range xs.length).map fun i=>((xs[i]!,tri (cs[i * 12 + 8]!)):VerM)).toArray = d
  have hd:d.size = xs.length:=by rw [← hdd];simp
  have hdi:∀ i,i < xs.length → d[i]! = (xs[i]!,tri (cs[i * 12 + 8]!)):=fun i hi=>by rw [← hdd];simp [hi]
  have hdl:d.toList.map Prod.fst = xs:=by
    rw [← hdd]
    simp only [List.map_map]
    apply List.ext_getElem?
    intro i
    rw [List.getElem?_map]
    by_cases hi:i < xs.length
    · simp [hi]
    · rw [List.getElem?_eq_none (by simp;omega),List.getElem?_eq_none (by omega)];rfl
  have hlen:xs.length + rest.length ≤ K0.cap m:=by simpa using hcap
  have hrow:∀ i,i < xs.length → (xs.map VerD.row ++ rest)[i]? = some xs[i]!.row:=fun i hi=>by
    rw [List.getElem?_append_left (by simpa using hi),List.getElem?_map,get!_some hi];rfl
  have hcell:∀ K,Pre [.os m xs.length,.clo (.func 27) [] []] σ B [x0,x1] w K → ¬ K.I (K0.blk m) ∧ ∀ (i j:Nat) (r:List RV) (c:RV) (x:Value),(xs.map VerD.row ++ rest)[i]? = some r → r[j]? = some c → cs[i * 12 + j]? = some x → RRep K.I w c x:=fun K hK=>by
    obtain ⟨_,⟨_,hr⟩ | ⟨_,hI,cs',hcs',_,_,_,_,_,hrr',_⟩⟩:=hobj K hK
    · exact absurd hr hne
    · rw [(hbc K hK).1] at hI hcs'
      rw [hcs] at hcs'
      simp only [Option.some.injEq,Obj.cells.injEq,and_true] at hcs'
      have e:cs = cs':=by simpa using hcs'
      subst e
      exact ⟨hI,hrr'⟩
  have hrc:∀ K,Pre [.os m xs.length,.clo (.func 27) [] []] σ B [x0,x1] w K → ∀ i,i < xs.length → ∀ j c,xs[i]!.row[j]? = some c → RRep K.I w c (cs[i * 12 + j]!):=fun K hK i hi j c hc=>by
    have hj:j < 12:=(List.getElem?_eq_some_iff.1 hc).1
    exact (hcell K hK).2 i j _ c _ (hrow i hi) hc (get!_some (by omega))
  have hH:HoldsK encV 12 w (K0.blk m) 0 d:=by
    unfold HoldsK Holds
    intro j hj
    rw [size_flatK,hd] at hj
    rw [get_flatK _ _ _ _ (by rw [hd];exact hj)]
    have hi:j / 12 < xs.length:=by omega
    have h1:=row_cell (v:=xs[j / 12]!) (cs:=fun c=>cs[j / 12 * 12 + c]!) (hrc K0 hP0 (j / 12) hi) (j % 12) (by omega)
    have e:j / 12 * 12 + j % 12 = j:=by omega
    rw [e] at h1
    rw [hdi _ hi]
    refine ⟨?_,?_⟩
    · simp only [World.cell?,hcs,Nat.zero_add,id]
      rw [h1]
      simp [show j < cs.length by omega]
    · simp [World.frozen?,hcs]
  have h47s:xs.length + rest.length ≤ 2 ^ 47:=by simpa using h47
  have hcon:=AnyQ.slices_SortFunc Try.sortV 12 (fun w=>run_isAgg' (by kernel_rfl)) (fun w=>run_sizeOf' (by kernel_rfl)) encV encV_len encV_one cfM swoM 27 #[] (K0.blk m) 0 (K0.cap m) d w (enters_of Try.func27 (by kernel_rfl) rfl) (lays_p _ _ _ _) hH hlt (by rw [hd];omega)
  change Calls Try.prog 26 _ _ _ at hcon
  rw [hd,← hx K0 hP0,← hx1] at hcon
  refine hcon.mono fun e w' ⟨he,d',nn,os,hperm,hsort,hw⟩=>⟨.tuple #[],.tup [],_,he,⟨rfl,rfl⟩,fun K hK=>?_⟩
  obtain ⟨hs',_,hpe⟩:=hperm
  have e1:d'.extract 0 xs.length = d':=by rw [← hd,← hs'];simp
  have e2:d.extract 0 xs.length = d:=by rw [← hd];simp
  have hperm':d'.toList.Perm d.toList:=by rwa [e1,e2] at hpe
  have hys:d'.toList.map Prod.fst = ys:=by
    refine sorted_uniq ys _ (((hperm'.map Prod.fst).trans (by rw [hdl])).trans hp.symm) hs ?_
    rw [List.pairwise_iff_getElem]
    intro i j hi hj hij
    simp only [List.length_map,Array.length_toList] at hi hj
    have:=hsort i j (Nat.zero_le _) hij (by omega)
    rw [ltM] at this
    simpa [hi,hj] using this
  have hyl:ys.length = xs.length:=hp.length_eq
  have hyi:∀ i,i < xs.length → ys[i]! = (d'[i]!).1:=fun i hi=>by
    have hi':i < d'.size:=by omega
    rw [← hys];simp [hi']
  have hF:(flatK encV 12 d').size = xs.length * 12:=by simp [hs',hd]
  subst hw
  have hkeep:=sw_keep w (K0.blk m) nn d' os K.I hK.1.inI (hcell K hK).1
  have hσ':∀ n,(sto [(m,.arr 12 41 (ys.map VerD.row ++ rest))] σ n).live K n → (σ n).live K n:=fun n h=>by
    simp only [sto] at h
    split at h
    · rename_i e;subst e;rw [hm];exact hnl K hK
    · exact h
  refine ⟨K,⟨fun n _ _=>⟨rfl,rfl,rfl,rfl⟩,fun _ h=>h,hkeep,fun b hb=>?_⟩,⟨hK.1.gl.up (fun _ h=>h) hkeep,fun b hb=>Nat.lt_of_lt_of_le (hK.1.inI b hb) hkeep.size,fun n=>?_,fun i j hi hj e=>hK.1.inj i j (hσ' i hi) (hσ' j hj) e⟩,?_⟩
  · rcases hb with hb | ⟨n,h1,h2⟩
    · exact .inl hb
    · exact .inr (.inr ⟨n,hσ' n h1,h2⟩)
  · simp only [sto]
    split
    · rename_i e
      subst e
      refine ⟨by omega,.inr ⟨hnl K hK,by rw [(hbc K hK).1];exact (hcell K hK).1,(putCells id 0 (flatK encV 12 d') cs.toArray).toList,?_,?_,?_,?_,?_,?_,?_,?_⟩⟩
      · rw [(hbc K hK).1,sw_heap w _ nn d' os _ _ hcs]
      · rw [(hbc K hK).2];simpa [putCells] using hcl
      · rw [(hbc K hK).2];simp [hyl];exact hlen
      · rw [(hbc K hK).2];exact hmax
      · simpa [hyl] using h47
      · intro i r hr
        rcases Nat.lt_or_ge i ys.length with hi | hi
        · rw [List.getElem?_append_left (by simpa using hi),List.getElem?_map,get!_some hi] at hr
          cases hr;rfl
        · rw [List.getElem?_append_right (by simpa using hi)] at hr
          refine hrl i r ?_
          rw [List.getElem?_append_right (by simp;omega)]
          simpa [hyl] using hr
      · intro i j r c x hr hc hx
        rw [put_at _ _ _ (by rw [hF];omega),hF] at hx
        rcases Nat.lt_or_ge i ys.length with hi | hi
        · rw [List.getElem?_append_left (by simpa using hi),List.getElem?_map,get!_some hi] at hr
          cases hr
          have hj:j < 12:=(List.getElem?_eq_some_iff.1 hc).1
          rw [if_pos (by omega)] at hx
          cases hx
          rw [get_flatK _ _ _ _ (by rw [hs',hd];omega)]
          have e1:(i * 12 + j) / 12 = i:=by omega
          have e2:(i * 12 + j) % 12 = j:=by omega
          rw [e1,e2]
          rw [hyi i (by omega)] at hc
          have hmem:d'[i]! ∈ d.toList:=hperm'.mem_iff.1 (by
            have hi':i < d'.size:=by omega
            rw [getElem!_pos d' i hi']
            exact Array.getElem_mem_toList hi')
          obtain ⟨q,hq1,hq2⟩:=List.getElem_of_mem hmem
          have hq3:q < xs.length:=by simpa [hd] using hq1
          have hq4:d'[i]! = (xs[q]!,tri (cs[q * 12 + 8]!)):=by
            rw [← hdi q hq3,← hq2]
            simp [show q < d.size by omega]
          rw [hq4] at hc ⊢
          have h8:=hrc K hK q hq3 8 _ rfl
          rw [tri_ok h8] at h8
          exact (cell_row (s:=tri (cs[q * 12 + 8]!)) h8 j c hc).up (fun _ h=>h) hkeep
        · rw [if_neg (by omega)] at hx
          rw [List.getElem?_append_right (by simpa using hi)] at hr
          refine ((hcell K hK).2 i j r c x ?_ hc hx).up (fun _ h=>h) hkeep
          rw [List.getElem?_append_right (by simp;omega)]
          simpa [hyl] using hr
      · intro x hx
        obtain ⟨j,hj⟩:=List.mem_iff_getElem?.1 hx
        rw [put_at _ _ _ (by rw [hF];omega),hF] at hj
        split at hj
        · rename_i hlt'
          cases hj
          rw [get_flatK _ _ _ _ (by rw [hs',hd];omega)]
          refine encV_one (d'[j / 12]!) _ ?_
          have:j % 12 < (encV (d'[j / 12]!)).length:=by rw [encV_len];omega
          rw [getElem!_pos (encV (d'[j / 12]!)) (j % 12) this]
          exact List.getElem_mem this
        · exact hone x (List.mem_of_getElem? hj)
    · rename_i hn
      refine (hK.1.obj n).up (q:=fun _=>true) (K':=K) (fun _ h=>h) hkeep (fun _ _=>⟨rfl,rfl,rfl,rfl⟩) ⟨rfl,rfl,rfl,rfl⟩ (fun h=>h) (fun hl=>?_) (AO.allN_true _)
      refine sw_other w _ nn d' os _ ((hK.1.obj n).lt hl).1 fun e=>hn ?_
      refine hK.1.inj n m hl (by rw [hm];exact hnl K hK) ?_
      rw [e,(hbc K hK).1]
  · exact .tup rfl (by simp)
end Go.Proofs.Ytikgiadbkjmabaa
namespace Go.Proofs.Ytikgiadbkjmabaa
open Go.RowKit
set_option maxHeartbeats 4000000
set_option maxRecDepth 20000
attribute [local irreducible] SW OSW SWL SWLn SWD SEcall SEcallv SDv SE SO1 SOg ACalls ACallv Wk EndV
set_option linter.unusedSimpArgs false
set_option linter.unusedVariables false
theorem len0_w (w:World):Calls Try.prog 46 #[.int .u64 0] w fun e w'=>e = .returned (.int .i64 0) ∧ w' = w:=by
  have h:=Any.bits_Len (SlLaysF0.n15.bits (P:=Try.prog) (ρ:=Try.sortV_ren) { Try.sortV with }) (0:Int) w (by omega) (by omega)
  change Calls Try.prog 46 _ _ _ at h
  exact h
theorem ins0_w (a:Option Addr) (c:Nat) (g:FuncId) (w:World):Calls Try.prog 68 #[.slice a 0 c,.int .i64 0,.int .i64 0,.func (.func g) #[] #[]] w fun e w'=>e = .returned (.tuple #[]) ∧ w' = w:=by
  go_enter Try.func68,Try.ntmps68
  go_wp2
  refine wp_loop_rounds 1 ?_
  rw [rounds_succ]
  go_wp2
  go_end0
  exact ⟨rfl,rfl⟩
theorem pdq0_w (a:Option Addr) (c:Nat) (g:FuncId) (w:World):Calls Try.prog 45 #[.slice a 0 c,.int .i64 0,.int .i64 0,.int .i64 0,.func (.func g) #[] #[]] w fun e w'=>e = .returned (.tuple #[]) ∧ w' = w:=by
  have hcon:=ins0_w a c g
  go_enter Try.func45,Try.ntmps45
  go_wp2
  refine wp_loop_rounds 1 ?_
  rw [rounds_succ]
  go_wp2_with (go_at_call 68;refine (hcon _).mono ?_;rintro e w' ⟨rfl,rfl⟩)
  exact bodyPost_ret (results_none rfl _ _ _) rfl ⟨rfl,rfl⟩
theorem sort0_w (a:Option Addr) (c:Nat) (g:FuncId) (w:World):Calls Try.prog 26 #[.slice a 0 c,.func (.func g) #[] #[]] w fun e w'=>e = .returned (.tuple #[]) ∧ w' = w:=by
  have hcon:=pdq0_w a c g
  have hlen:=len0_w
  go_enter Try.func26,Try.ntmps26
  go_wp2_with (first | (go_at_call 46;refine (hlen _).mono ?_;rintro e w' ⟨rfl,rfl⟩) | (go_at_call 45;refine (hcon _).mono ?_;rintro e w' ⟨rfl,rfl⟩))
  go_end0
  exact ⟨rfl,rfl⟩
theorem sort0_own (m:Nat) (g:FuncId) (B:Nat) (σ:Sto) (hm:m < B) (ho:σ m = .arr 12 41 []):ACalls Try.prog 26 [.os m 0,.clo (.func g) [] []] σ B [] (fun v' σ'=>v' = .tup [] ∧ σ' = σ):=by
  unfold ACalls
  intro xs w ⟨K0,hK0⟩
  obtain ⟨a,c,hxs⟩:∃ a c,xs = [.slice a 0 c,.func (.func g) #[] #[]]:=by
    obtain ⟨_,_,h3,h4⟩:=hK0
    match xs,h3,h4 with
    | [x,y],h3,h4 =>
      have e1:=h4 0 _ x rfl rfl
      have e2:=h4 1 _ y rfl rfl
      have f1:∃ a c,x = .slice a 0 c:=by
        cases e1
        unfold KS.sl
        cases K0.nl m<;>exact ⟨_,_,rfl⟩
      obtain ⟨a,c,rfl⟩:=f1
      cases e2 with
      | @clo _ _ _ fs cs h1 h2 h3 h4 =>
        have q1:fs = []:=List.eq_nil_of_length_eq_zero h1.symm
        have q2:cs = []:=List.eq_nil_of_length_eq_zero h2.symm
        exact ⟨a,c,by rw [q1,q2]⟩
  subst hxs
  refine (sort0_w a c g w).mono ?_
  rintro e w' ⟨rfl,rfl⟩
  exact ⟨_,_,σ,rfl,⟨rfl,rfl⟩,fun K hK=>⟨K,Ext.refl _ _ _ _ _,hK.1,.tup rfl (by simp)⟩⟩
theorem e26:enters Try.prog 26 = true:=by kernel_rfl
end Go.Proofs.Ytikgiadbkjmabaa
