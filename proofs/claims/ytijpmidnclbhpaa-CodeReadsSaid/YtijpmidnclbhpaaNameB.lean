/- A cell of a box that is nil,taken for an empty array of one's own. -/
import Derived.Test.YtijpmidnclbhpaaBase
namespace Go.Proofs.Ytijpmidnclbhpaa
open Go.RowKit
set_option linter.unusedSimpArgs false
set_option linter.unusedVariables false
theorem Wk.nameB {B:Nat} {T0:List Nat} {r:Sto} {a:Fr} {l:Loc} {b j n k:Nat} {E:TypeId} {cs:List AV} (hb:sto l r b = .box cs) (hj:cs[j]? = some (.d (.v (.slice none 0 0)))) (hbn:b ≠ n) (hk:0 < k) (hn:B ≤ n ∨ n ∈ T0) (hr:∀ m,(r m).kill n = r m):Wk B T0 r a l (newF n a) (Loc.set b (.box ((cs.map (AV.kill n)).set j (.os n 0))) (newL n (.arr k E []) l)):=fun t w K h1 h2=>by
  let K':KS:={ K with nl:=fun m=>if m = n then true else K.nl m,ad:=fun m=>if m = n then none else K.ad m }
  have hsame:∀ m,m ≠ n → K.same K' m:=fun m hm=>⟨rfl,rfl,if_neg hm,if_neg hm⟩
  have hσ:∀ m,sto (newL n (.arr k E []) l) r m = if m = n then .arr k E [] else (sto l r m).kill n:=fun m=>sto_newL _ _ _ _ hr m
  have hnl:K'.nl n = true:=if_pos rfl
  have hS1:RepS K' (sto (newL n (.arr k E []) l) r) w:=h1.bind (fun b=>Iff.rfl) (Keep.refl _ _) hsame (fun _ _ _=>rfl) (o:=.arr k E []) ⟨hk,.inl ⟨hnl,rfl⟩⟩ (fun m hm hl hl2=>by simp only [AO.live,hnl] at hl2;cases hl2) hσ
  let cs':List AV:=(cs.map (AV.kill n)).set j (.os n 0)
  have hσ2:∀ m,sto (Loc.set b (.box cs') (newL n (.arr k E []) l)) r m = if m = b then .box cs' else sto (newL n (.arr k E []) l) r m:=fun m=>sto_set _ _ _ _ m
  have hlive:∀ m,(sto (Loc.set b (.box cs') (newL n (.arr k E []) l)) r m).live K' m → (sto (newL n (.arr k E []) l) r m).live K' m:=fun m h=>by
    rw [hσ2] at h
    split at h
    · rename_i e;subst e;rw [hσ,if_neg hbn,hb];trivial
    · exact h
  refine ⟨K',⟨fun m hm hT=>hsame m (fun e=>hn.elim (by omega) (fun h=>hT (e ▸ h))),fun b h=>h,Keep.refl _ _,fun b' hb'=>?_⟩,⟨hS1.gl,hS1.inI,fun m=>?_,fun i j' hi hj' e=>hS1.inj i j' (hlive i hi) (hlive j' hj') e⟩,?_⟩
  · rcases hb' with hb' | ⟨m,hl,rfl⟩
    · exact .inl hb'
    · have hl:=hlive m hl
      by_cases hm:m = n
      · subst hm;rw [hσ,if_pos rfl] at hl;simp only [AO.live,hnl] at hl;cases hl
      · rw [hσ,if_neg hm,AO.kill_live,live_same (hsame m hm)] at hl
        exact .inr (.inr ⟨m,hl,rfl⟩)
  · rw [hσ2]
    split
    · rename_i e
      subst e
      have hO:=h1.obj m
      rw [hb] at hO
      obtain ⟨g1,xs,T,g2,g3,g4,g5⟩:=hO
      refine ⟨g1,xs,T,g2,by simpa [cs'] using g3,fun i c x hc hx=>?_,g5⟩
      simp only [cs',List.getElem?_set,List.length_map,List.getElem?_map] at hc
      split at hc
      · rename_i e
        subst e
        split at hc
        · cases hc
          have:=g4 j _ x hj hx
          have hv:x = .slice none 0 0:=by cases this with | d h=>exact h.int
          subst hv
          have:Rep K' w (.os n 0) (K'.sl n 0):=.os
          simpa [KS.sl,K'] using this
        · cases hc
      · rcases hcs:cs[i]? with _ | c0
        · rw [hcs] at hc;cases hc
        · rw [hcs] at hc
          cases hc
          exact Rep.kill (K:=K) (K':=K') (w:=w) (w':=w) (n:=n) (fun b h=>h) (Keep.refl _ _) hsame (g4 i c0 x hcs hx)
    · exact hS1.obj m
  · exact RepF.kill (K':=K') (n:=n) h2 (fun b h=>h) (Keep.refl _ _) hsame
end Go.Proofs.Ytijpmidnclbhpaa
