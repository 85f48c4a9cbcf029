/- The walk over a graph of the nodes that are reached: it meets them in their order. And pruned again, it is the same. -/
import Derived.Test.YtfhakhbmbnbneaaHcodepre
import Derived.Test.YtfhakhbmbnbneaaQ57
import Derived.Test.YtfhakhbmbnbneaaQ63
namespace Go.Proofs.Ytfhakhbmbnbneaa.Q
open Go.RowKit Go.Proofs.YtfhakhbmbnbneaaW.PrintWords
set_option linter.unusedVariables false
set_option linter.unusedSimpArgs false
section
variable {g:List Nd} {list:List Int}
theorem place_mem (hd:list.Nodup) {i:Int} (hi:i∈list) {S:List Int} (hS:∀ x∈S,x∈list):placeOf list i∈S.map (placeOf list)↔i∈S:=by
 constructor
 ·intro h
  obtain ⟨y,hy,e⟩:=List.mem_map.1 h
  have:=pr_inj hd (hS y hy) hi e
  rwa [← this]
 ·exact fun h=>List.mem_map_of_mem h
theorem reach_place (hd:list.Nodup) (hc:∀ x∈list,∀ k∈(nd g x).f2,k∈list):∀ k:Nat,
  (∀ (i:Int) (S r:List Int),i∈list→(∀ x∈S,x∈list)→impl_reachOf.walk k g i S=some r→impl_reachOf.walk k (prunedL g list) (placeOf list i) (S.map (placeOf list))=some (r.map (placeOf list))∧∀ x∈r,x∈list) ∧
  (∀ (q:List Int) (x:Int) (S r:List Int),(∀ z∈q,z∈list)→(∀ x∈S,x∈list)→impl_reachOf.kids k g q x S=some r→impl_reachOf.kids k (prunedL g list) (q.map (placeOf list)) x (S.map (placeOf list))=some (r.map (placeOf list))∧∀ x∈r,x∈list)
 | 0=>⟨fun _ _ _ _ _ h=>by simp [impl_reachOf.walk] at h,fun _ _ _ _ _ _ h=>by simp [impl_reachOf.kids] at h⟩
 | k+1=>by
  obtain ⟨ih0,ih1⟩:=reach_place hd hc k
  refine ⟨fun i S r hi hS h=>?_,fun q x S r hq hS h=>?_⟩
  ·have hr:=pr_rng hd hi
   have hn:rd_T45 (prunedL g list) (placeOf list i)=placedN list (nd g i):=pr_at hd hi
   have hm:=place_mem hd hi hS
   simp only [impl_reachOf.walk] at h ⊢
   rw [hn,prunedL_len,if_pos hr.1,if_pos hr.2,List.length_map]
   split at h
   ·split at h
    ·split at h
     ·rename_i hiS
      rw [if_pos (hm.2 hiS)]
      cases h
      exact ⟨rfl,hS⟩
     ·rename_i hiS
      rw [if_neg (fun z=>hiS (hm.1 z))]
      split at h
      ·rename_i hl
       rw [if_pos hl]
       have:=ih1 (nd g i).f2 0 (S++[i]) r (hc i hi) (fun y hy=>by
        rcases List.mem_append.1 hy with hy | hy
        ·exact hS y hy
        ·rw [List.mem_singleton] at hy
         rw [hy];exact hi) h
       rw [List.map_append] at this
       exact this
      ·cases h
    ·cases h
   ·cases h
  ·simp only [impl_reachOf.kids] at h ⊢
   rw [List.length_map]
   split at h
   ·rename_i hx
    rw [if_pos hx]
    split at h
    ·rename_i h0
     rw [if_pos h0]
     obtain ⟨b,h1,h2⟩:=Option.bind_eq_some_iff.1 h
     have hxl:x.toNat<q.length:=by omega
     have e1:rd q x=q[x.toNat]:=by unfold rd;rw [getD_lt 0 hxl]
     have e2:rd (q.map (placeOf list)) x=placeOf list (rd q x):=by rw [e1];unfold rd;rw [getD_lt 0 (by rw [List.length_map];exact hxl),List.getElem_map]
     have hm:rd q x∈list:=by rw [e1];exact hq _ (List.getElem_mem hxl)
     obtain ⟨c1,c2⟩:=ih0 (rd q x) S b hm hS h1
     obtain ⟨d1,d2⟩:=ih1 q (wrap64 (x+1)) b r hq c2 h2
     rw [e2,c1]
     exact ⟨d1,d2⟩
    ·cases h
   ·rename_i hx
    rw [if_neg hx]
    cases h
    exact ⟨rfl,hS⟩
theorem places_at (hd:list.Nodup) {m:Nat} (hm:m<list.length):(list.map (placeOf list)).getD m 0=(m:Int):=by
 rw [getD_lt 0 (by rw [List.length_map];exact hm),List.getElem_map,placeOf_nth hd hm]
theorem places_nodup (hd:list.Nodup):(list.map (placeOf list)).Nodup:=by
 rw [List.nodup_iff_pairwise_ne,List.pairwise_map]
 refine List.Pairwise.imp_of_mem (fun {a b} ha hb hne e=>hne (pr_inj hd ha hb e)) (List.nodup_iff_pairwise_ne.1 hd)
theorem places_place (hd:list.Nodup) {x:Int} (hx:x∈list):placeOf (list.map (placeOf list)) (placeOf list x)=placeOf list x:=by
 obtain ⟨m,hm,rfl⟩:=List.getElem_of_mem hx
 rw [placeOf_nth hd hm]
 have hm2:m<(list.map (placeOf list)).length:=by rw [List.length_map];exact hm
 have h:=placeOf_nth (places_nodup hd) hm2
 rw [List.getElem_map,placeOf_nth hd hm] at h
 exact h
theorem pruned_again (hd:list.Nodup) (hc:∀ x∈list,∀ k∈(nd g x).f2,k∈list):prunedL (prunedL g list) (list.map (placeOf list))=prunedL g list:=by
 refine List.ext_getElem (by rw [prunedL_len,List.length_map,prunedL_len]) (fun m h1 h2=>?_)
 have hm:m<list.length:=by rw [prunedL_len] at h2;exact h2
 have hmem:=List.getElem_mem hm
 simp only [prunedL,List.getElem_map]
 have e:=pr_at (g:=g) hd hmem
 unfold prunedL at e
 rw [e]
 unfold placedN
 simp only [List.map_map]
 congr 1
 refine List.map_congr_left (fun y hy=>?_)
 exact places_place hd (hc _ hmem y hy)
end
end Go.Proofs.Ytfhakhbmbnbneaa.Q
