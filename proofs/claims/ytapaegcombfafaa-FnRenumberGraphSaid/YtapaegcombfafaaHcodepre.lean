/- A graph of the nodes that are reached is valid, and its code is the graph's own. -/
import Derived.Test.YtapaegcombfafaaHpruned
import Derived.Test.YtapaegcombfafaaQ42
namespace Go.Proofs.Ytapaegcombfafaa.Q
open Go.RowKit Go.Proofs.YtapaegcombfafaaW.PrintWords
set_option linter.unusedVariables false
set_option linter.unusedSimpArgs false
theorem walk_pre:∀ k:Nat,(∀ (l:List Nd) (i:Int) (S:List Int) (T:List (Int × Int)) (r:List Int × List (Int × Int)),impl_codesOf.walk k l i S T=some r→S <+: r.1)∧(∀ (l:List Nd) (q:List Int) (x:Int) (S:List Int) (T:List (Int × Int)) (r:List Int × List (Int × Int)),impl_codesOf.kids k l q x S T=some r→S <+: r.1)
 | 0=>⟨fun _ _ _ _ _ h=>by simp [impl_codesOf.walk] at h,fun _ _ _ _ _ _ h=>by simp [impl_codesOf.kids] at h⟩
 | k+1=>by
  obtain ⟨ih0,ih1⟩:=walk_pre k
  refine ⟨fun l i S T r h=>?_,fun l q x S T r h=>?_⟩
  ·simp only [impl_codesOf.walk] at h
   split at h
   ·split at h
    ·split at h
     ·split at h
      ·cases h
       exact List.prefix_append _ _
      ·split at h
       ·split at h
        ·exact (List.prefix_append _ _).trans (ih1 _ _ _ _ _ _ h)
        ·exact (List.prefix_append _ _).trans (ih1 _ _ _ _ _ _ h)
       ·cases h
     ·cases h
    ·cases h
   ·cases h
  ·simp only [impl_codesOf.kids] at h
   split at h
   ·split at h
    ·obtain ⟨b,h1,h2⟩:=Option.bind_eq_some_iff.1 h
     exact (ih0 _ _ _ _ _ h1).trans (ih1 _ _ _ _ _ _ h2)
    ·cases h
   ·cases h
    exact List.prefix_refl _
theorem walk_first (k:Nat) (l:List Nd) (i:Int) (r:List Int × List (Int × Int)) (h:impl_codesOf.walk k l i [] []=some r):[(nd l i).f0,(nd l i).f1,((nd l i).f2.length:Int)] <+: r.1:=by
 cases k with
 | zero=>simp [impl_codesOf.walk] at h
 | succ k=>
  simp only [impl_codesOf.walk] at h
  split at h
  ·split at h
   ·split at h
    ·split at h
     ·rename_i h4
      simp at h4
     ·split at h
      ·split at h
       ·exact (walk_pre k).2 _ _ _ _ _ _ h
       ·exact (walk_pre k).2 _ _ _ _ _ _ h
      ·cases h
    ·cases h
   ·cases h
  ·cases h
section
variable {g:List Nd} {list:List Int}
theorem pr_nd (g:List Nd) (list:List Int) {m:Nat} (hm:m<list.length):nd (prunedL g list) (m:Int)=placedN list (nd g list[m]):=by
 show rd_T58 (prunedL g list) (m:Int)=_
 rw [rdG,getD_lt zNd (by rw [prunedL_len];exact hm)]
 simp [prunedL]
theorem pr_at (hd:list.Nodup) {x:Int} (hx:x∈list):nd (prunedL g list) (placeOf list x)=placedN list (nd g x):=by
 obtain ⟨m,hm,rfl⟩:=List.getElem_of_mem hx
 rw [placeOf_nth hd hm]
 exact pr_nd g list hm
theorem pr_rng (hd:list.Nodup) {x:Int} (hx:x∈list):0≤placeOf list x∧placeOf list x<(list.length:Int):=by
 obtain ⟨m,hm,rfl⟩:=List.getElem_of_mem hx
 rw [placeOf_nth hd hm]
 omega
theorem pr_inj (hd:list.Nodup) {x y:Int} (hx:x∈list) (hy:y∈list) (e:placeOf list x=placeOf list y):x=y:=by
 obtain ⟨m,hm,rfl⟩:=List.getElem_of_mem hx
 obtain ⟨n,hn,rfl⟩:=List.getElem_of_mem hy
 rw [placeOf_nth hd hm,placeOf_nth hd hn] at e
 have:m=n:=by omega
 subst this
 rfl
theorem pr_TR (hd:list.Nodup) (hc:∀ x∈list,∀ k∈(nd g x).f2,k∈list) {i j:Int} (hi:i∈list) (t:TR (prunedL g list) (placeOf list i) j):∃ x,x∈list∧j=placeOf list x∧TR g i x:=by
 induction t with
 | kid h=>
  rw [pr_at hd hi] at h
  obtain ⟨x,hx,rfl⟩:=List.mem_map.1 (show _∈(nd g i).f2.map (placeOf list) from h)
  exact ⟨x,hc i hi x hx,rfl,TR.kid hx⟩
 | over t hm hj ih=>
  obtain ⟨x,hx,rfl,tx⟩:=ih
  rw [pr_at hd hx] at hm hj
  obtain ⟨y,hy,rfl⟩:=List.mem_map.1 (show _∈(nd g x).f2.map (placeOf list) from hj)
  exact ⟨y,hc x hx y hy,rfl,TR.over tx hm hy⟩
theorem pr_key (hd:list.Nodup) {l:List Int} (hl:∀ k∈l,k∈list) {j:Nat} (hj:j<l.length):keyAt (prunedL g list) (l.map (placeOf list)) j=placedN list (keyAt g l j):=by
 unfold keyAt
 rw [getD_lt 0 (by rw [List.length_map];exact hj),getD_lt 0 hj,List.getElem_map,pr_at hd (hl _ (List.getElem_mem hj))]
theorem pr_dict (hd:list.Nodup) {l:List Int} (hl:∀ k∈l,k∈list) (h:dictOk g l=true):dictOk (prunedL g list) (l.map (placeOf list))=true:=by
 unfold dictOk at h ⊢
 rw [Bool.and_eq_true,List.all_eq_true] at h ⊢
 rw [List.length_map]
 refine ⟨fun m hm=>?_,h.2⟩
 have hm2:=List.mem_range.1 hm
 have hev:=of_decide_eq_true h.2
 have h2:=h.1 m hm
 unfold dictAt at h2 ⊢
 rw [Bool.and_eq_true,List.all_eq_true] at h2 ⊢
 rw [pr_key hd hl (by omega)]
 refine ⟨h2.1,fun j hj=>?_⟩
 have hj2:=List.mem_range.1 hj
 rw [pr_key hd hl (by omega)]
 exact h2.2 j hj
theorem pr_node (hd:list.Nodup) {x:Nd} (hl:∀ k∈x.f2,k∈list) (h:nodeB g x=true):nodeB (prunedL g list) (placedN list x)=true:=by
 unfold nodeB at h ⊢
 have e0:(placedN list x).f0=x.f0:=rfl
 have e1:(placedN list x).f1=x.f1:=rfl
 have e2:(placedN list x).f2.length=x.f2.length:=by simp [placedN]
 have e3:(placedN list x).f2=x.f2.map (placeOf list):=rfl
 rw [e0,e1,e2]
 by_cases c0:x.f0=0
 ·rw [if_pos c0] at h ⊢
  exact h
 rw [if_neg c0] at h ⊢
 by_cases c1:x.f0=1
 ·rw [if_pos c1] at h ⊢
  exact h
 rw [if_neg c1] at h ⊢
 by_cases c2:x.f0=2∨x.f0=3
 ·rw [if_pos c2] at h ⊢
  exact h
 rw [if_neg c2] at h ⊢
 by_cases c4:x.f0=4
 ·rw [if_pos c4] at h ⊢
  rw [Bool.and_eq_true] at h ⊢
  exact ⟨h.1,by rw [e3];exact pr_dict hd hl h.2⟩
 rw [if_neg c4] at h ⊢
 exact h
open Classical in
theorem pr_valid_at {r s:Int} (h:vGraph g r=true) (hd:list.Nodup) (hl:list.length≤12) (hs0:0≤s) (hs1:s<(list.length:Int)) (hin:∀ x∈list,0≤x∧x<(g.length:Int)) (hc:∀ x∈list,∀ k∈(nd g x).f2,k∈list):vGraph (prunedL g list) s=true:=by
 obtain ⟨_,p5,p6,p7⟩:=vGraph_parts h
 have hat:∀ i:Nat,i<list.length→∃ x,x∈list∧(i:Int)=placeOf list x∧nd (prunedL g list) (i:Int)=placedN list (nd g x):=fun i hi=>⟨list[i],List.getElem_mem hi,(placeOf_nth hd hi).symm,pr_nd g list hi⟩
 have hnat:∀ x∈list,∃ n:Nat,x=(n:Int)∧n<g.length:=fun x hx=>⟨x.toNat,by have:=hin x hx;omega,by have:=hin x hx;omega⟩
 unfold vGraph
 simp only [Bool.and_eq_true,decide_eq_true_eq,List.all_eq_true,List.mem_range,Bool.not_eq_true',Bool.and_eq_false_iff,decide_eq_false_iff_not]
 rw [prunedL_len]
 refine ⟨⟨⟨by omega,by omega⟩,by omega,by omega⟩,fun i hi=>?_,fun i hi=>?_,fun i hi=>?_⟩
 ·obtain ⟨x,hx,_,e⟩:=hat i hi
  rw [e,kidsOk_iff,prunedL_len]
  have hf:=p5.few (hin x hx).1 (hin x hx).2
  refine ⟨by simp [placedN];omega,fun y hy=>?_⟩
  obtain ⟨z,hz,rfl⟩:=List.mem_map.1 (show y∈(nd g x).f2.map (placeOf list) from hy)
  exact pr_rng hd (hc x hx z hz)
 ·obtain ⟨x,hx,_,e⟩:=hat i hi
  obtain ⟨n,rfl,hn⟩:=hnat x hx
  rw [e]
  exact pr_node hd (hc _ hx) (p6 n hn)
 ·obtain ⟨x,hx,ex,e⟩:=hat i hi
  obtain ⟨n,rfl,hn⟩:=hnat x hx
  by_cases h2:(nd g (n:Int)).f0=2
  ·refine .inr (fun t=>?_)
   rw [ex] at t
   obtain ⟨y,hy,ey,ty⟩:=pr_TR hd hc hx t
   have:=pr_inj hd hx hy ey
   subst this
   exact p7 n hn h2 ty
  ·refine .inl ?_
   rw [e]
   exact h2
theorem pr_valid {r:Int} (h:vGraph g r=true) (hd:list.Nodup) (hl:list.length≤12) (hp:0<list.length) (hin:∀ x∈list,0≤x∧x<(g.length:Int)) (hc:∀ x∈list,∀ k∈(nd g x).f2,k∈list):vGraph (prunedL g list) 0=true:=pr_valid_at h hd hl (by omega) (by omega) hin hc
def byPlace (list:List Int) (T:List (Int × Int)):List (Int × Int):=T.map (fun a=>(placeOf list a.1,a.2))
theorem lookup_place (hd:list.Nodup) {i:Int} (hi:i∈list):∀ (T:List (Int × Int)),(∀ a∈T,a.1∈list)→(byPlace list T).lookup (placeOf list i)=T.lookup i
 | [],_=>rfl
 | a :: T,h=>by
  have ha:=h a List.mem_cons_self
  have ih:=lookup_place hd hi T (fun b hb=>h b (List.mem_cons_of_mem _ hb))
  show List.lookup _ ((placeOf list a.1,a.2) :: byPlace list T)=List.lookup i ((a.1,a.2) :: T)
  by_cases e:i=a.1
  ·rw [← e,List.lookup_cons_self,List.lookup_cons_self]
  ·have e2:(placeOf list i == placeOf list a.1)=false:=by rw [beq_eq_false_iff_ne];exact fun z=>e (pr_inj hd hi ha z)
   have e3:(i == a.1)=false:=by rw [beq_eq_false_iff_ne];exact e
   simp only [List.lookup,e2,e3]
   exact ih
theorem walk_place (hd:list.Nodup) (hc:∀ x∈list,∀ k∈(nd g x).f2,k∈list):∀ k:Nat,
  (∀ (i:Int) (S:List Int) (T:List (Int × Int)) (r:List Int × List (Int × Int)),i∈list→(∀ a∈T,a.1∈list)→impl_codesOf.walk k g i S T=some r→impl_codesOf.walk k (prunedL g list) (placeOf list i) S (byPlace list T)=some (r.1,byPlace list r.2)∧∀ a∈r.2,a.1∈list) ∧
  (∀ (q:List Int) (x:Int) (S:List Int) (T:List (Int × Int)) (r:List Int × List (Int × Int)),(∀ z∈q,z∈list)→(∀ a∈T,a.1∈list)→impl_codesOf.kids k g q x S T=some r→impl_codesOf.kids k (prunedL g list) (q.map (placeOf list)) x S (byPlace list T)=some (r.1,byPlace list r.2)∧∀ a∈r.2,a.1∈list)
 | 0=>⟨fun _ _ _ _ _ _ h=>by simp [impl_codesOf.walk] at h,fun _ _ _ _ _ _ _ h=>by simp [impl_codesOf.kids] at h⟩
 | k+1=>by
  obtain ⟨ih0,ih1⟩:=walk_place hd hc k
  refine ⟨fun i S T r hi hT h=>?_,fun q x S T r hq hT h=>?_⟩
  ·have hr:=pr_rng hd hi
   have hn:rd_T58 (prunedL g list) (placeOf list i)=placedN list (nd g i):=pr_at hd hi
   have hl:=lookup_place hd hi T hT
   have hlen:(byPlace list T).length=T.length:=by simp [byPlace]
   have hk2:∀ z∈(nd g i).f2,z∈list:=hc i hi
   have f2l:(placedN list (nd g i)).f2.length=(nd g i).f2.length:=by simp [placedN]
   simp only [impl_codesOf.walk] at h ⊢
   rw [hn,hl,hlen,prunedL_len,if_pos hr.1,if_pos hr.2,f2l]
   split at h
   ·split at h
    ·split at h
     ·rename_i hS
      rw [if_pos hS]
      split at h
      ·rename_i hs
       rw [if_pos hs]
       cases h
       exact ⟨rfl,hT⟩
      ·rename_i hs
       rw [if_neg hs]
       split at h
       ·rename_i hTl
        rw [if_pos hTl]
        split at h
        ·rename_i h0
         rw [if_pos (show (placedN list (nd g i)).f0=0 from h0)]
         exact ih1 (nd g i).f2 0 _ T r hk2 hT h
        ·rename_i h0
         rw [if_neg (show ¬ (placedN list (nd g i)).f0=0 from h0)]
         have hT2:∀ a∈T++[(i,(T.length:Int))],a.1∈list:=fun a ha=>by
          rcases List.mem_append.1 ha with ha | ha
          ·exact hT a ha
          ·rw [List.mem_singleton] at ha
           rw [ha];exact hi
         have:=ih1 (nd g i).f2 0 _ (T++[(i,(T.length:Int))]) r hk2 hT2 h
         rw [show byPlace list (T++[(i,(T.length:Int))])=byPlace list T++[(placeOf list i,(T.length:Int))] by simp [byPlace]] at this
         exact this
       ·cases h
     ·cases h
    ·cases h
   ·cases h
  ·simp only [impl_codesOf.kids] at h ⊢
   rw [List.length_map]
   split at h
   ·rename_i hx
    rw [if_pos hx]
    split at h
    ·rename_i h0
     rw [if_pos h0]
     obtain ⟨b,h1,h2⟩:=Option.bind_eq_some_iff.1 h
     have hxl:x.toNat<q.length:=by omega
     have e1:rd q x=q[x.toNat]:=by unfold rd;rw [getD_lt 0 hxl]
     have e2:rd (q.map (placeOf list)) x=placeOf list (rd q x):=by rw [e1];unfold rd;rw [getD_lt 0 (by rw [List.length_map];exact hxl),List.getElem_map]
     have hm:rd q x∈list:=by rw [e1];exact hq _ (List.getElem_mem hxl)
     obtain ⟨c1,c2⟩:=ih0 (rd q x) S T b hm hT h1
     obtain ⟨d1,d2⟩:=ih1 q (wrap64 (x+1)) b.1 b.2 r hq c2 h2
     rw [e2,c1]
     exact ⟨d1,d2⟩
    ·cases h
   ·rename_i hx
    rw [if_neg hx]
    cases h
    exact ⟨rfl,hT⟩
end
end Go.Proofs.Ytapaegcombfafaa.Q
