/- The pruned graph of a drawn graph is the same graph, all of it is reached in order, and pruned again it is the same: for every code of the draws, without a condition. -/
import Derived.Test.YtfhakhbmbnbneaaHdrawg
import Derived.Test.YtfhakhbmbnbneaaHcodei
import Derived.Test.YtfhakhbmbnbneaaHreachpre
import Derived.Test.YtfhakhbmbnbneaaHeqg
import Derived.Test.YtfhakhbmbnbneaaHsame
import Derived.Test.YtfhakhbmbnbneaaQ24
import Derived.Test.YtfhakhbmbnbneaaQ26
import Derived.Test.YtfhakhbmbnbneaaQ27
import Derived.Test.YtfhakhbmbnbneaaQ5
import Derived.Test.YtfhakhbmbnbneaaQ56
import Derived.Test.YtfhakhbmbnbneaaQ57
namespace Go.Proofs.Ytfhakhbmbnbneaa.Pure
open Go.RowKit Go.Proofs.Ytfhakhbmbnbneaa.Q Go.Proofs.YtfhakhbmbnbneaaW.PrintWords
set_option linter.unusedVariables false
set_option linter.unusedSimpArgs false
theorem ev_mono {α:Type} {g:Nat→Option α} {r:α} (hm:∀ k,LeO (g k) (g (k+1))) {k0:Nat} (h:g k0=some r):Ev g r:=⟨k0,fun k hk=>by
 induction hk with
 | refl=>exact h
 | step _ ih=>exact hm _ _ ih⟩
theorem roots_one (k:Nat) (g:List Nd) (r:Int) (q:List Int) (h:impl_codesOf.f k g [r]=some q):∃ T,impl_codesOf.walk (k - 1) g r [] []=some (q,T):=by
 unfold impl_codesOf.f at h
 cases k with
 | zero=>simp [impl_codesOf.roots] at h
 | succ k=>
  simp only [impl_codesOf.roots] at h
  rw [if_pos (by simp),if_pos (by decide)] at h
  obtain ⟨b,h1,h2⟩:=Option.bind_eq_some_iff.1 h
  have e:rd [r] 0=r:=rfl
  rw [e] at h1
  cases k with
  | zero=>simp [impl_codesOf.walk] at h1
  | succ k=>
   simp only [impl_codesOf.roots] at h2
   rw [if_neg (by simp [wrap64])] at h2
   cases h2
   exact ⟨b.2,h1⟩
theorem one_roots (k:Nat) (g:List Nd) (r:Int) (q:List Int) (T:List (Int × Int)) (h:impl_codesOf.walk k g r [] []=some (q,T)):impl_codesOf.f (k+1) g [r]=some q:=by
 unfold impl_codesOf.f
 cases k with
 | zero=>simp [impl_codesOf.walk] at h
 | succ k=>
  simp only [impl_codesOf.roots]
  rw [if_pos (by simp),if_pos (by decide),show rd [r] 0=r from rfl,h]
  simp only [Option.bind_some]
  rw [if_neg (by simp [wrap64])]
theorem FnPrunedGraph:laws_FnPrunedGraph.Pure:=by
 intro l hm _ hw
 apply Ev.rounds
 unfold laws_FnPrunedGraph.f
 by_cases h:(l.length:Int)>1048576
 ·exact Ev.ite_pos h (Ev.now _)
 refine Ev.ite_neg h ?_
 obtain ⟨c,hc,hcode⟩:=newReader_ev l hw
 obtain ⟨g,r,q0,hg,s1,s2,s3⟩:=anyGraph_ev c hcode 0 (by omega) (by omega)
 have hd:Ev (fun k=>spec_DrawPrunedGraph.f k l) (g,r):=by
  unfold spec_DrawPrunedGraph.f
  exact Ev.bind0 hc (Ev.bind hg (Ev.now _))
 have hvs:=spec_validGraph_ev g r (by omega) (fun x hx=>by have:=s3 x hx;omega)
 have hvi:=impl_ValidGraph_ev g r (by omega)
 cases hv:vGraph g r with
 | false=>
  rw [hv] at hvs hvi
  have hs:Ev (fun k=>spec_PrunedGraph.f k g r) ([],0):=by unfold spec_PrunedGraph.f;exact Ev.bind hvs (Ev.ite_neg (by decide) (Ev.now _))
  have hi:Ev (fun k=>impl_PrunedGraph.f k g r) ([],0):=by unfold impl_PrunedGraph.f;exact Ev.bind hvi (Ev.ite_neg (by decide) (Ev.now _))
  have he:=equalGraph_same [] 0 (by simp) (by simp)
  refine Ev.bind hd (Ev.bind hi (Ev.bind hs (Ev.bind he (Ev.ite_pos rfl ?_))))
  exact Ev.step (fun k=>by simp only [laws_FnPrunedGraph.j0];rw [if_pos (by rfl)]) (Ev.bind hs (Ev.bind he (Ev.now _)))
 | true=>
  rw [hv] at hvs hvi
  obtain ⟨⟨p1,p2,p3,p4⟩,p5,p6,_⟩:=vGraph_parts hv
  obtain ⟨list,a1,a2,a3,a4,a5,a6,a7,a8,a9⟩:=reach_root g r p2 p5 p3 p4
  obtain ⟨q,b2,b3⟩:=codesOf_one g r p2 p5 (leaf0_of p6) p3 p4
  have hs:Ev (fun k=>spec_PrunedGraph.f k g r) (prunedL g list,0):=by unfold spec_PrunedGraph.f;exact Ev.bind hvs (Ev.ite_pos rfl (Ev.bind (spec_pruned_ev g r list p2 p5 a1 a3 a5) (Ev.now _)))
  have hi:Ev (fun k=>impl_PrunedGraph.f k g r) (prunedL g list,0):=by unfold impl_PrunedGraph.f;exact Ev.bind hvi (Ev.ite_pos rfl (Ev.bind (impl_pruned_ev g r list p2 p5 a2 a3 a4 a5 a6) (Ev.now _)))
  have hgc:Ev (fun k=>impl_CodeOf.f k g r) q:=by unfold impl_CodeOf.f;exact Ev.bind hvi (Ev.ite_pos rfl (Ev.bind b2 (Ev.now _)))
  have hgr:Ev (fun k=>impl_ReachOf.f k g r) list:=by unfold impl_ReachOf.f;exact Ev.bind hvi (Ev.ite_pos rfl (Ev.bind a2 (Ev.now _)))
  have hroot:r∈list:=by rw [← a8,getD_lt 0 a7];exact List.getElem_mem _
  have hz0:placeOf list r=0:=by
   have:=placeOf_nth a4 a7
   rw [← getD_lt 0 a7,a8] at this
   exact this
  have hpl:=prunedL_len g list
  have hpv:=pr_valid hv a4 a3 a7 a5 a6
  have hpi:=impl_ValidGraph_ev (prunedL g list) 0 (by omega)
  rw [hpv] at hpi
  obtain ⟨⟨e1,e2,e3,e4⟩,e5,e6,_⟩:=vGraph_parts hpv
  obtain ⟨K,hK⟩:=b2
  obtain ⟨T,hT⟩:=roots_one _ g r q (hK K (Nat.le_refl _))
  have hcw:=((walk_place a4 a6 _).1 r [] [] (q,T) hroot (fun a ha=>by simp at ha) hT).1
  rw [hz0] at hcw
  have hpc:Ev (fun k=>impl_codesOf.f k (prunedL g list) [0]) q:=by
   have h2:=one_roots _ (prunedL g list) 0 q (byPlace list T) hcw
   exact ev_mono (fun k=>impl_codesOf.mono (prunedL g list) [0] k) h2
  have hcp:Ev (fun k=>impl_CodeOf.f k (prunedL g list) 0) q:=by unfold impl_CodeOf.f;exact Ev.bind hpi (Ev.ite_pos rfl (Ev.bind hpc (Ev.now _)))
  have hsame:Ev (fun k=>impl_SameGraph.f k (prunedL g list) 0 g r) true:=by
   unfold impl_SameGraph.f
   have he:=equal_ev q q (by omega)
   rw [decide_eq_true rfl] at he
   exact Ev.bind hpi (Ev.ite_pos rfl (Ev.bind hvi (Ev.ite_pos rfl (Ev.bind hcp (Ev.bind hgc (Ev.bind he (Ev.now _)))))))
  obtain ⟨K2,hK2⟩:=a2
  have hrw:impl_reachOf.walk K2 g r []=some list:=hK2 K2 (Nat.le_refl _)
  have hrp:=((reach_place a4 a6 K2).1 r [] list hroot (fun a ha=>by simp at ha) hrw).1
  rw [hz0] at hrp
  have hrf:Ev (fun k=>impl_reachOf.f k (prunedL g list) 0) (list.map (placeOf list)):=ev_mono (fun k=>impl_reachOf.mono (prunedL g list) 0 k) (k0:=K2) hrp
  have hrr:Ev (fun k=>impl_ReachOf.f k (prunedL g list) 0) (list.map (placeOf list)):=by unfold impl_ReachOf.f;exact Ev.bind hpi (Ev.ite_pos rfl (Ev.bind hrf (Ev.now _)))
  have hml:(list.map (placeOf list)).length=list.length:=List.length_map _
  have hmr:∀ x∈list.map (placeOf list),0≤x∧x<((prunedL g list).length:Int):=fun x hx=>by
   obtain ⟨y,hy,rfl⟩:=List.mem_map.1 hx
   have:=pr_rng a4 hy
   omega
  have hmc:∀ x∈list.map (placeOf list),∀ k∈(nd (prunedL g list) x).f2,k∈list.map (placeOf list):=fun x hx k hk=>by
   obtain ⟨y,hy,rfl⟩:=List.mem_map.1 hx
   rw [pr_at a4 hy] at hk
   obtain ⟨z,hz,rfl⟩:=List.mem_map.1 (show k∈(nd g y).f2.map (placeOf list) from hk)
   exact List.mem_map_of_mem (a6 y hy z hz)
  have hpp:Ev (fun k=>impl_PrunedGraph.f k (prunedL g list) 0) (prunedL g list,0):=by
   unfold impl_PrunedGraph.f
   have h2:=impl_pruned_ev (prunedL g list) 0 (list.map (placeOf list)) e2 e5 hrf (by omega) (places_nodup a4) hmr hmc
   rw [pruned_again a4 a6] at h2
   exact Ev.bind hpi (Ev.ite_pos rfl (Ev.bind h2 (Ev.now _)))
  have he:=equalGraph_same (prunedL g list) 0 (by omega) (fun x hx=>by
   obtain ⟨y,hy,rfl⟩:=List.mem_map.1 (show x∈list.map (fun i=>placedN list (nd g i)) from hx)
   have:=p5.few (a5 y hy).1 (a5 y hy).2
   simp only [placedN,List.length_map]
   omega)
  refine Ev.bind hd (Ev.bind hi (Ev.bind hs (Ev.bind he (Ev.ite_pos rfl ?_))))
  refine Ev.step (fun k=>by simp only [laws_FnPrunedGraph.j0];rw [if_neg (by rw [beq_iff_eq];omega)]) ?_
  refine Ev.bind hrr ?_
  refine ev_steps (L:=fun k (_:Unit) i=>laws_FnPrunedGraph.l0 k (list.map (placeOf list)) i g r (prunedL g list) 0) (n:=list.length) (fun _=>()) (r:=true) (fun i hi2 z hz=>?_) ?_
  ·refine Ev.step (fun k=>by simp only [laws_FnPrunedGraph.l0];rw [if_pos (by omega),if_pos (by omega),rdN,places_at a4 hi2,if_pos rfl,w64s hi2 (by omega)]) hz
  ·refine Ev.step (fun k=>by simp only [laws_FnPrunedGraph.l0];rw [if_neg (by omega)]) ?_
   refine Ev.bind hsame (Ev.ite_pos rfl (Ev.ite_pos (by omega) (Ev.bind hpp (Ev.bind he (Ev.ite_pos rfl (Ev.bind hgr ?_))))))
   exact Ev.at (Ev.now _) (by rw [hpl];simp)
end Go.Proofs.Ytfhakhbmbnbneaa.Pure
