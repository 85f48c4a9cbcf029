/- A drawn graph with new numbers for its nodes is valid and the same graph, and numbered back it is the graph: for every code of the draws, without a condition. -/
import Derived.Test.YtapaegcombfafaaHdrawg
import Derived.Test.YtapaegcombfafaaHcodei
import Derived.Test.YtapaegcombfafaaHrenumpre
import Derived.Test.YtapaegcombfafaaHeqg
import Derived.Test.YtapaegcombfafaaHsame
import Derived.Test.YtapaegcombfafaaQ10
import Derived.Test.YtapaegcombfafaaQ30
import Derived.Test.YtapaegcombfafaaQ31
import Derived.Test.YtapaegcombfafaaQ35
import Derived.Test.YtapaegcombfafaaQ38
namespace Go.Proofs.Ytapaegcombfafaa.Pure
open Go.RowKit Go.Proofs.Ytapaegcombfafaa.Q Go.Proofs.YtapaegcombfafaaW.PrintWords
set_option linter.unusedVariables false
set_option linter.unusedSimpArgs false
theorem ev_mono {α:Type} {g:Nat→Option α} {r:α} (hm:∀ k,LeO (g k) (g (k+1))) {k0:Nat} (h:g k0=some r):Ev g r:=⟨k0,fun k hk=>by
 induction hk with
 | refl=>exact h
 | step _ ih=>exact hm _ _ ih⟩
theorem roots_one (k:Nat) (g:List Nd) (r:Int) (q:List Int) (h:impl_codesOf.f k g [r]=some q):∃ T,impl_codesOf.walk (k - 1) g r [] []=some (q,T):=by
 unfold impl_codesOf.f at h
 cases k with
 | zero=>simp [impl_codesOf.roots] at h
 | succ k=>
  simp only [impl_codesOf.roots] at h
  rw [if_pos (by simp),if_pos (by decide)] at h
  obtain ⟨b,h1,h2⟩:=Option.bind_eq_some_iff.1 h
  have e:rd [r] 0=r:=rfl
  rw [e] at h1
  cases k with
  | zero=>simp [impl_codesOf.walk] at h1
  | succ k=>
   simp only [impl_codesOf.roots] at h2
   rw [if_neg (by simp [wrap64])] at h2
   cases h2
   exact ⟨b.2,h1⟩
theorem one_roots (k:Nat) (g:List Nd) (r:Int) (q:List Int) (T:List (Int × Int)) (h:impl_codesOf.walk k g r [] []=some (q,T)):impl_codesOf.f (k+1) g [r]=some q:=by
 unfold impl_codesOf.f
 cases k with
 | zero=>simp [impl_codesOf.walk] at h
 | succ k=>
  simp only [impl_codesOf.roots]
  rw [if_pos (by simp),if_pos (by decide),show rd [r] 0=r from rfl,h]
  simp only [Option.bind_some]
  rw [if_neg (by simp [wrap64])]
theorem copy_all (l:List Int) (h:l.length<17592186044416):spec_copyInts.f l=some l:=by
 unfold spec_copyInts.f
 rw [Option.bind_some,if_pos (by rw [List.length_nil];omega),List.nil_append]
theorem draw_order (c:List Int) (hc:Q.Code c) (g:List Nd) (r:Int) (h1:1≤g.length) (h2:g.length≤10):∀ (d i:Nat) (o:List Int) (p:Int),g.length - i=d→i≤g.length→o.length=i→0≤p→p≤800000000+(i:Int) →
  ∃ o2:List Int,Ev (fun k=>spec_DrawRenumberGraph.l0 k o (i:Int) c p g r) (g,r,o2)∧o2.length=g.length:=by
 intro d
 induction d with
 | zero=>
  intro i o p hd hi ho hp0 hp1
  obtain ⟨x,hx,x0,_⟩:=pickE c hc p 12 hp0 (by omega)
  have hw:wrap64 ((o.length:Int) - 1)=(o.length:Int) - 1:=w64 (by omega)
  by_cases hz:x=0
  ·obtain ⟨y,hy,_⟩:=oneE c hc (p+1) [(-1),(g.length:Int),rd o ((o.length:Int) - 1)] (by omega) (by omega) (by simp)
   refine ⟨o.set 0 y,Ev.step (fun k=>by simp only [spec_DrawRenumberGraph.l0];rw [if_neg (by omega),hw]) ?_,by rw [List.length_set];omega⟩
   exact Ev.bind hx (Ev.ite_pos hz (Ev.ite_pos (by omega) (Ev.ite_pos (by omega) (Ev.bind hy (Ev.ite_pos (by omega) (Ev.now _))))))
  ·refine ⟨o,Ev.step (fun k=>by simp only [spec_DrawRenumberGraph.l0];rw [if_neg (by omega)]) ?_,by omega⟩
   exact Ev.bind hx (Ev.ite_neg hz (Ev.now _))
 | succ d ih=>
  intro i o p hd hi ho hp0 hp1
  obtain ⟨x,hx,x0,x1⟩:=pickE c hc p ((o.length:Int)+1) hp0 (by omega)
  have x1:=x1 (by omega)
  obtain ⟨n,rfl⟩:=Int.eq_ofNat_of_zero_le x0
  have hl:(o.take n++[(i:Int)]++o.drop n).length=i+1:=by simp only [List.length_append,List.length_take,List.length_drop,List.length_singleton];omega
  obtain ⟨o2,b1,b2⟩:=ih (i+1) (o.take n++[(i:Int)]++o.drop n) (p+1) (by omega) (by omega) hl (by omega) (by omega)
  refine ⟨o2,Ev.step (fun k=>by simp only [spec_DrawRenumberGraph.l0];rw [if_pos (by omega),w64 (e:=(o.length:Int)+1) (by omega),w64s (n:=g.length) (by omega) (by omega)]) ?_,b2⟩
  have hln:(o.drop n).length<17592186044416:=by rw [List.length_drop];omega
  have hlt:(o.take n).length<17592186044416:=by rw [List.length_take];omega
  refine Ev.bind hx (Ev.ite_pos (by omega) (Ev.ite_pos (by omega) ?_))
  show Ev (fun k=>(spec_copyInts.f (o.drop n)).bind _) _
  refine Ev.bind0 (copy_all _ hln) (Ev.bind0 rfl (Ev.ite_pos hlt (Ev.bind0 rfl (Ev.ite_pos ?_ b1))))
  have e1:(o.take n++[(i:Int)]++o.drop n).length=(o.take n++[(i:Int)]).length+(o.drop n).length:=List.length_append
  show (o.take n++[(i:Int)]).length+(o.drop n).length<17592186044416
  omega
theorem FnRenumberGraph:laws_FnRenumberGraph.Pure:=by
 intro l hm _ hw
 apply Ev.rounds
 unfold laws_FnRenumberGraph.f
 by_cases h:(l.length:Int)>1048576
 ·exact Ev.ite_pos h (Ev.now _)
 refine Ev.ite_neg h ?_
 obtain ⟨c,hc,hcode⟩:=newReader_ev l hw
 obtain ⟨g,r,q0,hg,hq0,hq1,s1,s2,s3⟩:=anyGraph_evq c hcode 0 (by omega) (by omega)
 obtain ⟨o,ho,hol⟩:=draw_order c hcode g r s1 s2 _ 0 [] q0 rfl (by omega) rfl hq0 (by omega)
 have hd:Ev (fun k=>spec_DrawRenumberGraph.f k l) (g,r,o):=by
  unfold spec_DrawRenumberGraph.f
  exact Ev.bind0 hc (Ev.bind hg ho)
 have hk2:∀ x∈g,x.f2.length≤1048576:=fun x hx=>by have:=s3 x hx;omega
 obtain ⟨hs,hi⟩:=renum_val g r o (by omega) hk2 (by omega)
 by_cases hok:vGraph g r=true∧orderB g o=true
 ·obtain ⟨hv,hob⟩:=hok
  have hP:=order_perm hob
  obtain ⟨⟨p1,p2,p3,p4⟩,p5,p6,_⟩:=vGraph_parts hv
  have hB:=back_perm hP
  have hbl:=backL_len g.length o
  have hpl:=prunedL_len g (backL g.length o)
  obtain ⟨rn,rfl⟩:=Int.eq_ofNat_of_zero_le p3
  have hrn:rn<o.length:=by omega
  have hpr:=place_back hP hrn
  have hro:=hP.rng _ (List.getElem_mem hrn)
  have hval:renumV g (rn:Int) o=(prunedL g (backL g.length o),o[rn]):=by
   unfold renumV
   rw [if_pos ⟨hv,hob⟩,laid_pruned p5 hP,Int.toNat_natCast,getD_lt 0 hrn]
  rw [hval] at hs hi
  have hclosed:∀ x∈backL g.length o,∀ k∈(nd g x).f2,k∈backL g.length o:=fun x hx k hk=>by
   have a:=hB.rng x hx
   have b:=p5.mem a.1 a.2 hk
   exact hB.mem b.1 b.2
  have hrm:(rn:Int)∈backL g.length o:=hB.mem (by omega) (by omega)
  have hvo:vGraph (prunedL g (backL g.length o)) o[rn]=true:=pr_valid_at hv hB.nodup (by omega) hro.1 (by omega) hB.rng hclosed
  have hvi:=impl_ValidGraph_ev g (rn:Int) (by omega)
  have hvp:=impl_ValidGraph_ev (prunedL g (backL g.length o)) o[rn] (by omega)
  rw [hv] at hvi
  rw [hvo] at hvp
  obtain ⟨⟨e1,e2,e3,e4⟩,e5,e6,_⟩:=vGraph_parts hvo
  obtain ⟨q,b2,b3⟩:=codesOf_one g (rn:Int) p2 p5 (leaf0_of p6) p3 p4
  have hgc:Ev (fun k=>impl_CodeOf.f k g (rn:Int)) q:=by unfold impl_CodeOf.f;exact Ev.bind hvi (Ev.ite_pos rfl (Ev.bind b2 (Ev.now _)))
  obtain ⟨K,hK⟩:=b2
  obtain ⟨T,hT⟩:=roots_one _ g _ q (hK K (Nat.le_refl _))
  have hcw:=((walk_place hB.nodup hclosed _).1 (rn:Int) [] [] (q,T) hrm (fun a ha=>by simp at ha) hT).1
  rw [hpr] at hcw
  have hpc:Ev (fun k=>impl_codesOf.f k (prunedL g (backL g.length o)) [o[rn]]) q:=by
   have h2:=one_roots _ (prunedL g (backL g.length o)) o[rn] q (byPlace (backL g.length o) T) hcw
   exact ev_mono (fun k=>impl_codesOf.mono (prunedL g (backL g.length o)) [o[rn]] k) h2
  have hcp:Ev (fun k=>impl_CodeOf.f k (prunedL g (backL g.length o)) o[rn]) q:=by unfold impl_CodeOf.f;exact Ev.bind hvp (Ev.ite_pos rfl (Ev.bind hpc (Ev.now _)))
  have hsame:Ev (fun k=>impl_SameGraph.f k (prunedL g (backL g.length o)) o[rn] g (rn:Int)) true:=by
   unfold impl_SameGraph.f
   have he:=equal_ev q q (by omega)
   rw [decide_eq_true rfl] at he
   exact Ev.bind hvp (Ev.ite_pos rfl (Ev.bind hvi (Ev.ite_pos rfl (Ev.bind hcp (Ev.bind hgc (Ev.bind he (Ev.now _)))))))
  have hB2:Perm (prunedL g (backL g.length o)).length (backL g.length o):=by rw [hpl,hbl];exact hB
  have hkp:∀ x∈prunedL g (backL g.length o),x.f2.length≤1048576:=fun x hx=>by
   obtain ⟨y,hy,rfl⟩:=List.mem_map.1 (show x∈(backL g.length o).map (fun i=>placedN (backL g.length o) (nd g i)) from hx)
   have:=p5.few (hB.rng y hy).1 (hB.rng y hy).2
   simp only [placedN,List.length_map]
   omega
  obtain ⟨_,hback⟩:=renum_val (prunedL g (backL g.length o)) o[rn] (backL g.length o) (by omega) hkp (by omega)
  have hbv:renumV (prunedL g (backL g.length o)) o[rn] (backL g.length o)=(g,(rn:Int)):=by
   unfold renumV
   have hm2:(o[rn]).toNat<(backL g.length o).length:=by omega
   rw [if_pos ⟨hvo,perm_order hB2⟩,laid_pruned e5 hB2,hpl,hbl,back_back hP,pruned_back p5 hP,getD_lt 0 hm2,backL_at,show (((o[rn]).toNat:Nat):Int)=o[rn] by omega,placeOf_nth hP.nodup hrn]
  rw [hbv] at hback
  have he:=equalGraph_same (prunedL g (backL g.length o)) o[rn] (by omega) (fun x hx=>by have:=hkp x hx;omega)
  have heg:=equalGraph_same g (rn:Int) (by omega) (fun x hx=>by have:=hk2 x hx;omega)
  refine Ev.bind hd (Ev.bind hi (Ev.bind hs (Ev.bind he (Ev.ite_pos rfl ?_))))
  refine Ev.step (fun k=>by simp only [laws_FnRenumberGraph.j0];rw [if_neg (by rw [beq_iff_eq];omega),if_pos (by omega),if_pos (by omega)]) ?_
  have hset:∀ i:Nat,i≤o.length→∃ a:List Int,a.length=o.length∧(∀ j,(hj:j<o.length)→j<i→a.getD (o[j]).toNat 0=(j:Int))∧(∀ z,Ev (fun k=>laws_FnRenumberGraph.l0 k o a (i:Int) g (rn:Int) (prunedL g (backL g.length o)) o[rn]) z→Ev (fun k=>laws_FnRenumberGraph.l0 k o (List.replicate ((o.length:Int):Int).toNat 0) 0 g (rn:Int) (prunedL g (backL g.length o)) o[rn]) z):=by
   intro i
   induction i with
   | zero=>exact fun _=>⟨List.replicate ((o.length:Int):Int).toNat 0,by simp,fun j hj h2=>by omega,fun z hz=>hz⟩
   | succ i ih=>
    intro hi2
    obtain ⟨a,a1,a2,a3⟩:=ih (by omega)
    have hil:i<o.length:=by omega
    have hr:=hP.rng _ (List.getElem_mem hil)
    refine ⟨a.set (o[i]).toNat (i:Int),by rw [List.length_set,a1],fun j hj h2=>?_,fun z hz=>a3 z ?_⟩
    ·rw [List.getD_eq_getElem?_getD]
     by_cases e:j=i
     ·subst e
      rw [List.getElem?_set_self (by omega)]
      rfl
     ·have hn:=hP.nodup
      unfold List.Nodup at hn
      rw [List.pairwise_iff_getElem] at hn
      have hne:=hn j i hj hil (by omega)
      have hrj:=hP.rng _ (List.getElem_mem hj)
      rw [List.getElem?_set_ne (by omega),← List.getD_eq_getElem?_getD]
      exact a2 j hj (by omega)
    ·refine Ev.step (fun k=>by simp only [laws_FnRenumberGraph.l0];rw [if_pos (by omega),if_pos (by omega),rdN,getD_lt 0 hil,if_pos hr.1,if_pos (by omega),w64s hil (by omega)]) hz
  obtain ⟨a,a1,a2,a3⟩:=hset o.length (Nat.le_refl _)
  have hab:a=backL g.length o:=by
   refine List.ext_getElem (by omega) (fun m hm1 hm2=>?_)
   obtain ⟨i,hi2,x1,x2⟩:=perm_at hP (x:=(m:Int)) (by omega) (by omega)
   have:=a2 i hi2 hi2
   rw [x1,Int.toNat_natCast,getD_lt 0 hm1] at this
   rw [this,backL_at,x2]
  subst hab
  refine a3 true ?_
  refine Ev.step (fun k=>by simp only [laws_FnRenumberGraph.l0];rw [if_neg (by omega)]) ?_
  exact Ev.bind hvp (Ev.ite_pos rfl (Ev.bind hsame (Ev.ite_pos rfl (Ev.bind hback (Ev.bind heg (Ev.now _))))))
 ·have hval:renumV g r o=([],0):=by unfold renumV;rw [if_neg hok]
  rw [hval] at hs hi
  have he:=equalGraph_same [] 0 (by simp) (by simp)
  refine Ev.bind hd (Ev.bind hi (Ev.bind hs (Ev.bind he (Ev.ite_pos rfl ?_))))
  exact Ev.step (fun k=>by simp only [laws_FnRenumberGraph.j0];rw [if_pos (by rfl)]) (Ev.bind hs (Ev.bind he (Ev.now _)))
end Go.Proofs.Ytapaegcombfafaa.Pure
