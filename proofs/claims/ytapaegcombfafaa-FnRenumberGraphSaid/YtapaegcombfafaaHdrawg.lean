/- The graphs that are drawn: there is one for every code, and it is small. -/
import Derived.Test.YtapaegcombfafaaHdraw
import Derived.Test.YtapaegcombfafaaHcircle
import Derived.Test.YtapaegcombfafaaQ52
import Derived.Test.YtapaegcombfafaaQ65
import Derived.Test.YtapaegcombfafaaQ86
import Derived.Test.YtapaegcombfafaaQ97
namespace Go.Proofs.Ytapaegcombfafaa.Q
open Go.RowKit Go.Proofs.YtapaegcombfafaaW.PrintWords
set_option linter.unusedVariables false
set_option linter.unusedSimpArgs false
theorem pickE (b:List Int) (hb:Code b) (p n:Int) (h0:0≤p) (h1:p≤1000000000):∃ r:Int,Ev (fun k=>spec_reader_pick.f k b p n) (r,p+1)∧0≤r∧(1≤n→r<n):=by
 obtain ⟨r,h,a,c,_⟩:=pick_ev b hb p n h0 h1
 exact ⟨r,⟨1,fun k hk=>by obtain ⟨j,rfl⟩:∃ j,k=j+1:=⟨k - 1,by omega⟩;exact h j⟩,a,c⟩
theorem oneE (b:List Int) (hb:Code b) (p:Int) (l:List Int) (h0:0≤p) (h1:p≤1000000000) (hl:0<l.length):∃ r:Int,Ev (fun k=>spec_reader_one.f k b p l) (r,p+1)∧r∈l:=by
 obtain ⟨r,h,a⟩:=one_ev b hb p l h0 h1 hl
 exact ⟨r,⟨1,fun k hk=>by obtain ⟨j,rfl⟩:∃ j,k=j+1:=⟨k - 1,by omega⟩;exact h j⟩,a⟩
theorem someNode_ev (b:List Int) (hb:Code b) (p:Int) (h0:0≤p) (h1:p≤900000000):∃ x y q:Int,Ev (fun k=>spec_someNode.f k b p) (x,y,([]:List Int),q)∧p≤q∧q≤p+5:=by
 unfold spec_someNode.f
 obtain ⟨r,hr,r0,r1⟩:=pickE b hb p 8 h0 (by omega)
 have J1:∀ f:Bool,∃ x y q:Int,Ev (fun k=>spec_someNode.j1 k r f b (p+1)) (x,y,([]:List Int),q)∧p≤q∧q≤p+5:=by
  intro f
  cases f with
  | true=>exact ⟨_,_,_,Ev.step (fun k=>by simp only [spec_someNode.j1];rw [if_pos trivial]) (Ev.now _),by omega,by omega⟩
  | false=>
   by_cases c6:r=6
   ·exact ⟨_,_,_,Ev.step (fun k=>by simp only [spec_someNode.j1];rw [if_neg (by decide),if_pos c6]) (Ev.now _),by omega,by omega⟩
   ·obtain ⟨r2,hr2,_,_⟩:=pickE b hb (p+1) 3 (by omega) (by omega)
    exact ⟨_,_,_,Ev.step (fun k=>by simp only [spec_someNode.j1];rw [if_neg (by decide),if_neg c6]) (Ev.bind hr2 (Ev.now _)),by omega,by omega⟩
 have J0:∀ f:Bool,∃ x y q:Int,Ev (fun k=>spec_someNode.j0 k r f b (p+1)) (x,y,([]:List Int),q)∧p≤q∧q≤p+5:=by
  intro f
  cases f with
  | true=>exact ⟨_,_,_,Ev.step (fun k=>by simp only [spec_someNode.j0];rw [if_pos trivial]) (Ev.now _),by omega,by omega⟩
  | false=>
   by_cases c4:r=4
   ·obtain ⟨x,y,q,h,h2,h3⟩:=J1 (r == 4)
    exact ⟨x,y,q,Ev.step (fun k=>by simp only [spec_someNode.j0];rw [if_neg (by decide),if_pos c4]) h,h2,h3⟩
   ·obtain ⟨x,y,q,h,h2,h3⟩:=J1 (r == 5)
    exact ⟨x,y,q,Ev.step (fun k=>by simp only [spec_someNode.j0];rw [if_neg (by decide),if_neg c4]) h,h2,h3⟩
 by_cases c0:r=0
 ·obtain ⟨r2,hr2,_,_⟩:=pickE b hb (p+1) 250 (by omega) (by omega)
  obtain ⟨r3,hr3,_⟩:=oneE b hb (p+1+1) [5,127,128,999,r2] (by omega) (by omega) (by simp)
  exact ⟨_,_,_,Ev.bind hr (Ev.ite_pos c0 (Ev.bind hr2 (Ev.bind hr3 (Ev.now _)))),by omega,by omega⟩
 by_cases c1:r=1
 ·obtain ⟨r2,hr2,_,_⟩:=pickE b hb (p+1) 3 (by omega) (by omega)
  exact ⟨_,_,_,Ev.bind hr (Ev.ite_neg c0 (Ev.ite_pos c1 (Ev.bind hr2 (Ev.now _)))),by omega,by omega⟩
 by_cases c2:r=2
 ·obtain ⟨x,y,q,h,h2,h3⟩:=J0 (r == 2)
  exact ⟨x,y,q,Ev.bind hr (Ev.ite_neg c0 (Ev.ite_neg c1 (Ev.ite_pos c2 h))),h2,h3⟩
 ·obtain ⟨x,y,q,h,h2,h3⟩:=J0 (r == 3)
  exact ⟨x,y,q,Ev.bind hr (Ev.ite_neg c0 (Ev.ite_neg c1 (Ev.ite_neg c2 h))),h2,h3⟩
def OneNew (g g':List Nd) (i:Nat):Prop:=g'.length=g.length∧(∀ j,j≠i→g'.getD j zNd=g.getD j zNd)∧∀ x∈g',x.f2.length≤8
theorem oneNew_set {g:List Nd} {i:Nat} {x:Nd} (hg:∀ y∈g,y.f2.length≤8) (hx:x.f2.length≤8):OneNew g (g.set i x) i:=by
 refine ⟨List.length_set,fun j hj=>?_,fun y hy=>?_⟩
 ·rw [List.getD_eq_getElem?_getD,List.getD_eq_getElem?_getD,List.getElem?_set_ne (Ne.symm hj)]
 ·rcases List.mem_or_eq_of_mem_set hy with hy | hy
  ·exact hg y hy
  ·rw [hy];exact hx
theorem addKids_loop (b:List Int) (hb:Code b) (g:List Nd) (r f0 f1:Int) {i:Nat} (hi:i<g.length) (hg:g.length≤10) (hk:∀ x∈g,x.f2.length≤8) :
  ∀ (n:Nat) (p:Int) (xs:List Int),n≤4→0≤p→p+2 * (n:Int)≤900000000→xs.length+2 * n≤8 →
   ∃ (g':List Nd) (q:Int),Ev (fun k=>spec_addKids.l0 k (i:Int) (n:Int) b p g r f0 f1 xs) (g',r,q)∧p≤q∧q≤p+2 * n∧OneNew g g' i:=by
 intro n
 induction n with
 | zero=>
  intro p xs _ h0 h1 hx
  have hv:=spec_validGraph_ev (g.set i ⟨f0,f1,xs⟩) r (by rw [List.length_set];omega) (fun x hx2=>by
   rcases List.mem_or_eq_of_mem_set hx2 with hx2 | hx2
   ·have:=hk x hx2;omega
   ·rw [hx2];show xs.length≤_;omega)
  have o1:OneNew g (g.set i ⟨f0,f1,xs⟩) i:=oneNew_set hk (by show xs.length≤8;omega)
  have st:∀ {z:List Nd × Int × Int},Ev (fun k=>(spec_validGraph.f k (g.set i ⟨f0,f1,xs⟩) r).bind fun t=>if t=true then some (g.set i ⟨f0,f1,xs⟩,r,p) else some (((g.set i ⟨f0,f1,xs⟩).set i ⟨(rd_T58 g (i:Int)).f0,(rd_T58 g (i:Int)).f1,([]:List Int)⟩),r,p)) z →
    Ev (fun k=>spec_addKids.l0 k (i:Int) ((0:Nat):Int) b p g r f0 f1 xs) z:=fun h=>Ev.step (fun k=>by
     simp only [spec_addKids.l0]
     rw [if_neg (by omega),if_pos (by omega),if_pos (by omega),Option.bind_some,show ((i:Int)).toNat=i from rfl]) h
  cases hb2:vGraph (g.set i ⟨f0,f1,xs⟩) r with
  | true=>
   rw [hb2] at hv
   exact ⟨_,_,st (Ev.bind hv (Ev.ite_pos rfl (Ev.now _))),by omega,by omega,o1⟩
  | false=>
   rw [hb2] at hv
   refine ⟨_,_,st (Ev.bind hv (Ev.ite_neg (by decide) (Ev.now _))),by omega,by omega,?_⟩
   rw [List.set_set]
   exact oneNew_set hk (by show ([]:List Int).length≤8;simp)
 | succ n ih=>
  intro p xs hn h0 h1 hx
  obtain ⟨kid,hkid,k0,k1⟩:=pickE b hb p (g.length:Int) h0 (by omega)
  have k1:=k1 (by omega)
  have hw:wrap64 (((n+1:Nat):Int) - 1)=(n:Int):=by rw [w64 (by omega)];omega
  have J1:∀ f:Bool,∃ (g':List Nd) (q:Int),Ev (fun k=>spec_addKids.j1 k (i:Int) ((n+1:Nat):Int) kid f0 f b (p+1) g r f0 f1 xs) (g',r,q)∧p≤q∧q≤p+2 * ((n+1:Nat):Int)∧OneNew g g' i:=by
   intro f
   have same:∃ (g':List Nd) (q:Int),Ev (fun k=>spec_addKids.l0 k (i:Int) (n:Int) b (p+1) g r f0 f1 xs) (g',r,q)∧p≤q∧q≤p+2 * ((n+1:Nat):Int)∧OneNew g g' i:=by
    obtain ⟨g',q,h,q0,q1,o⟩:=ih (p+1) xs (by omega) (by omega) (by omega) (by omega)
    exact ⟨g',q,h,by omega,by omega,o⟩
   cases f with
   | true=>
    obtain ⟨g',q,h,q0,q1,o⟩:=ih (p+1) (xs++[kid]) (by omega) (by omega) (by omega) (by rw [List.length_append,List.length_singleton];omega)
    exact ⟨g',q,Ev.step (fun k=>by simp only [spec_addKids.j1];rw [if_pos trivial,if_pos (by omega),hw]) h,by omega,by omega,o⟩
   | false=>
    by_cases c5:f0=5
    ·obtain ⟨g',q,h,q0,q1,o⟩:=ih (p+1) [kid] (by omega) (by omega) (by omega) (by rw [List.length_singleton];omega)
     exact ⟨g',q,Ev.step (fun k=>by simp only [spec_addKids.j1];rw [if_neg (by decide),if_pos c5,hw]) h,by omega,by omega,o⟩
    by_cases c4:f0=4
    ·by_cases c6:(xs.length:Int)<6
     ·have hkey:=isKey_eq (rd_T58 g kid).f0 (rd_T58 g kid).f1 (rd_T58 g kid).f2
      cases hb2:(decide ((rd_T58 g kid).f0=0) || decide ((rd_T58 g kid).f0=1)) with
      | true=>
       rw [hb2] at hkey
       obtain ⟨k2,hk2,_,_⟩:=pickE b hb (p+1) (g.length:Int) (by omega) (by omega)
       obtain ⟨g',q,h,q0,q1,o⟩:=ih (p+1+1) (xs++[kid,k2]) (by omega) (by omega) (by omega) (by rw [List.length_append];show xs.length+2+2 * n≤8;omega)
       refine ⟨g',q,Ev.step (fun k=>by simp only [spec_addKids.j1];rw [if_neg (by decide),if_neg c5,if_pos c4,if_pos c6,if_pos k0,if_pos k1,hkey,Option.bind_some,if_pos rfl,hw]) ?_,by omega,by omega,o⟩
       refine Ev.bind hk2 (Ev.bind0 (a:=[kid,k2]) rfl (Ev.ite_pos (by show xs.length+2<_;omega) h))
      | false=>
       rw [hb2] at hkey
       obtain ⟨g',q,h,q0,q1,o⟩:=same
       exact ⟨g',q,Ev.step (fun k=>by simp only [spec_addKids.j1];rw [if_neg (by decide),if_neg c5,if_pos c4,if_pos c6,if_pos k0,if_pos k1,hkey,Option.bind_some,if_neg (by decide),hw]) h,q0,q1,o⟩
     ·obtain ⟨g',q,h,q0,q1,o⟩:=same
      exact ⟨g',q,Ev.step (fun k=>by simp only [spec_addKids.j1];rw [if_neg (by decide),if_neg c5,if_pos c4,if_neg c6,hw]) h,q0,q1,o⟩
    ·obtain ⟨g',q,h,q0,q1,o⟩:=same
     exact ⟨g',q,Ev.step (fun k=>by simp only [spec_addKids.j1];rw [if_neg (by decide),if_neg c5,if_neg c4,hw]) h,q0,q1,o⟩
  by_cases c2:f0=2
  ·obtain ⟨g',q,h,q0,q1,o⟩:=J1 (f0 == 2)
   exact ⟨g',q,Ev.step (fun k=>by simp only [spec_addKids.l0];rw [if_pos (by omega)]) (Ev.bind hkid (Ev.ite_pos c2 h)),q0,q1,o⟩
  ·obtain ⟨g',q,h,q0,q1,o⟩:=J1 (f0 == 3)
   exact ⟨g',q,Ev.step (fun k=>by simp only [spec_addKids.l0];rw [if_pos (by omega)]) (Ev.bind hkid (Ev.ite_neg c2 h)),q0,q1,o⟩
theorem addKids_ev (b:List Int) (hb:Code b) (g:List Nd) (r p:Int) {i:Nat} (hi:i<g.length) (hg:g.length≤10) (hk:∀ x∈g,x.f2.length≤8) (hz:(g.getD i zNd).f2=[]) (h0:0≤p) (h1:p≤800000000) :
  ∃ (g':List Nd) (q:Int),Ev (fun k=>spec_addKids.f k b p g r (i:Int)) (g',r,q)∧p≤q∧q≤p+9∧OneNew g g' i:=by
 unfold spec_addKids.f
 obtain ⟨c,hc,hm⟩:=oneE b hb p [2,1,3,0,4] h0 (by omega) (by simp)
 obtain ⟨n,hn,hn4⟩:∃ n:Nat,c=(n:Int)∧n≤4:=by
  simp only [List.mem_cons,List.not_mem_nil,or_false] at hm
  exact ⟨c.toNat,by omega,by omega⟩
 subst hn
 obtain ⟨g',q,h,q0,q1,o⟩:=addKids_loop b hb g r (rd_T58 g (i:Int)).f0 (rd_T58 g (i:Int)).f1 hi hg hk n (p+1) [] hn4 (by omega) (by omega) (by simp;omega)
 refine ⟨g',q,Ev.ite_pos (by rw [rdG];exact hz) ?_,by omega,by omega,o⟩
 unfold spec_addKids.f0
 exact Ev.ite_pos (by omega) (Ev.ite_pos (by omega) (Ev.bind hc h))
def Small (g:List Nd):Prop:=1≤g.length∧g.length≤10∧∀ x∈g,x.f2.length≤9
theorem someGraph_two (b:List Int) (hb:Code b):∀ (d i:Nat) (g:List Nd) (r p:Int),g.length - i=d→i≤g.length→1≤g.length→g.length≤10→(∀ x∈g,x.f2.length≤8)→(∀ j,i≤j→(g.getD j zNd).f2=[])→0≤p→p≤700000000+9 * (i:Int) →
  ∃ (g':List Nd) (s q:Int),Ev (fun k=>spec_someGraph.l1 k (i:Int) b p g r) (g',s,q)∧0≤q∧q≤700000200∧1≤g'.length∧g'.length≤10∧∀ x∈g',x.f2.length≤8:=by
 intro d
 induction d with
 | zero=>
  intro i g r p hd hi hg1 hg hk hz h0 h1
  obtain ⟨c,hc,_,_⟩:=pickE b hb p 3 h0 (by omega)
  by_cases c0:c=0
  ·obtain ⟨c2,hc2,_,_⟩:=pickE b hb (p+1) (g.length:Int) (by omega) (by omega)
   exact ⟨g,c2,p+1+1,Ev.step (fun k=>by simp only [spec_someGraph.l1];rw [if_neg (by omega)]) (by refine Ev.bind hc (Ev.ite_pos c0 ?_);exact Ev.bind hc2 (Ev.now (g,c2,p+1+1))),by omega,by omega,hg1,hg,hk⟩
  ·exact ⟨g,r,p+1,Ev.step (fun k=>by simp only [spec_someGraph.l1];rw [if_neg (by omega)]) (Ev.bind hc (Ev.ite_neg c0 (Ev.now _))),by omega,by omega,hg1,hg,hk⟩
 | succ d ih=>
  intro i g r p hd hi hg1 hg hk hz h0 h1
  obtain ⟨g',q,h,q0,q1,o1,o2,o3⟩:=addKids_ev b hb g r p (i:=i) (by omega) hg hk (hz i (Nat.le_refl _)) h0 (by omega)
  obtain ⟨g2,s,q2,h2,r1,r2,r3⟩:=ih (i+1) g' r q (by omega) (by omega) (by omega) (by omega) o3 (fun j hj=>by rw [o2 j (by omega)];exact hz j (by omega)) (by omega) (by omega)
  refine ⟨g2,s,q2,Ev.step (fun k=>by simp only [spec_someGraph.l1];rw [if_pos (by omega),w64s (n:=g.length) (by omega) (by omega)]) (Ev.bind h h2),r1,r2,r3⟩
theorem someGraph_one (b:List Int) (hb:Code b):∀ (n:Nat) (g:List Nd) (p:Int),1≤g.length+n→g.length+n≤10→(∀ x∈g,x.f2=[])→0≤p→p≤600000000+5 * (g.length:Int) →
  ∃ (g':List Nd) (s q:Int),Ev (fun k=>spec_someGraph.l0 k (n:Int) b p g 0) (g',s,q)∧0≤q∧q≤700000200∧1≤g'.length∧g'.length≤10∧∀ x∈g',x.f2.length≤8:=by
 intro n
 induction n with
 | zero=>
  intro g p hg1 hg hz h0 h1
  obtain ⟨g',s,q,h,r⟩:=someGraph_two b hb g.length 0 g (wrap64 ((g.length:Int) - 1)) p (by omega) (by omega) (by omega) (by omega) (fun x hx=>by rw [hz x hx];simp) (fun j _=>by
   by_cases hj:j<g.length
   ·rw [getD_lt zNd hj];exact hz _ (List.getElem_mem hj)
   ·rw [List.getD_eq_getElem?_getD,List.getElem?_eq_none (by omega)];rfl) h0 (by omega)
  exact ⟨g',s,q,Ev.step (fun k=>by simp only [spec_someGraph.l0];rw [if_neg (by omega)];rfl) h,r⟩
 | succ n ih=>
  intro g p hg1 hg hz h0 h1
  obtain ⟨x,y,q,h,q0,q1⟩:=someNode_ev b hb p h0 (by omega)
  obtain ⟨g',s,q2,h2,r⟩:=ih (g++[⟨x,y,[]⟩]) q (by rw [List.length_append,List.length_singleton];omega) (by rw [List.length_append,List.length_singleton];omega) (fun z hz2=>by
   rcases List.mem_append.1 hz2 with hz2 | hz2
   ·exact hz z hz2
   ·rw [List.mem_singleton] at hz2;rw [hz2]) (by omega) (by rw [List.length_append,List.length_singleton];omega)
  refine ⟨g',s,q2,Ev.step (fun k=>by simp only [spec_someGraph.l0];rw [if_pos (by omega),show wrap64 (((n+1:Nat):Int) - 1)=(n:Int) by rw [w64 (by omega)];omega]) (Ev.bind h (Ev.ite_pos (show g.length<3518437208883 by omega) h2)),r⟩
theorem someGraph_ev (b:List Int) (hb:Code b) (p:Int) (h0:0≤p) (h1:p≤500000000):∃ (g:List Nd) (s q:Int),Ev (fun k=>spec_someGraph.f k b p) (g,s,q)∧0≤q∧q≤700000200∧1≤g.length∧g.length≤10∧∀ x∈g,x.f2.length≤8:=by
 unfold spec_someGraph.f
 obtain ⟨c,hc,hm⟩:=oneE b hb p [5,6,4,7,3,8,1,2,10] h0 (by omega) (by simp)
 obtain ⟨n,hn,hn1,hn2⟩:∃ n:Nat,c=(n:Int)∧1≤n∧n≤10:=by
  simp only [List.mem_cons,List.not_mem_nil,or_false] at hm
  exact ⟨c.toNat,by omega,by omega,by omega⟩
 subst hn
 obtain ⟨g,s,q,h,r⟩:=someGraph_one b hb n [] (p+1) (by simp;omega) (by simp;omega) (fun x hx=>by simp at hx) (by omega) (by simp;omega)
 exact ⟨g,s,q,Ev.bind hc h,r⟩
theorem anyGraph_evq (b:List Int) (hb:Code b) (p:Int) (h0:0≤p) (h1:p≤500000000):∃ (g:List Nd) (s q:Int),Ev (fun k=>spec_anyGraph.f k b p) (g,s,q)∧0≤q∧q≤700001000∧Small g:=by
 unfold spec_anyGraph.f
 obtain ⟨g,s,q,h,q0,q1,g1,g2,g3⟩:=someGraph_ev b hb p h0 h1
 obtain ⟨a,ha,a0,a1⟩:=pickE b hb q (g.length:Int) q0 (by omega)
 have a1:=a1 (by omega)
 obtain ⟨c,hc,_,_⟩:=pickE b hb (q+1) 20 (by omega) (by omega)
 have hs:Small g:=⟨g1,g2,fun x hx=>by have:=g3 x hx;omega⟩
 have hset:∀ x:Nd,x.f2.length≤9→Small (g.set a.toNat x):=fun x hx=>⟨by rw [List.length_set];omega,by rw [List.length_set];omega,fun y hy=>by
  rcases List.mem_or_eq_of_mem_set hy with hy | hy
  ·have:=g3 y hy;omega
  ·rw [hy];exact hx⟩
 have hka:(rd_T58 g a).f2.length≤8:=by
  have e:rd_T58 g a=g.getD a.toNat zNd:=by
   rw [← rdG g a.toNat]
   congr 1
   omega
  rw [e,getD_lt zNd (by omega)]
  exact g3 _ (List.getElem_mem _)
 by_cases c0:c=0
 ·obtain ⟨v,hv,_⟩:=oneE b hb (q+1+1) [-1,(g.length:Int)] (by omega) (by omega) (by simp)
  refine ⟨_,_,_,Ev.bind h (Ev.bind ha (Ev.bind hc (Ev.ite_pos c0 (Ev.ite_pos a0 (Ev.ite_pos a1 (Ev.bind hv (Ev.ite_pos (by dsimp only;omega) (Ev.now _)))))))),by omega,by omega,hset _ ?_⟩
  show (_++[_]).length≤9
  rw [List.length_append,List.length_singleton]
  dsimp only
  omega
 by_cases c1:c=1
 ·obtain ⟨v,hv,_⟩:=oneE b hb (q+1+1) [-1,6,4] (by omega) (by omega) (by simp)
  refine ⟨_,_,_,Ev.bind h (Ev.bind ha (Ev.bind hc (Ev.ite_neg c0 (Ev.ite_pos c1 (Ev.bind hv (Ev.ite_pos a0 (Ev.ite_pos a1 (Ev.now _)))))))),by omega,by omega,hset _ ?_⟩
  show (rd_T58 g a).f2.length≤9
  omega
 by_cases c2:c=2
 ·exact ⟨_,_,_,Ev.bind h (Ev.bind ha (Ev.bind hc (Ev.ite_neg c0 (Ev.ite_neg c1 (Ev.ite_pos c2 (Ev.ite_pos a0 (Ev.ite_pos a1 (Ev.now _)))))))),by omega,by omega,hset _ (by show [_].length≤9;simp)⟩
 by_cases c3:c=3
 ·obtain ⟨v,hv,_⟩:=oneE b hb (q+1+1) [-1,(g.length:Int)] (by omega) (by omega) (by simp)
  exact ⟨_,_,_,Ev.bind h (Ev.bind ha (Ev.bind hc (Ev.ite_neg c0 (Ev.ite_neg c1 (Ev.ite_neg c2 (Ev.ite_pos c3 (Ev.bind hv (Ev.now _)))))))),by omega,by omega,hs⟩
 ·exact ⟨_,_,_,Ev.bind h (Ev.bind ha (Ev.bind hc (Ev.ite_neg c0 (Ev.ite_neg c1 (Ev.ite_neg c2 (Ev.ite_neg c3 (Ev.now _))))))),by omega,by omega,hs⟩
theorem anyGraph_ev (b:List Int) (hb:Code b) (p:Int) (h0:0≤p) (h1:p≤500000000):∃ (g:List Nd) (s q:Int),Ev (fun k=>spec_anyGraph.f k b p) (g,s,q)∧Small g:=by
 obtain ⟨g,s,q,h,_,_,hs⟩:=anyGraph_evq b hb p h0 h1
 exact ⟨g,s,q,h,hs⟩
end Go.Proofs.Ytapaegcombfafaa.Q
