/- The nodes to which ways lead: the reference's list and the program's, one walk; and what the list holds. -/
import Derived.Test.YtfhakhbmbnbneaaHcircle
import Derived.Test.YtfhakhbmbnbneaaQ63
import Derived.Test.YtfhakhbmbnbneaaQ73
namespace Go.Proofs.Ytfhakhbmbnbneaa.Q
open Go.RowKit Go.Proofs.YtfhakhbmbnbneaaW.PrintWords
set_option linter.unusedVariables false
set_option linter.unusedSimpArgs false
structure Grown (g:List Nd) (S r:List Int):Prop where
 pre:S <+: r
 nodup:S.Nodup→r.Nodup
 rng:(∀ x∈S,0≤x∧x<(g.length:Int))→∀ x∈r,0≤x∧x<(g.length:Int)
 closed:∀ x∈r,x∉S→∀ k∈(nd g x).f2,k∈r
theorem Grown.refl (g:List Nd) (S:List Int):Grown g S S:=⟨List.prefix_refl _,fun h=>h,fun h=>h,fun x h1 h2=>absurd h1 h2⟩
theorem Grown.trans {g:List Nd} {S T r:List Int} (a:Grown g S T) (b:Grown g T r):Grown g S r:=by
 refine ⟨a.pre.trans b.pre,fun h=>b.nodup (a.nodup h),fun h=>b.rng (a.rng h),fun x hx hs k hk=>?_⟩
 by_cases ht:x∈T
 ·exact b.pre.subset (a.closed x ht hs k hk)
 ·exact b.closed x hx ht k hk
def Early (g:List Nd) (n:Nat) (r:List Int):Prop:=∀ j,n≤j→j<r.length→∃ m,m<j∧r.getD j 0∈(nd g (r.getD m 0)).f2
theorem getD_pre {S r:List Int} (h:S <+: r) {j:Nat} (hj:j<S.length):r.getD j 0=S.getD j 0:=by
 obtain ⟨t,rfl⟩:=h
 rw [List.getD_eq_getElem?_getD,List.getD_eq_getElem?_getD,List.getElem?_append_left hj]
theorem Early.trans {g:List Nd} {n:Nat} {T r:List Int} (hp:T <+: r) (a:Early g n T) (b:Early g T.length r):Early g n r:=by
 intro j h1 h2
 rcases Nat.lt_or_ge j T.length with h | h
 ·obtain ⟨m,hm,hk⟩:=a j h1 h
  exact ⟨m,hm,by rw [getD_pre hp h,getD_pre hp (by omega)];exact hk⟩
 ·exact b j h h2
theorem reach_both (g:List Nd) (root:Int) (hg:g.length≤12) (hk:KidsIn g):∀ (d:Nat) (i:Int) (S:List Int),free g.length S=d→0≤i→i<(g.length:Int)→S.length+free g.length S≤12 →
  ∃ r:List Int,Ev (fun k=>spec_reach.f k g root i S) r∧Ev (fun k=>impl_reachOf.walk k g i S) r∧r.length+free g.length r≤12∧free g.length r≤free g.length S∧Grown g S r∧i∈r∧(i∉S→S++[i] <+: r∧Early g (S.length+1) r)∧(i∈S→r=S):=by
 intro d
 induction d using Nat.strongRecOn with
 | _ d ih=>
  intro i S hd h0 h1 hS
  by_cases hm:i∈S
  ·refine ⟨S,?_,?_,hS,Nat.le_refl _,Grown.refl g S,hm,fun h=>absurd hm h,fun _=>rfl⟩
   ·refine Ev.step (fun k=>by simp only [spec_reach.f];exact rfl) ?_
    refine Ev.bind (placeIn_ev S i (by omega)) (Ev.ite_pos ?_ (Ev.now _))
    exact (placeOf_pos S i).2 hm
   ·exact Ev.step (fun k=>by simp only [impl_reachOf.walk];rw [if_pos h0,if_pos h1,if_pos hm]) (Ev.now _)
  ·have hf:=free_add g.length S i h0 h1 hm
   have hkl:=hk.few h0 h1
   have kids:∀ (e j:Nat) (T:List Int),(nd g i).f2.length - j=e→j≤(nd g i).f2.length→free g.length T<d→T.length+free g.length T≤12→S++[i] <+: T →
     ∃ r:List Int,Ev (fun k=>spec_reach.l0 k i T (j:Int) g root) r∧Ev (fun k=>impl_reachOf.kids k g (nd g i).f2 (j:Int) T) r∧r.length+free g.length r≤12∧free g.length r≤free g.length T∧Grown g T r∧(∀ m,j≤m→(hm:m<(nd g i).f2.length)→(nd g i).f2[m]∈r)∧Early g T.length r:=by
    intro e
    induction e with
    | zero=>
     intro j T he hj hT hT2 hpre
     obtain rfl:j=(nd g i).f2.length:=by omega
     refine ⟨T,?_,?_,hT2,Nat.le_refl _,Grown.refl g T,fun m h1 h2=>by omega,fun m h1 h2=>by omega⟩
     ·exact Ev.step (fun k=>by simp only [spec_reach.l0];rw [if_pos h0,if_pos h1,if_neg (show ¬ (((nd g i).f2.length:Nat):Int)<((nd g i).f2.length:Int) by omega)]) (Ev.now _)
     ·exact Ev.step (fun k=>by simp only [impl_reachOf.kids];rw [if_neg (by omega)]) (Ev.now _)
    | succ e ihe=>
     intro j T he hj hT hT2 hpre
     have hjl:j<(nd g i).f2.length:=by omega
     have hin:=hk.mem h0 h1 (List.getElem_mem hjl)
     obtain ⟨T',a1,a2,a3,a4,a5,a6,a7,a8⟩:=ih _ hT (nd g i).f2[j] T rfl hin.1 hin.2 hT2
     obtain ⟨r,b1,b2,b3,b4,b5,b6,b7⟩:=ihe (j+1) T' (by omega) (by omega) (by omega) a3 (hpre.trans a5.pre)
     have hil:S.length<T.length:=by have:=hpre.length_le;rw [List.length_append,List.length_singleton] at this;omega
     have hiT:T.getD S.length 0=i:=by
      rw [getD_pre hpre (by rw [List.length_append,List.length_singleton];omega),List.getD_eq_getElem?_getD,List.getElem?_append_right (Nat.le_refl _),Nat.sub_self]
      rfl
     have hE:Early g T.length T':=by
      by_cases hmem:(nd g i).f2[j]∈T
      ·rw [a8 hmem]
       exact fun m h1 h2=>by omega
      ·obtain ⟨c1,c2⟩:=a7 hmem
       intro m h1 h2
       rcases Nat.lt_or_ge m (T.length+1) with h | h
       ·obtain rfl:m=T.length:=by omega
        refine ⟨S.length,hil,?_⟩
        rw [getD_pre a5.pre hil,hiT,getD_pre c1 (by rw [List.length_append,List.length_singleton];omega),List.getD_eq_getElem?_getD,List.getElem?_append_right (Nat.le_refl _),Nat.sub_self]
        exact List.getElem_mem hjl
       ·exact c2 m h h2
     refine ⟨r,?_,?_,b3,by omega,a5.trans b5,fun m h1 h2=>?_,Early.trans b5.pre hE b7⟩
     ·refine Ev.step (fun k=>by simp only [spec_reach.l0];rw [if_pos h0,if_pos h1,if_pos (show (j:Int)<((nd g i).f2.length:Int) by omega),if_pos (by omega),rdN,getD_lt 0 hjl,w64s hjl (by omega)]) ?_
      exact Ev.bind a1 b1
     ·refine Ev.step (fun k=>by simp only [impl_reachOf.kids];rw [if_pos (by omega),if_pos (by omega),rdN,getD_lt 0 hjl,w64s hjl (by omega)]) ?_
      exact Ev.bind a2 b2
     ·rcases Nat.lt_or_ge j m with h | h
      ·exact b6 m h h2
      ·obtain rfl:j=m:=by omega
       exact b5.pre.subset a6
   have hlen:(S++[i]).length=S.length+1:=by rw [List.length_append,List.length_singleton]
   obtain ⟨r,b1,b2,b3,b4,b5,b6,b7⟩:=kids _ 0 (S++[i]) rfl (by omega) (by omega) (by omega) (List.prefix_refl _)
   have hir:i∈r:=b5.pre.subset (by simp)
   refine ⟨r,?_,?_,b3,by omega,⟨(List.prefix_append S [i]).trans b5.pre,fun h=>b5.nodup ?_,fun h=>b5.rng ?_,fun x hx hs k hk2=>?_⟩,hir,fun _=>⟨b5.pre,by rw [← hlen];exact b7⟩,fun h=>absurd h hm⟩
   ·refine Ev.step (fun k=>by simp only [spec_reach.f];exact rfl) ?_
    refine Ev.bind (placeIn_ev S i (by omega)) (Ev.ite_neg ?_ ?_)
    ·exact fun z=>hm ((placeOf_pos S i).1 z)
    ·refine Ev.bind0 (a:=S) ?_ (Ev.ite_pos (by omega) b1)
     unfold spec_copyInts.f
     rw [Option.bind_some,if_pos (by rw [List.length_nil];omega),List.nil_append]
   ·refine Ev.step (fun k=>by simp only [impl_reachOf.walk];rw [if_pos h0,if_pos h1,if_neg hm,if_pos (by omega)]) ?_
    exact b2
   ·rw [List.nodup_append]
    exact ⟨h,by simp,fun a ha b hb e=>hm (by rw [List.mem_singleton] at hb;rw [← hb,← e];exact ha)⟩
   ·intro x hx
    rcases List.mem_append.1 hx with hx | hx
    ·exact h x hx
    ·rw [List.mem_singleton] at hx
     exact hx▸⟨h0,h1⟩
   ·by_cases hxi:x=i
    ·subst hxi
     obtain ⟨m,hm2,rfl⟩:=List.getElem_of_mem hk2
     exact b6 m (Nat.zero_le _) hm2
    ·exact b5.closed x hx (by simp [hs,hxi]) k hk2
theorem reach_root (g:List Nd) (root:Int) (hg:g.length≤12) (hk:KidsIn g) (h0:0≤root) (h1:root<(g.length:Int)) :
  ∃ r:List Int,Ev (fun k=>spec_reach.f k g root root []) r∧Ev (fun k=>impl_reachOf.f k g root) r∧r.length≤12∧r.Nodup∧(∀ x∈r,0≤x∧x<(g.length:Int))∧(∀ x∈r,∀ k∈(nd g x).f2,k∈r)∧0<r.length∧r.getD 0 0=root∧Early g 1 r:=by
 have hf:=free_le g.length ([]:List Int)
 obtain ⟨r,a1,a2,a3,a4,a5,a6,a7,a8⟩:=reach_both g root hg hk _ root [] rfl h0 h1 (by rw [List.length_nil];omega)
 obtain ⟨c1,c2⟩:=a7 (by simp)
 have hl:0<r.length:=by have:=c1.length_le;simp at this;omega
 exact ⟨r,a1,a2,by omega,a5.nodup List.nodup_nil,a5.rng (by simp),fun x hx=>a5.closed x hx (by simp),hl,by rw [getD_pre c1 (by simp)];rfl,by simpa using c2⟩
end Go.Proofs.Ytfhakhbmbnbneaa.Q
