/- The code of a graph, by the program's walk with its map. -/
import Derived.Test.YtapaegcombfafaaHcircle
import Derived.Test.YtapaegcombfafaaHtab
import Derived.Test.YtapaegcombfafaaQ42
namespace Go.Proofs.Ytapaegcombfafaa.Q
open Go.RowKit Go.Proofs.YtapaegcombfafaaW.PrintWords
set_option linter.unusedVariables false
set_option linter.unusedSimpArgs false
def InTab (met:List Int) (T:List (Int × Int)):Prop:=T.length=met.length∧∀ i,(T.lookup i).isSome=true↔i∈met
theorem InTab.snoc {met:List Int} {T:List (Int × Int)} {i:Int} (h:InTab met T) (hi:i∉met):InTab (met++[i]) (T++[(i,(T.length:Int))]):=by
 refine ⟨by simp [h.1],fun j=>?_⟩
 have hn:T.lookup i=none:=by
  cases hT:T.lookup i with
  | none=>rfl
  | some v=>exact absurd ((h.2 i).1 (by rw [hT];rfl)) hi
 rw [lookup_snoc _ _ _ _ hn,List.mem_append,List.mem_singleton]
 by_cases hj:j=i
 ·simp [hj]
 ·rw [if_neg hj,h.2]
  simp [hj]
def Leaf0 (g:List Nd):Prop:=∀ i:Int,0≤i→i<(g.length:Int)→(nd g i).f0=0→(nd g i).f2=[]
theorem leaf0_of {g:List Nd} (h:∀ i:Nat,i<g.length→nodeB g (nd g i)=true):Leaf0 g:=by
 intro i h0 h1 hz
 obtain ⟨n,rfl⟩:=Int.eq_ofNat_of_zero_le h0
 have:=h n (by omega)
 unfold nodeB at this
 rw [if_pos hz] at this
 simp only [Bool.and_eq_true,decide_eq_true_eq] at this
 exact List.length_eq_zero_iff.1 this.2
theorem codei (g:List Nd) (hg:g.length≤12) (hk:KidsIn g) (hl:Leaf0 g):∀ (d:Nat) (i:Int) (out met:List Int) (T:List (Int × Int)),free g.length met=d→0≤i→i<(g.length:Int)→InTab met T→met.length+free g.length met≤12→out.length+3+18 * free g.length met≤1000000 →
  ∃ (r m:List Int) (T':List (Int × Int)),Ev (fun k=>impl_codesOf.walk k g i out T) (r,T')∧InTab m T'∧free g.length m≤free g.length met∧m.length+free g.length m≤12∧r.length+18 * free g.length m≤out.length+3+18 * free g.length met:=by
 intro d
 induction d using Nat.strongRecOn with
 | _ d ih=>
  intro i out met T hd h0 h1 hT hS hO
  have hkl:=hk.few h0 h1
  have hTl:=hT.1
  by_cases hm:i∈met
  ·refine ⟨out++[-1,(T.lookup i).getD 0],met,T,?_,hT,Nat.le_refl _,hS,?_⟩
   ·exact Ev.step (fun k=>by simp only [impl_codesOf.walk];rw [if_pos h0,if_pos h1,if_pos (by omega),if_pos ((hT.2 i).2 hm)]) (Ev.now _)
   ·simp only [List.length_append,List.length_cons,List.length_nil]
    omega
  ·have hf:=free_add g.length met i h0 h1 hm
   have hnone:¬ (T.lookup i).isSome=true:=fun z=>hm ((hT.2 i).1 z)
   by_cases hz:(nd g i).f0=0
   ·have hkn:=hl i h0 h1 hz
    refine ⟨out++[(nd g i).f0,(nd g i).f1,((nd g i).f2.length:Int)],met,T,?_,hT,Nat.le_refl _,hS,?_⟩
    ·refine Ev.step (fun k=>by simp only [impl_codesOf.walk];rw [if_pos h0,if_pos h1,if_pos (by omega)]) (Ev.ite_neg hnone (Ev.ite_pos (by omega) (Ev.ite_pos hz ?_)))
     refine Ev.step (fun k=>by simp only [impl_codesOf.kids];rw [if_neg (by rw [hkn];exact Int.lt_irrefl 0)]) (Ev.now _)
    ·simp only [List.length_append,List.length_cons,List.length_nil]
     omega
   ·have kids:∀ (e j:Nat) (o2 m2:List Int) (T2:List (Int × Int)),(nd g i).f2.length - j=e→j≤(nd g i).f2.length→free g.length m2<d→InTab m2 T2→m2.length+free g.length m2≤12→o2.length+3 * ((nd g i).f2.length - j)+18 * free g.length m2≤1000000 →
      ∃ (r m:List Int) (T':List (Int × Int)),Ev (fun k=>impl_codesOf.kids k g (nd g i).f2 (j:Int) o2 T2) (r,T')∧InTab m T'∧free g.length m≤free g.length m2∧m.length+free g.length m≤12∧r.length+18 * free g.length m≤o2.length+3 * ((nd g i).f2.length - j)+18 * free g.length m2:=by
     intro e
     induction e with
     | zero=>
      intro j o2 m2 T2 he hj hm2 hT2 hS2 hO2
      obtain rfl:j=(nd g i).f2.length:=by omega
      exact ⟨o2,m2,T2,Ev.step (fun k=>by simp only [impl_codesOf.kids];rw [if_neg (by omega)]) (Ev.now _),hT2,Nat.le_refl _,hS2,by omega⟩
     | succ e ihe=>
      intro j o2 m2 T2 he hj hm2 hT2 hS2 hO2
      have hjl:j<(nd g i).f2.length:=by omega
      have hin:=hk.mem h0 h1 (List.getElem_mem hjl)
      obtain ⟨r1,m1,T1,a2,a3,a4,a5,a6⟩:=ih _ hm2 (nd g i).f2[j] o2 m2 T2 rfl hin.1 hin.2 hT2 hS2 (by omega)
      obtain ⟨r,m,T',b2,b3,b4,b5,b6⟩:=ihe (j+1) r1 m1 T1 (by omega) (by omega) (by omega) a3 a5 (by omega)
      refine ⟨r,m,T',?_,b3,by omega,b5,by omega⟩
      refine Ev.step (fun k=>by simp only [impl_codesOf.kids];rw [if_pos (by omega),if_pos (by omega),rdN,getD_lt 0 hjl,w64s hjl (by omega)]) ?_
      exact Ev.bind a2 b2
    have hlen:(met++[i]).length=met.length+1:=by rw [List.length_append,List.length_singleton]
    have hout:(out++[(nd g i).f0,(nd g i).f1,((nd g i).f2.length:Int)]).length=out.length+3:=by simp only [List.length_append,List.length_cons,List.length_nil]
    obtain ⟨r,m,T',b2,b3,b4,b5,b6⟩:=kids _ 0 (out++[(nd g i).f0,(nd g i).f1,((nd g i).f2.length:Int)]) (met++[i]) (T++[(i,(T.length:Int))]) rfl (by omega) (by omega) (hT.snoc hm) (by omega) (by omega)
    refine ⟨r,m,T',?_,b3,by omega,b5,by omega⟩
    refine Ev.step (fun k=>by simp only [impl_codesOf.walk];rw [if_pos h0,if_pos h1,if_pos (by omega)]) (Ev.ite_neg hnone (Ev.ite_pos (by omega) (Ev.ite_neg hz ?_)))
    exact b2
theorem codesOf_one (g:List Nd) (r:Int) (hg:g.length≤12) (hk:KidsIn g) (hl:Leaf0 g) (h0:0≤r) (h1:r<(g.length:Int)) :
  ∃ q:List Int,Ev (fun k=>impl_codesOf.f k g [r]) q∧q.length≤300:=by
 have hf:=free_le g.length ([]:List Int)
 obtain ⟨q,m,T',a2,a3,a4,a5,a6⟩:=codei g hg hk hl _ r [] [] [] rfl h0 h1 ⟨rfl,fun i=>by simp⟩ (by rw [List.length_nil];omega) (by rw [List.length_nil];omega)
 rw [List.length_nil] at a6
 refine ⟨q,?_,by omega⟩
 unfold impl_codesOf.f
 refine Ev.step (fun k=>by simp only [impl_codesOf.roots];rw [if_pos (by simp),if_pos (by decide)]) ?_
 refine Ev.bind (a:=(q,T')) a2 ?_
 exact Ev.step (fun k=>by simp only [impl_codesOf.roots];rw [if_neg (by simp [wrap64])]) (Ev.now _)
end Go.Proofs.Ytapaegcombfafaa.Q
