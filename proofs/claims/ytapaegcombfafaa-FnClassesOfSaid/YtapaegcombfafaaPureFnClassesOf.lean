/- Two nodes of a drawn graph have one class exactly if the graph's parts from them are equal however deep; a class is its least node: for every code of the draws, without a condition. -/
import Derived.Test.YtapaegcombfafaaHdrawg
import Derived.Test.YtapaegcombfafaaHclasspre
import Derived.Test.YtapaegcombfafaaHeqs
import Derived.Test.YtapaegcombfafaaQ26
import Derived.Test.YtapaegcombfafaaQ27
import Derived.Test.YtapaegcombfafaaQ54
import Derived.Test.YtapaegcombfafaaQ6
namespace Go.Proofs.Ytapaegcombfafaa.Pure
open Go.RowKit Go.Proofs.Ytapaegcombfafaa.Q Go.Proofs.YtapaegcombfafaaW.PrintWords
set_option linter.unusedVariables false
set_option linter.unusedSimpArgs false

theorem vGraph_root {g : List Nd} {r s : Int} (h : vGraph g r = true) (h0 : 0 ≤ s) (h1 : s < (g.length : Int)) : vGraph g s = true := by
 unfold vGraph at h ⊢
 simp only [Bool.and_eq_true,decide_eq_true_eq] at h ⊢
 exact ⟨⟨h.1.1,h0,h1⟩,h.2⟩

theorem FnClassesOf : laws_FnClassesOf.Pure := by
 intro l hm _ hw
 apply Ev.rounds
 unfold laws_FnClassesOf.f
 by_cases h : (l.length : Int) > 1048576
 ·exact Ev.ite_pos h (Ev.now _)
 refine Ev.ite_neg h ?_
 obtain ⟨c,hc,hcode⟩ := newReader_ev l hw
 obtain ⟨g,r,q0,hg,s1,s2,s3⟩ := anyGraph_ev c hcode 0 (by omega) (by omega)
 have hd : Ev (fun k => spec_DrawClassesOf.f k l) (g,r) := by
  unfold spec_DrawClassesOf.f
  exact Ev.bind0 hc (Ev.bind hg (Ev.now _))
 have hvs := spec_validGraph_ev g r (by omega) (fun x hx => by have := s3 x hx;omega)
 have hvi := impl_ValidGraph_ev g r (by omega)
 cases hv : vGraph g r with
 | false =>
  rw [hv] at hvs hvi
  have hs : Ev (fun k => spec_ClassesOf.f k g r) [] := by unfold spec_ClassesOf.f;exact Ev.bind hvs (Ev.ite_neg (by decide) (Ev.now _))
  have hi : Ev (fun k => impl_ClassesOf.f k g r) [] := by unfold impl_ClassesOf.f;exact Ev.bind hvi (Ev.ite_neg (by decide) (Ev.now _))
  have he := equalInts_same [] (by simp)
  refine Ev.bind hd (Ev.bind hi (Ev.bind hs (Ev.bind he (Ev.ite_pos rfl ?_))))
  exact Ev.step (fun k => by simp only [laws_FnClassesOf.j0];rw [if_pos (by rfl)]) (Ev.bind hs (Ev.bind he (Ev.now _)))
 | true =>
  have hroot := fun (s : Int) h0 h1 => vGraph_root (s := s) hv h0 h1
  rw [hv] at hvs hvi
  obtain ⟨⟨p1,p2,p3,p4⟩,p5,_⟩ := vGraph_parts hv
  have hql := classesL_len g
  have hs : Ev (fun k => spec_ClassesOf.f k g r) (classesL g) := by unfold spec_ClassesOf.f;exact Ev.bind hvs (Ev.ite_pos rfl (Ev.bind (spec_classes_ev g (by omega) p5) (Ev.now _)))
  have hi : Ev (fun k => impl_ClassesOf.f k g r) (classesL g) := by unfold impl_ClassesOf.f;exact Ev.bind hvi (Ev.ite_pos rfl (Ev.bind (impl_classes_ev g (by omega) p5) (Ev.now _)))
  have he := equalInts_same (classesL g) (by omega)
  refine Ev.bind hd (Ev.bind hi (Ev.bind hs (Ev.bind he (Ev.ite_pos rfl ?_))))
  refine Ev.step (fun k => by simp only [laws_FnClassesOf.j0];rw [if_neg (by rw [beq_iff_eq];omega)]) ?_
  refine ev_steps (L := fun k (_ : Unit) i => laws_FnClassesOf.l0 k (classesL g) i g r) (n := g.length) (fun _ => ()) (r := true) (fun i hi2 z hz => ?_) ?_
  ·refine Ev.step (fun k => by simp only [laws_FnClassesOf.l0];rw [if_pos (by omega)]) ?_
   refine ev_steps (L := fun k (_ : Unit) j => laws_FnClassesOf.l1 k (classesL g) (i : Int) j g r) (n := i) (fun _ => ()) (r := z) (fun j hj z2 hz2 => ?_) ?_
   ·have v1 := impl_ValidGraph_ev g (i : Int) (by omega)
    have v2 := impl_ValidGraph_ev g (j : Int) (by omega)
    rw [hroot _ (by omega) (by omega)] at v1 v2
    have hde := impl_deep_ev g (i : Int) g (j : Int) p2 p5 p2 p5 (by omega) (by omega) (by omega) (by omega)
    rw [deep_self p1 p5 hi2 (by omega)] at hde
    have hdf : Ev (fun k => impl_EqualDeep.f k g (i : Int) g (j : Int)) (decide ((classesL g).getD i 0 = (classesL g).getD j 0)) := by
     unfold impl_EqualDeep.f
     exact Ev.bind v1 (Ev.ite_pos rfl (Ev.bind v2 hde))
    refine Ev.step (fun k => by simp only [laws_FnClassesOf.l1];rw [if_pos (by omega),if_pos (by omega),if_pos (by omega),if_pos (by omega),if_pos (by omega),rdN,rdN,w64s (n := i) (by omega) (by omega)]) ?_
    refine Ev.bind hdf (Ev.ite_neg ?_ hz2)
    by_cases e : (classesL g).getD i 0 = (classesL g).getD j 0
    ·rw [decide_eq_true e,e,beq_self_eq_true]
     decide
    ·rw [decide_eq_false e,beq_eq_false_iff_ne.2 e]
     decide
   ·have b := classes_le hi2
    have f := classes_fix hi2
    have hn : ((classesL g).getD i 0).toNat < g.length := by omega
    refine Ev.step (fun k => by simp only [laws_FnClassesOf.l1];rw [if_neg (by omega),if_pos (by omega),if_pos (by omega),rdN,if_neg (by omega),if_pos (by omega),if_pos (by omega),show (classesL g).getD i 0 = ((((classesL g).getD i 0).toNat : Nat) : Int) by omega,rdN,f,if_pos (by omega),w64s hi2 (by omega)]) hz
  ·exact Ev.step (fun k => by simp only [laws_FnClassesOf.l0];rw [if_neg (by omega)]) (Ev.now _)
end Go.Proofs.Ytapaegcombfafaa.Pure
