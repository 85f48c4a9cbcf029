/- The code of several roots of a drawn graph begins with the code of the first of them, and with the code of the first half of them: for every code of the draws, without a condition. -/
import Derived.Test.YtapaegcombfafaaHmanypre
import Derived.Test.YtapaegcombfafaaHeqs
import Derived.Test.YtapaegcombfafaaQ12
import Derived.Test.YtapaegcombfafaaQ15
import Derived.Test.YtapaegcombfafaaQ3
import Derived.Test.YtapaegcombfafaaQ39
import Derived.Test.YtapaegcombfafaaQ44
namespace Go.Proofs.Ytapaegcombfafaa.Pure
open Go.RowKit Go.Proofs.Ytapaegcombfafaa.Q Go.Proofs.YtapaegcombfafaaW.PrintWords
set_option linter.unusedVariables false
set_option linter.unusedSimpArgs false

theorem codeMany_valid (g : List Nd) (r : Int) (L : List Int) (hg : g.length ≤ 1048576) (hv : vGraph g r = true) (h5 : L.length ≤ 5) (hb : rootsB g L = true) : ∃ q : List Int,Ev (fun k => impl_CodeMany.f k g r L) q ∧ Ev (fun k => impl_codesOf.f k g L) q ∧ q.length ≤ 1000 := by
 have hi := impl_ValidGraph_ev g r (by omega)
 rw [hv] at hi
 obtain ⟨⟨p1,p2,p3,p4⟩,p5,p6,_⟩ := vGraph_parts hv
 obtain ⟨q,a1,a2,a3⟩ := many_both g r L p2 p5 (leaf0_of p6) (by omega) (rootsB_in hb)
 unfold impl_CodeMany.f impl_rootsOk.f
 refine ⟨q,Ev.bind (a := true) ?_ (Ev.ite_pos rfl (Ev.bind a2 (Ev.now _))),a2,a3⟩
 refine Ev.bind hi (Ev.ite_pos rfl (Ev.ite_pos (by omega) ?_))
 rw [rootsB_bad,hb]
 exact Ev.now _
theorem codeMany_void (g : List Nd) (r : Int) (L : List Int) (hg : g.length ≤ 1048576) (h5 : L.length ≤ 5) (h : vGraph g r = false ∨ rootsB g L = false) : Ev (fun k => impl_CodeMany.f k g r L) [] := by
 have hi := impl_ValidGraph_ev g r (by omega)
 unfold impl_CodeMany.f impl_rootsOk.f
 refine Ev.bind (a := false) ?_ (Ev.ite_neg (by decide) (Ev.now _))
 cases hv : vGraph g r with
 | false =>
  rw [hv] at hi
  exact Ev.bind hi (Ev.ite_neg (by decide) (Ev.now _))
 | true =>
  rw [hv] at hi h
  have hb := h.resolve_left (by decide)
  refine Ev.bind hi (Ev.ite_pos rfl (Ev.ite_pos (by omega) ?_))
  rw [rootsB_bad,hb]
  exact Ev.now _

theorem FnCodeMany : laws_FnCodeMany.Pure := by
 intro l hm _ hw
 apply Ev.rounds
 unfold laws_FnCodeMany.f
 by_cases h : (l.length : Int) > 1048576
 ·exact Ev.ite_pos h (Ev.now _)
 refine Ev.ite_neg h ?_
 obtain ⟨c,hc,hcode⟩ := newReader_ev l hw
 obtain ⟨g,r,L,q0,hg,⟨s1,s2,s3⟩,hL⟩ := rootsOf_ev c hcode 0 (by omega) (by omega)
 have hd : Ev (fun k => spec_DrawCodeMany.f k l) (g,r,L) := by
  unfold spec_DrawCodeMany.f
  exact Ev.bind0 hc (Ev.bind hg (Ev.now _))
 obtain ⟨q,hs,hi,hq⟩ := codeMany_both g r L (by omega) (fun x hx => by have := s3 x hx;omega) (by omega)
 have he := equalInts_same q (by omega)
 refine Ev.bind hd (Ev.bind hi (Ev.bind hs (Ev.bind he (Ev.ite_pos rfl ?_))))
 by_cases hz : q.length = 0
 ·have hz2 : ((q.length : Int) == 0) = true := by rw [hz];rfl
  rw [hz2]
  exact Ev.step (fun k => by simp only [laws_FnCodeMany.j0];rw [if_pos trivial]) (Ev.bind hs (Ev.bind he (Ev.now _)))
 ·have hz2 : ((q.length : Int) == 0) = false := by rw [beq_eq_false_iff_ne];omega
  rw [hz2]
  have hv : vGraph g r = true := by
   cases hv : vGraph g r with
   | true => rfl
   | false =>
    have := Ev.one hi (codeMany_void g r L (by omega) hL (.inl hv))
    rw [this] at hz
    exact absurd rfl hz
  have hb : rootsB g L = true := by
   cases hb : rootsB g L with
   | true => rfl
   | false =>
    have := Ev.one hi (codeMany_void g r L (by omega) hL (.inr hb))
    rw [this] at hz
    exact absurd rfl hz
  obtain ⟨q',b1,b2,_⟩ := codeMany_valid g r L (by omega) hv hL hb
  obtain rfl := Ev.one b1 hi
  have hpos : 0 < L.length := by
   rcases Nat.eq_zero_or_pos L.length with hl | hl
   ·have hnil := List.length_eq_zero_iff.1 hl
    subst hnil
    have : Ev (fun k => impl_codesOf.f k g []) [] := by
     unfold impl_codesOf.f
     exact Ev.step (fun k => by simp only [impl_codesOf.roots];rw [if_neg (by simp)]) (Ev.now _)
    have := Ev.one b2 this
    rw [this] at hz
    exact absurd rfl hz
   ·exact hl
  have hin := rootsB_in hb
  have htake : ∀ n,rootsB g (L.take n) = true := fun n => by
   unfold rootsB at hb ⊢
   rw [List.all_eq_true] at hb ⊢
   exact fun x hx => hb x (List.mem_of_mem_take hx)
  have h1 : L.take 1 = [rd L 0] := by
   cases L with
   | nil => simp at hpos
   | cons a t => rfl
  obtain ⟨q1,c1,c2,c3⟩ := codeMany_valid g r (L.take 1) (by omega) hv (by rw [List.length_take];omega) (htake 1)
  obtain ⟨q2,d1,d2,d3⟩ := codeMany_valid g r (L.take (L.length / 2)) (by omega) hv (by rw [List.length_take];omega) (htake _)
  have e1 := codes_pre g L 1 hpos (by omega) c2 b2
  have e2 := codes_pre g L (L.length / 2) (by omega) (by omega) d2 b2
  have hr0 := hin (rd L 0) (rd_mem L 0 (by omega) (by omega))
  have hone : Ev (fun k => impl_CodeOf.f k g (rd L 0)) q1 := by
   have hv0 := impl_ValidGraph_ev g (rd L 0) (by omega)
   rw [vGraph_at hv _ hr0.1 hr0.2] at hv0
   unfold impl_CodeOf.f
   rw [h1] at c2
   exact Ev.bind hv0 (Ev.ite_pos rfl (Ev.bind c2 (Ev.now _)))
  have hw2 : wrap64 ((L.length : Int) / 2) = ((L.length / 2 : Nat) : Int) := by rw [w64 (by omega)];omega
  have t1 : q'.take q1.length = q1 := (List.prefix_iff_eq_take.1 e1).symm
  have t2 : q'.take q2.length = q2 := (List.prefix_iff_eq_take.1 e2).symm
  have l1 := e1.length_le
  have l2 := e2.length_le
  refine Ev.step (fun k => by simp only [laws_FnCodeMany.j0];rw [if_neg (by decide),if_pos (by omega),hw2]) ?_
  refine Ev.bind hone (Ev.ite_pos (by omega) (Ev.ite_pos (by omega) ?_))
  refine Ev.bind d1 (Ev.ite_pos (by omega) (Ev.ite_pos (by omega) ?_))
  have f1 := equalInts_same q1 (by omega)
  have f2 := equalInts_same q2 (by omega)
  rw [show ((q1.length : Int)).toNat = q1.length from rfl,t1]
  refine Ev.bind f1 (Ev.ite_pos rfl (Ev.ite_pos (by omega) (Ev.ite_pos (by omega) ?_)))
  rw [show ((q2.length : Int)).toNat = q2.length from rfl,t2]
  exact Ev.bind f2 (Ev.now _)
end Go.Proofs.Ytapaegcombfafaa.Pure
