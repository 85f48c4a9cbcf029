/- The code of the first of several nodes is how the code of all of them begins; and the roots that are drawn. -/
import Derived.Test.YtapaegcombfafaaHmany
import Derived.Test.YtapaegcombfafaaHdrawg
import Derived.Test.YtapaegcombfafaaQ12
import Derived.Test.YtapaegcombfafaaQ15
import Derived.Test.YtapaegcombfafaaQ39
import Derived.Test.YtapaegcombfafaaQ42
namespace Go.Proofs.Ytapaegcombfafaa.Q
open Go.RowKit Go.Proofs.YtapaegcombfafaaW.PrintWords
set_option linter.unusedVariables false
set_option linter.unusedSimpArgs false

theorem walk_pre : ∀ k : Nat,(∀ (l : List Nd) (i : Int) (S : List Int) (T : List (Int × Int)) (r : List Int × List (Int × Int)),impl_codesOf.walk k l i S T = some r → S <+: r.1) ∧ (∀ (l : List Nd) (q : List Int) (x : Int) (S : List Int) (T : List (Int × Int)) (r : List Int × List (Int × Int)),impl_codesOf.kids k l q x S T = some r → S <+: r.1)
 | 0 => ⟨fun _ _ _ _ _ h => by simp [impl_codesOf.walk] at h,fun _ _ _ _ _ _ h => by simp [impl_codesOf.kids] at h⟩
 | k + 1 => by
  obtain ⟨ih0,ih1⟩ := walk_pre k
  refine ⟨fun l i S T r h => ?_,fun l q x S T r h => ?_⟩
  ·simp only [impl_codesOf.walk] at h
   split at h
   ·split at h
    ·split at h
     ·split at h
      ·cases h
       exact List.prefix_append _ _
      ·split at h
       ·split at h
        ·exact (List.prefix_append _ _).trans (ih1 _ _ _ _ _ _ h)
        ·exact (List.prefix_append _ _).trans (ih1 _ _ _ _ _ _ h)
       ·cases h
     ·cases h
    ·cases h
   ·cases h
  ·simp only [impl_codesOf.kids] at h
   split at h
   ·split at h
    ·obtain ⟨b,h1,h2⟩ := Option.bind_eq_some_iff.1 h
     exact (ih0 _ _ _ _ _ h1).trans (ih1 _ _ _ _ _ _ h2)
    ·cases h
   ·cases h
    exact List.prefix_refl _
theorem roots_pre : ∀ (k : Nat) (l : List Nd) (q : List Int) (x : Int) (S : List Int) (T : List (Int × Int)) (r : List Int),impl_codesOf.roots k l q x S T = some r → S <+: r
 | 0,_,_,_,_,_,_,h => by simp [impl_codesOf.roots] at h
 | k + 1,l,q,x,S,T,r,h => by
  simp only [impl_codesOf.roots] at h
  split at h
  ·split at h
   ·obtain ⟨b,h1,h2⟩ := Option.bind_eq_some_iff.1 h
    exact ((walk_pre k).1 _ _ _ _ _ h1).trans (roots_pre k _ _ _ _ _ _ h2)
   ·cases h
  ·cases h
   exact List.prefix_refl _
theorem rd_take (L : List Int) (n : Nat) (x : Int) (h0 : 0 ≤ x) (h : x < (n : Int)) : rd (L.take n) x = rd L x := by
 unfold rd
 rw [List.getD_eq_getElem?_getD,List.getD_eq_getElem?_getD,List.getElem?_take,if_pos (by omega)]
theorem roots_two : ∀ (k : Nat) (l : List Nd) (L : List Int) (n : Nat) (x : Int) (S : List Int) (T : List (Int × Int)) (e q : List Int),n ≤ L.length → L.length ≤ 1000 → 0 ≤ x → x ≤ (n : Int) →
  impl_codesOf.roots k l (L.take n) x S T = some e → impl_codesOf.roots k l L x S T = some q → e <+: q
 | 0,_,_,_,_,_,_,_,_,_,_,_,_,h1,_ => by simp [impl_codesOf.roots] at h1
 | k + 1,l,L,n,x,S,T,e,q,hn,hL,h0,hx,h1,h2 => by
  by_cases hlt : x < (n : Int)
  ·simp only [impl_codesOf.roots] at h1 h2
   rw [if_pos (by rw [List.length_take];omega),if_pos h0,rd_take L n x h0 hlt] at h1
   rw [if_pos (by omega),if_pos h0] at h2
   obtain ⟨b,hb,h1⟩ := Option.bind_eq_some_iff.1 h1
   obtain ⟨b2,hb2,h2⟩ := Option.bind_eq_some_iff.1 h2
   rw [hb] at hb2
   cases hb2
   rw [w64 (by omega)] at h1 h2
   exact roots_two k l L n (x + 1) b.1 b.2 e q hn hL (by omega) (by omega) h1 h2
  ·have h3 := roots_pre (k + 1) l L x S T q h2
   simp only [impl_codesOf.roots] at h1
   rw [if_neg (by rw [List.length_take];omega)] at h1
   cases h1
   exact h3
theorem codes_pre (l : List Nd) (L : List Int) (n : Nat) (hn : n ≤ L.length) (hL : L.length ≤ 1000) {e q : List Int} (h1 : Ev (fun k => impl_codesOf.f k l (L.take n)) e) (h2 : Ev (fun k => impl_codesOf.f k l L) q) : e <+: q := by
 obtain ⟨a,ha⟩ := h1
 obtain ⟨b,hb⟩ := h2
 have x := ha (max a b) (Nat.le_max_left _ _)
 have y := hb (max a b) (Nat.le_max_right _ _)
 unfold impl_codesOf.f at x y
 exact roots_two _ l L n 0 [] [] e q hn hL (by omega) (by omega) x y
theorem vGraph_at {g : List Nd} {r : Int} (h : vGraph g r = true) (i : Int) (h0 : 0 ≤ i) (h1 : i < (g.length : Int)) : vGraph g i = true := by
 unfold vGraph at h ⊢
 rw [Bool.and_eq_true] at h ⊢
 refine ⟨?_,h.2⟩
 have h2 := h.1
 rw [Bool.and_eq_true] at h2 ⊢
 exact ⟨h2.1,by simp [h0,h1]⟩
theorem rootsOf_loop (b : List Int) (hb : Code b) (g : List Nd) (s : Int) (hg : 1 ≤ g.length ∧ g.length ≤ 10) : ∀ (n : Nat) (L : List Int) (p : Int),L.length + n ≤ 5 → 0 ≤ p → p + 1 * (n : Int) ≤ 900000000 →
  ∃ (L' : List Int) (q : Int),Ev (fun k => spec_rootsOf.l0 k L (n : Int) b p g s) (g,s,L',q) ∧ L'.length ≤ 5 := by
 intro n
 induction n with
 | zero =>
  intro L p hL h0 h1
  by_cases hz : (L.length : Int) > 0
  ·obtain ⟨c,hc,_,_⟩ := pickE b hb p 16 h0 (by omega)
   by_cases c0 : c = 0
   ·obtain ⟨v,hv,_⟩ := oneE b hb (p + 1) [-1,12] (by omega) (by omega) (by simp)
    refine ⟨L.set 0 v,p + 1 + 1,Ev.step (fun k => by simp only [spec_rootsOf.l0];rw [if_neg (by omega),if_pos hz]) ?_,by rw [List.length_set];omega⟩
    refine Ev.bind hc (Ev.ite_pos c0 ?_)
    exact Ev.bind hv (Ev.ite_pos (by omega) (Ev.now (g,s,L.set 0 v,p + 1 + 1)))
   ·refine ⟨L,p + 1,Ev.step (fun k => by simp only [spec_rootsOf.l0];rw [if_neg (by omega),if_pos hz]) ?_,by omega⟩
    refine Ev.bind hc (Ev.ite_neg c0 ?_)
    exact Ev.now (g,s,L,p + 1)
  ·exact ⟨L,p,Ev.step (fun k => by simp only [spec_rootsOf.l0];rw [if_neg (by omega),if_neg hz]) (Ev.now (g,s,L,p)),by omega⟩
 | succ n ih =>
  intro L p hL h0 h1
  obtain ⟨c,hc,_,_⟩ := pickE b hb p (g.length : Int) h0 (by omega)
  obtain ⟨L',q,h,hl⟩ := ih (L ++ [c]) (p + 1) (by rw [List.length_append,List.length_singleton];omega) (by omega) (by omega)
  refine ⟨L',q,Ev.step (fun k => by simp only [spec_rootsOf.l0];rw [if_pos (by omega),show wrap64 (((n + 1 : Nat) : Int) - 1) = (n : Int) by rw [w64 (by omega)];omega]) ?_,hl⟩
  refine Ev.bind hc (Ev.ite_pos (show L.length < 17592186044416 by omega) ?_)
  exact h
theorem rootsOf_ev (b : List Int) (hb : Code b) (p : Int) (h0 : 0 ≤ p) (h1 : p ≤ 500000000) : ∃ (g : List Nd) (s : Int) (L : List Int) (q : Int),Ev (fun k => spec_rootsOf.f k b p) (g,s,L,q) ∧ Small g ∧ L.length ≤ 5 := by
 unfold spec_rootsOf.f
 obtain ⟨g,s,q,h,q0,q1,hs⟩ := anyGraph_evq b hb p h0 h1
 obtain ⟨c,hc,hm⟩ := oneE b hb q [2,3,1,0,5] q0 (by omega) (by simp)
 obtain ⟨n,hn,hn5⟩ : ∃ n : Nat,c = (n : Int) ∧ n ≤ 5 := by
  simp only [List.mem_cons,List.not_mem_nil,or_false] at hm
  exact ⟨c.toNat,by omega,by omega⟩
 subst hn
 obtain ⟨L,q2,h2,hL⟩ := rootsOf_loop b hb g s ⟨hs.1,hs.2.1⟩ n [] (q + 1) (by simp;omega) (by omega) (by omega)
 exact ⟨g,s,L,q2,Ev.bind h (Ev.bind hc h2),hs,hL⟩
end Go.Proofs.Ytapaegcombfafaa.Q
