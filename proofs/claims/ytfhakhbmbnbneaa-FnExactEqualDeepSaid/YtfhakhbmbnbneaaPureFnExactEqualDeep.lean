/- The program's EqualDeep returns what the reference's returns: for all arguments, without a condition. -/
import Derived.Test.YtfhakhbmbnbneaaHdeep
import Derived.Test.YtfhakhbmbnbneaaQ18
import Derived.Test.YtfhakhbmbnbneaaQ3
import Derived.Test.YtfhakhbmbnbneaaQ50
namespace Go.Proofs.Ytfhakhbmbnbneaa.Pure
open Go.RowKit Go.Proofs.Ytfhakhbmbnbneaa.Q Go.Proofs.YtfhakhbmbnbneaaW.PrintWords
set_option linter.unusedVariables false
set_option linter.unusedSimpArgs false

theorem both (a : List Nd) (r : Int) (b : List Nd) (s : Int) (ha : a.length ≤ 1048576) (hak : ∀ x ∈ a,x.f2.length ≤ 1048576) (hb : b.length ≤ 1048576) (hbk : ∀ x ∈ b,x.f2.length ≤ 1048576) :
  ∃ q : Bool,Ev (fun k => spec_EqualDeep.f k a r b s) q ∧ Ev (fun k => impl_EqualDeep.f k a r b s) q := by
 unfold spec_EqualDeep.f impl_EqualDeep.f
 have hs1 := spec_validGraph_ev a r (by omega) (fun x hx => by have := hak x hx;omega)
 have hi1 := impl_ValidGraph_ev a r (by omega)
 have hs2 := spec_validGraph_ev b s (by omega) (fun x hx => by have := hbk x hx;omega)
 have hi2 := impl_ValidGraph_ev b s (by omega)
 have js : Ev (fun k => spec_EqualDeep.j0 k true a r b s) false := Ev.step (fun k => by simp only [spec_EqualDeep.j0];rw [if_pos trivial]) (Ev.now _)
 have ji : Ev (fun k => impl_EqualDeep.j0 k true a r b s) false := Ev.step (fun k => by simp only [impl_EqualDeep.j0];rw [if_pos trivial]) (Ev.now _)
 cases hv : vGraph a r with
 | false =>
  rw [hv] at hs1 hi1
  exact ⟨false,Ev.bind hs1 (Ev.ite_neg (by decide) js),Ev.bind hi1 (Ev.ite_neg (by decide) ji)⟩
 | true =>
  rw [hv] at hs1 hi1
  cases hw : vGraph b s with
  | false =>
   rw [hw] at hs2 hi2
   exact ⟨false,Ev.bind hs1 (Ev.ite_pos rfl (Ev.bind hs2 js)),Ev.bind hi1 (Ev.ite_pos rfl (Ev.bind hi2 ji))⟩
  | true =>
   rw [hw] at hs2 hi2
   obtain ⟨⟨p1,p2,p3,p4⟩,p5,p6,_⟩ := vGraph_parts hv
   obtain ⟨⟨u1,u2,u3,u4⟩,u5,u6,_⟩ := vGraph_parts hw
   exact ⟨deepB a r b s,Ev.bind hs1 (Ev.ite_pos rfl (Ev.bind hs2 (spec_deep_ev a r b s p2 p5 u2 u5 p3 p4 u3 u4))),Ev.bind hi1 (Ev.ite_pos rfl (Ev.bind hi2 (impl_deep_ev a r b s p2 p5 u2 u5 p3 p4 u3 u4)))⟩

theorem given (l : List LNd) (r a : Int) (h0 : 0 ≤ a) (ha : a ≤ 1048576) (hl : l.length ≤ maxLen) (hk : ∀ x ∈ l,x.f2.length ≤ maxLen) :
  ∃ t,Ev (fun k => laws_szGraph.f k l r a) t ∧ t ≤ a ∧ (0 ≤ t → ∃ g : List Nd,g.length ≤ 1048576 ∧ (∀ x ∈ g,x.f2.length ≤ 1048576) ∧ Ev (fun k => laws_toGraph.f k l r) (g,r) ∧ Ev (fun k => laws_eqGraph.f k g r g r) true) := by
 obtain ⟨t,ht,h2,h3,h4⟩ := szGraph_ev l r a h0 (by omega) hl hk
 refine ⟨t,ht,h2,fun h => ?_⟩
 obtain ⟨h5,h6⟩ := h4 h
 have hkids : ∀ x ∈ l.map toNd,x.f2.length ≤ 1048576 := fun x hx => by
  obtain ⟨y,hy,rfl⟩ := List.mem_map.1 hx
  have := h6 y hy
  unfold toNd
  dsimp only
  omega
 have hlen : (l.map toNd).length ≤ 1048576 := by rw [List.length_map];omega
 exact ⟨l.map toNd,hlen,hkids,toGraph_ev l r (by omega) (fun x hx => by have := h6 x hx;omega),eqGraph_same _ _ (by omega) (fun x hx => by have := hkids x hx;omega)⟩

theorem FnExactEqualDeep : laws_FnExactEqualDeep.Pure := by
 intro l r m s hl hr hm hs
 apply Ev.rounds
 unfold laws_FnExactEqualDeep.f
 obtain ⟨t,ht,h2,h3⟩ := given l r 1048576 (by omega) (by omega) hl.1 (fun x hx => (hl.2 x hx).2.2.1)
 refine Ev.bind ht ?_
 by_cases hneg : t < 0
 ·exact Ev.ite_pos hneg (Ev.now _)
 ·refine Ev.ite_neg hneg ?_
  obtain ⟨a,ha1,ha2,ha3,ha4⟩ := h3 (by omega)
  obtain ⟨u,hu,h4,h5⟩ := given m s t (by omega) (by omega) hm.1 (fun x hx => (hm.2 x hx).2.2.1)
  refine Ev.bind hu ?_
  by_cases hneg2 : u < 0
  ·exact Ev.ite_pos hneg2 (Ev.now _)
  ·refine Ev.ite_neg hneg2 ?_
   obtain ⟨b,hb1,hb2,hb3,hb4⟩ := h5 (by omega)
   obtain ⟨q,q1,q2⟩ := both a r b s ha1 ha2 hb1 hb2
   refine Ev.bind ha3 (Ev.bind hb3 (Ev.bind q1 (Ev.bind ha3 (Ev.bind hb3 (Ev.bind q2 ?_)))))
   exact Ev.ite_neg (by simp) (Ev.bind ha3 (Ev.bind ha4 (Ev.ite_pos rfl (Ev.bind hb3 (Ev.bind hb4 (Ev.ite_pos rfl (Ev.now _)))))))
end Go.Proofs.Ytfhakhbmbnbneaa.Pure
