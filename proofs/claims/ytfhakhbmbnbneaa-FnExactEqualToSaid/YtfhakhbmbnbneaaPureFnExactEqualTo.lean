/- The program's EqualTo returns what the reference's returns: for all arguments, without a condition. -/
import Derived.Test.YtfhakhbmbnbneaaHequal
import Derived.Test.YtfhakhbmbnbneaaHgraph
import Derived.Test.YtfhakhbmbnbneaaQ31
import Derived.Test.YtfhakhbmbnbneaaQ32
import Derived.Test.YtfhakhbmbnbneaaQ8
namespace Go.Proofs.Ytfhakhbmbnbneaa.Pure
open Go.RowKit Go.Proofs.Ytfhakhbmbnbneaa.Q Go.Proofs.YtfhakhbmbnbneaaW.PrintWords
set_option linter.unusedVariables false
set_option linter.unusedSimpArgs false

theorem both (a : List Nd) (r : Int) (b : List Nd) (s d : Int) (ha : a.length ≤ 1048576) (hak : ∀ x ∈ a,x.f2.length ≤ 1048576) (hb : b.length ≤ 1048576) (hbk : ∀ x ∈ b,x.f2.length ≤ 1048576) :
  ∃ q : Bool,Ev (fun k => spec_EqualTo.f k a r b s d) q ∧ Ev (fun k => impl_EqualTo.f k a r b s d) q := by
 unfold spec_EqualTo.f impl_EqualTo.f
 have hs1 := spec_validGraph_ev a r (by omega) (fun x hx => by have := hak x hx;omega)
 have hi1 := impl_ValidGraph_ev a r (by omega)
 have hs2 := spec_validGraph_ev b s (by omega) (fun x hx => by have := hbk x hx;omega)
 have hi2 := impl_ValidGraph_ev b s (by omega)
 cases hv : vGraph a r with
 | false =>
  rw [hv] at hs1 hi1
  exact ⟨false,Ev.bind hs1 (Ev.ite_neg (by decide) (Ev.now _)),Ev.bind hi1 (Ev.ite_neg (by decide) (Ev.now _))⟩
 | true =>
  rw [hv] at hs1 hi1
  cases hw : vGraph b s with
  | false =>
   rw [hw] at hs2 hi2
   exact ⟨false,Ev.bind hs1 (Ev.ite_pos rfl (Ev.bind hs2 (Ev.ite_neg (by decide) (Ev.now _)))),Ev.bind hi1 (Ev.ite_pos rfl (Ev.bind hi2 (Ev.ite_neg (by decide) (Ev.now _))))⟩
  | true =>
   rw [hw] at hs2 hi2
   obtain ⟨⟨p1,p2,p3,p4⟩,p5,p6,_⟩ := vGraph_parts hv
   obtain ⟨⟨u1,u2,u3,u4⟩,u5,u6,_⟩ := vGraph_parts hw
   have hr := inRange_eq d 0 8
   by_cases h0 : d < 0
   ·rw [decide_eq_false (show ¬ 0 ≤ d by omega),Bool.false_and] at hr
    exact ⟨false,Ev.bind hs1 (Ev.ite_pos rfl (Ev.bind hs2 (Ev.ite_pos rfl (Ev.bind0 hr (Ev.ite_neg (by decide) (Ev.now _)))))),Ev.bind hi1 (Ev.ite_pos rfl (Ev.bind hi2 (Ev.ite_pos rfl (Ev.ite_pos h0 (Ev.now _)))))⟩
   ·by_cases h8 : d > 8
    ·rw [decide_eq_false (show ¬ d ≤ 8 by omega),Bool.and_false] at hr
     exact ⟨false,Ev.bind hs1 (Ev.ite_pos rfl (Ev.bind hs2 (Ev.ite_pos rfl (Ev.bind0 hr (Ev.ite_neg (by decide) (Ev.now _)))))),Ev.bind hi1 (Ev.ite_pos rfl (Ev.bind hi2 (Ev.ite_pos rfl (Ev.ite_neg h0 (Ev.ite_pos h8 (Ev.now _))))))⟩
    ·rw [decide_eq_true (show 0 ≤ d by omega),decide_eq_true (show d ≤ 8 by omega)] at hr
     obtain ⟨n,rfl⟩ := Int.eq_ofNat_of_zero_le (show 0 ≤ d by omega)
     have hse := spec_equalTo_ev a b p5 u5 r s n (by omega) r s p3 p4 u3 u4
     have hadd : adds n ≤ 400000 := by
      have : ∀ m,m ≤ 8 → adds m ≤ adds 8 := by decide
      have h2 := this n (by omega)
      have h3 : adds 8 = 335923 := by decide
      omega
     obtain ⟨T',hie,_⟩ := equal_ev a b p5 u5 n (by omega) r s [] p3 p4 u3 u4 (fun i j e v h => by simp [impl_EqualTo.lk] at h) (by simp;omega)
     exact ⟨eqB a b n r s,Ev.bind hs1 (Ev.ite_pos rfl (Ev.bind hs2 (Ev.ite_pos rfl (Ev.bind0 hr (Ev.ite_pos rfl (Ev.bind hse (Ev.now _))))))),Ev.bind hi1 (Ev.ite_pos rfl (Ev.bind hi2 (Ev.ite_pos rfl (Ev.ite_neg h0 (Ev.ite_neg h8 (Ev.bind hie (Ev.now _)))))))⟩

theorem given (l : List LNd) (r a : Int) (h0 : 0 ≤ a) (ha : a ≤ 1048576) (hl : l.length ≤ maxLen) (hk : ∀ x ∈ l,x.f2.length ≤ maxLen) :
  ∃ t,Ev (fun k => laws_szGraph.f k l r a) t ∧ t ≤ a ∧ (0 ≤ t → ∃ g : List Nd,g.length ≤ 1048576 ∧ (∀ x ∈ g,x.f2.length ≤ 1048576) ∧ Ev (fun k => laws_toGraph.f k l r) (g,r) ∧ Ev (fun k => laws_eqGraph.f k g r g r) true) := by
 obtain ⟨t,ht,h2,h3,h4⟩ := szGraph_ev l r a h0 (by omega) hl hk
 refine ⟨t,ht,h2,fun h => ?_⟩
 obtain ⟨h5,h6⟩ := h4 h
 have hkids : ∀ x ∈ l.map toNd,x.f2.length ≤ 1048576 := fun x hx => by
  obtain ⟨y,hy,rfl⟩ := List.mem_map.1 hx
  have := h6 y hy
  unfold toNd
  dsimp only
  omega
 have hlen : (l.map toNd).length ≤ 1048576 := by rw [List.length_map];omega
 exact ⟨l.map toNd,hlen,hkids,toGraph_ev l r (by omega) (fun x hx => by have := h6 x hx;omega),eqGraph_same _ _ (by omega) (fun x hx => by have := hkids x hx;omega)⟩

theorem FnExactEqualTo : laws_FnExactEqualTo.Pure := by
 intro l r m s d hl hr hm hs hd
 apply Ev.rounds
 unfold laws_FnExactEqualTo.f
 obtain ⟨t,ht,h2,h3⟩ := given l r 1048576 (by omega) (by omega) hl.1 (fun x hx => (hl.2 x hx).2.2.1)
 refine Ev.bind ht ?_
 by_cases hneg : t < 0
 ·exact Ev.ite_pos hneg (Ev.now _)
 ·refine Ev.ite_neg hneg ?_
  obtain ⟨a,ha1,ha2,ha3,ha4⟩ := h3 (by omega)
  obtain ⟨u,hu,h4,h5⟩ := given m s t (by omega) (by omega) hm.1 (fun x hx => (hm.2 x hx).2.2.1)
  refine Ev.bind hu ?_
  by_cases hneg2 : u < 0
  ·exact Ev.ite_pos hneg2 (Ev.now _)
  ·refine Ev.ite_neg hneg2 ?_
   obtain ⟨b,hb1,hb2,hb3,hb4⟩ := h5 (by omega)
   obtain ⟨q,q1,q2⟩ := both a r b s d ha1 ha2 hb1 hb2
   refine Ev.bind ha3 (Ev.bind hb3 (Ev.bind q1 (Ev.bind ha3 (Ev.bind hb3 (Ev.bind q2 ?_)))))
   exact Ev.ite_neg (by simp) (Ev.bind ha3 (Ev.bind ha4 (Ev.ite_pos rfl (Ev.bind hb3 (Ev.bind hb4 (Ev.ite_pos rfl (Ev.now _)))))))
end Go.Proofs.Ytfhakhbmbnbneaa.Pure
