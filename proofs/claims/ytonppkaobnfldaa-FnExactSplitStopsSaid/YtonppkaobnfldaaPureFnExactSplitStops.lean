/- The program's SplitStops returns what the reference's returns: for every list of orders, without a condition. -/
import Derived.Test.YtonppkaobnfldaaHenc
import Derived.Test.YtonppkaobnfldaaQ37
import Derived.Test.YtonppkaobnfldaaQ10
import Derived.Test.YtonppkaobnfldaaQ37
import Derived.Test.YtonppkaobnfldaaQ39
namespace Go.Proofs.Ytonppkaobnfldaa.Q
open Go.RowKit Go.Proofs.YtonppkaobnfldaaW.PrintWords
set_option linter.unusedVariables false
set_option linter.unusedSimpArgs false

theorem rdParts (l : List (List Op)) (i : Nat) : rd_L6 l (i : Int) = l.getD i [] := by simp [rd_L6]
set_option maxRecDepth 100000 in
theorem split_both (l : List Op) (hn : l.length ≤ 300) : ∀ (d i : Nat) (out : List (List Op)) (part : List Op),l.length - i = d → i ≤ l.length → out.length ≤ i → part.length ≤ i → (∀ p ∈ out,p.length ≤ 300) →
  ∃ r : List (List Op),Ev (fun k => spec_SplitStops.l0 k l out part (i : Int)) r ∧ Ev (fun k => impl_SplitStops.l0 k out part l (l.length : Int) (i : Int)) r ∧ r.length ≤ 301 ∧ ∀ p ∈ r,p.length ≤ 300 := by
 intro d
 induction d with
 | zero =>
  intro i out part hd hi ho hp ha
  obtain rfl : i = l.length := by omega
  by_cases h : (part.length : Int) > 0
  ·refine ⟨out ++ [part],?_,?_,by rw [List.length_append,List.length_singleton];omega,fun p hp' => ?_⟩
   ·refine Ev.step (fun k => by unfold spec_SplitStops.l0;rw [if_neg (by omega),if_pos h]) ?_
    exact Ev.ite_pos (by omega) (Ev.now _)
   ·refine Ev.step (fun k => by unfold impl_SplitStops.l0;rw [if_neg (by omega),if_pos h]) ?_
    exact Ev.bind0 rfl (Ev.ite_pos (by omega) (Ev.now _))
   ·rcases List.mem_append.1 hp' with q | q
    ·exact ha p q
    ·rw [List.mem_singleton.1 q]
     omega
  ·exact ⟨out,Ev.step (fun k => by unfold spec_SplitStops.l0;rw [if_neg (by omega),if_neg h]) (Ev.now _),Ev.step (fun k => by unfold impl_SplitStops.l0;rw [if_neg (by omega),if_neg h]) (Ev.now _),by omega,ha⟩
 | succ d ih =>
  intro i out part hd hi ho hp ha
  have hlt : i < l.length := by omega
  have hpl : (part ++ [(⟨(l.getD i zOp).f0,(l.getD i zOp).f1⟩ : Op)]).length ≤ i + 1 := by rw [List.length_append,List.length_singleton];omega
  by_cases h : (l.getD i zOp).f0 = 19
  ·obtain ⟨r,h1,h2,h3⟩ := ih (i + 1) (out ++ [part ++ [(⟨(l.getD i zOp).f0,(l.getD i zOp).f1⟩ : Op)]]) [] (by omega) (by omega) (by rw [List.length_append,List.length_singleton];omega) (by simp) (fun p hp' => by
    rcases List.mem_append.1 hp' with q | q
    ·exact ha p q
    ·rw [List.mem_singleton.1 q]
     omega)
   refine ⟨r,?_,?_,h3⟩
   ·refine Ev.step (fun k => by unfold spec_SplitStops.l0;rw [if_pos (by omega),if_pos (by omega),rdO,w64s hlt (by omega)]) ?_
    exact Ev.ite_pos (by omega) (Ev.bind0 rfl (Ev.ite_pos h (Ev.ite_pos (by omega) h1)))
   ·refine Ev.step (fun k => by unfold impl_SplitStops.l0;rw [if_pos (by omega),if_pos (by omega),if_pos (by omega),rdO,w64s hlt (by omega)]) ?_
    exact Ev.ite_pos (by omega) (Ev.bind0 rfl (Ev.ite_pos h (Ev.bind0 rfl (Ev.ite_pos (by omega) h2))))
  ·obtain ⟨r,h1,h2,h3⟩ := ih (i + 1) out (part ++ [(⟨(l.getD i zOp).f0,(l.getD i zOp).f1⟩ : Op)]) (by omega) (by omega) (by omega) hpl ha
   refine ⟨r,?_,?_,h3⟩
   ·refine Ev.step (fun k => by unfold spec_SplitStops.l0;rw [if_pos (by omega),if_pos (by omega),rdO,w64s hlt (by omega)]) ?_
    exact Ev.ite_pos (by omega) (Ev.bind0 rfl (Ev.ite_neg h h1))
   ·refine Ev.step (fun k => by unfold impl_SplitStops.l0;rw [if_pos (by omega),if_pos (by omega),if_pos (by omega),rdO,w64s hlt (by omega)]) ?_
    exact Ev.ite_pos (by omega) (Ev.bind0 rfl (Ev.ite_neg h h2))
theorem splits (l : List Op) (hv : vOps l = true) : ∃ r : List (List Op),Ev (fun k => spec_SplitStops.f k l) r ∧ Ev (fun k => impl_SplitStops.f k l) r ∧ r.length ≤ 301 ∧ ∀ p ∈ r,p.length ≤ 300 := by
 have hn := vOps_len hv
 obtain ⟨r,h1,h2,h3,h4⟩ := split_both l hn l.length 0 [] [] (by omega) (by omega) (by simp) (by simp) (by simp)
 unfold spec_SplitStops.f impl_SplitStops.f
 have hvs := validOps_ev l (by omega)
 have hvi := implValidOps_ev l (by omega)
 rw [hv] at hvs hvi
 exact ⟨r,Ev.bind hvs (Ev.ite_pos rfl h1),Ev.bind hvi (Ev.ite_pos rfl h2),h3,h4⟩
end Go.Proofs.Ytonppkaobnfldaa.Q

namespace Go.Proofs.Ytonppkaobnfldaa.Pure
open Go.RowKit Go.Proofs.Ytonppkaobnfldaa.Q Go.Proofs.YtonppkaobnfldaaW.PrintWords
set_option linter.unusedVariables false
set_option linter.unusedSimpArgs false

def markP : List (List Q.Op) → Int → List (List Q.Op)
 | [],_ => []
 | x :: l,a => markedO x.length a :: markP l (a + 2 * x.length)
def endP : List (List Q.Op) → Int → Int
 | [],a => a
 | x :: l,a => endP l (a + 2 * x.length)
theorem endP_le (l : List (List Q.Op)) (a : Int) : a ≤ endP l a := by
 induction l generalizing a with
 | nil => exact Int.le_refl _
 | cons x l ih => have := ih (a + 2 * x.length);unfold endP;omega
theorem endP_bound (l : List (List Q.Op)) (a : Int) (h : ∀ x ∈ l,x.length ≤ 300) : endP l a ≤ a + l.length * 600 := by
 induction l generalizing a with
 | nil => simp [endP]
 | cons x l ih =>
  have h1 := h x (List.mem_cons_self)
  have := ih (a + 2 * x.length) (fun y hy => h y (List.mem_cons_of_mem _ hy))
  unfold endP
  rw [List.length_cons]
  omega
theorem markP_len (l : List (List Q.Op)) (a : Int) : (markP l a).length = l.length := by
 induction l generalizing a with
 | nil => rfl
 | cons x l ih => simp [markP,ih]
theorem getD_mid (pre : List (List Q.Op)) (x : List Q.Op) (r : List (List Q.Op)) : (pre ++ x :: r).getD pre.length [] = x := by
 rw [List.getD_eq_getElem?_getD,List.getElem?_append_right (Nat.le_refl _)]
 simp
theorem markPs_ev (l : List (List Q.Op)) (pre : List (List Q.Op)) (a : Int) (h0 : 0 ≤ a) (hn : endP l a ≤ 4611686018427387904) (hp : pre.length + l.length ≤ 4611686018427387904) :
  Ev (fun k => laws_markOpSS.l0 k (pre ++ l) a (pre.length : Int)) (endP l a,pre ++ markP l a) := by
 induction l generalizing pre a with
 | nil =>
  refine Ev.step (fun k => by unfold laws_markOpSS.l0;rw [if_neg (by rw [List.append_nil];omega)]) (Ev.at (Ev.now _) ?_)
  rw [List.append_nil]
  simp [markP,endP]
 | cons x l ih =>
  have hle := endP_le l (a + 2 * x.length)
  unfold endP at hn
  have hlen : ((pre ++ x :: l).length : Int) = pre.length + l.length + 1 := by rw [List.length_append,List.length_cons];omega
  rw [List.length_cons] at hp
  refine Ev.step (fun k => by unfold laws_markOpSS.l0;rw [if_pos (by omega),if_pos (by omega),Int.toNat_natCast,getD_mid]) ?_
  refine Ev.bind (markOpS_ev x a h0 (by omega)) ?_
  have h := ih (pre ++ [markedO x.length a]) (a + 2 * x.length) (by omega) hn (by rw [List.length_append,List.length_singleton];omega)
  have e1 : (pre ++ x :: l).set pre.length (markedO x.length a) = (pre ++ [markedO x.length a]) ++ l := by
   rw [List.set_append_right _ _ (Nat.le_refl _),Nat.sub_self,List.set_cons_zero,List.append_assoc,List.singleton_append]
  rw [w64 (e := (pre.length : Int) + 1) (by omega)]
  dsimp only
  rw [e1,show (pre.length : Int) + 1 = (((pre ++ [markedO x.length a]).length : Nat) : Int) by rw [List.length_append,List.length_singleton];omega]
  refine Ev.at h ?_
  simp [markP,endP]
theorem markOpSS_ev (l : List (List Q.Op)) (a : Int) (h0 : 0 ≤ a) (hn : endP l a ≤ 4611686018427387904) (hp : l.length ≤ 4611686018427387904) : Ev (fun k => laws_markOpSS.f k l a) (endP l a,markP l a) := by
 unfold laws_markOpSS.f
 exact markPs_ev l [] a h0 hn (by simpa using hp)
theorem heldPs_ev (l : List (List Q.Op)) (pre : List (List Q.Op)) (a : Int) (h0 : 0 ≤ a) (hn : endP l a ≤ 4611686018427387904) (hp : pre.length + l.length ≤ 4611686018427387904) :
  Ev (fun k => laws_heldOpSS.l0 k (pre ++ markP l a) a (pre.length : Int)) (endP l a) := by
 induction l generalizing pre a with
 | nil => exact Ev.step (fun k => by unfold laws_heldOpSS.l0;rw [if_neg (by simp [markP])];rfl) (Ev.now (endP [] a))
 | cons x l ih =>
  have hle := endP_le l (a + 2 * x.length)
  unfold endP at hn
  unfold markP
  have hlen : ((pre ++ markedO x.length a :: markP l (a + 2 * x.length)).length : Int) = pre.length + l.length + 1 := by rw [List.length_append,List.length_cons,markP_len];omega
  rw [List.length_cons] at hp
  refine Ev.step (fun k => by unfold laws_heldOpSS.l0;rw [if_pos (by omega),if_pos (by omega),rdParts,getD_mid]) ?_
  refine Ev.bind (heldOpS_ev x.length a (by omega) (by omega)) (Ev.ite_neg (by omega) ?_)
  have h := ih (pre ++ [markedO x.length a]) (a + 2 * x.length) (by omega) hn (by rw [List.length_append,List.length_singleton];omega)
  rw [List.append_assoc,List.singleton_append] at h
  rw [w64 (e := (pre.length : Int) + 1) (by omega),show (pre.length : Int) + 1 = (((pre ++ [markedO x.length a]).length : Nat) : Int) by rw [List.length_append,List.length_singleton];omega]
  exact h
theorem heldOpSS_ev (l : List (List Q.Op)) (a : Int) (h0 : 0 ≤ a) (hn : endP l a ≤ 4611686018427387904) (hp : l.length ≤ 4611686018427387904) : Ev (fun k => laws_heldOpSS.f k (markP l a) a) (endP l a) := by
 unfold laws_heldOpSS.f
 exact heldPs_ev l [] a h0 hn (by simpa using hp)
theorem eqOpSS_same (l : List (List Q.Op)) (hn : l.length ≤ 301) (hp : ∀ p ∈ l,p.length ≤ 300) : Ev (fun k => laws_eqOpSS.f k l l) true := by
 unfold laws_eqOpSS.f
 refine Ev.ite_pos rfl ?_
 refine ev_steps (L := fun k (_ : Unit) i => laws_eqOpSS.l0 k l l i) (n := l.length) (fun _ => ()) (fun i hi r hr => ?_) ?_
 ·refine Ev.step (fun k => by unfold laws_eqOpSS.l0;rw [if_pos (by omega),if_pos (by omega),if_pos (by omega),rdParts,getD_lt _ hi,w64s hi (by omega)]) ?_
  exact Ev.bind (eqOpS_same _ (by have := hp _ (List.getElem_mem hi);omega)) (Ev.ite_pos rfl hr)
 ·exact Ev.step (fun k => by unfold laws_eqOpSS.l0;rw [if_neg (by omega)]) (Ev.now true)
theorem both (l : List Q.Op) (hn : l.length ≤ 1048576) : ∃ r : List (List Q.Op),Ev (fun k => spec_SplitStops.f k l) r ∧ Ev (fun k => impl_SplitStops.f k l) r ∧ r.length ≤ 301 ∧ ∀ p ∈ r,p.length ≤ 300 := by
 cases hb : vOps l with
 | true => exact splits l hb
 | false =>
  have hv := validOps_ev l (by omega)
  have hv' := implValidOps_ev l (by omega)
  rw [hb] at hv hv'
  unfold spec_SplitStops.f impl_SplitStops.f
  exact ⟨[],Ev.bind hv (Ev.ite_neg (by decide) (Ev.now _)),Ev.bind hv' (Ev.ite_neg (by decide) (Ev.now _)),by simp,by simp⟩

theorem FnExactSplitStops : laws_FnExactSplitStops.Pure := by
 intro l ⟨hm,_⟩
 apply Ev.rounds
 unfold laws_FnExactSplitStops.f
 refine Ev.bind0 (szOpS_eq l 1048576 (by omega) (by omega) hm) ?_
 by_cases h : (1048576 : Int) < l.length
 ·rw [if_pos h]
  exact Ev.ite_pos (by omega) (Ev.now _)
 ·rw [if_neg h]
  refine Ev.ite_neg (by omega) ?_
  have ht := toOpS_ev l (by omega)
  have hl : (l.map toOp).length ≤ 4611686018427387904 := by simp;omega
  obtain ⟨r,hs,hi,hb,hp⟩ := both (l.map toOp) (by simp;omega)
  have heq := eqOpSS_same r hb hp
  have hle := endP_le r 1
  have hbd := endP_bound r 1 hp
  have hmark := markOpSS_ev r 1 (by omega) (by omega) (by omega)
  have hheld := heldOpSS_ev r 1 (by omega) (by omega) (by omega)
  refine Ev.bind ht (Ev.bind hs (Ev.bind ht (Ev.bind hi (Ev.bind heq (Ev.ite_pos rfl ?_)))))
  refine Ev.bind ht (Ev.bind (eqOpS_same _ hl) (Ev.ite_pos rfl ?_))
  refine Ev.bind (markOpS_ev _ 1 (by omega) (by simp;omega)) (Ev.ite_neg (by omega) (Ev.bind heq ?_))
  refine Ev.step (fun k => by simp only [laws_FnExactSplitStops.j0];exact rfl) ?_
  refine Ev.ite_neg (by decide) (Ev.bind hmark (Ev.bind hheld (Ev.ite_neg (by omega) (Ev.ite_pos rfl ?_))))
  exact Ev.bind ht (Ev.bind hi (Ev.bind heq (Ev.ite_pos rfl (Ev.bind hheld (Ev.ite_neg (by omega) (Ev.ite_pos rfl (Ev.now _)))))))
end Go.Proofs.Ytonppkaobnfldaa.Pure
