/- What the printed functions over graphs tell: sizes, copies, equality. -/
import Derived.Test.YtfhakhbmbnbneaaHint
import Derived.Test.YtfhakhbmbnbneaaQ38
import Derived.Test.YtfhakhbmbnbneaaQ99
namespace Go.Proofs.Ytfhakhbmbnbneaa.Q
open Go.RowKit Go.Proofs.YtfhakhbmbnbneaaW.PrintWords
set_option linter.unusedVariables false
set_option linter.unusedSimpArgs false

abbrev Nd := S45
abbrev zNd : Nd := z45
abbrev LNd := S74
theorem rdG (l : List Nd) (i : Nat) : rd_T45 l (i : Int) = l.getD i zNd := by simp [rd_T45]
theorem rdLG (l : List LNd) (i : Nat) : rd_T74 l (i : Int) = l.getD i z74 := by simp [rd_T74]
def toNd (x : LNd) : Nd := ⟨x.f0,x.f1,x.f2⟩

theorem toNode_ev (a b : Int) (l : List Int) (hl : l.length ≤ 35184372088832) : Ev (fun k => laws_toNode.f k a b l) (a,b,l) := by
 unfold laws_toNode.f
 exact Ev.bind (toIntS_ev l hl) (Ev.now _)
theorem toNodeS_ev (l : List LNd) (hn : l.length ≤ 7036874417766) (hk : ∀ x ∈ l,x.f2.length ≤ 35184372088832) : Ev (fun k => laws_toNodeS.f k l) (l.map toNd) := by
 have hn' : l.length ≤ 4611686018427387904 := by omega
 have hm : (l.map toNd).length = l.length := by simp
 unfold laws_toNodeS.f
 refine Ev.ite_pos (by omega) (Ev.ite_pos (by omega) ?_)
 have h := ev_steps (L := fun k b i => laws_toNodeS.l0 k l b i) (n := l.length) (fun i => (l.map toNd).take i ++ List.replicate ((l.map toNd).length - i) zNd) (r := l.map toNd) (fun i hi r hr => ?_) ?_
 ·simpa using h
 ·refine Ev.step (fun k => by simp only [laws_toNodeS.l0];rw [if_pos (by omega),if_pos (by omega),rdLG,getD_lt _ hi]) ?_
  refine Ev.bind (toNode_ev _ _ _ (hk _ (List.getElem_mem hi))) ?_
  refine Ev.ite_pos (by rw [fill_len _ _ i (by omega),hm];omega) ?_
  have e : (l.map toNd).getD i zNd = ⟨l[i].f0,l[i].f1,l[i].f2⟩ := by rw [getD_lt _ (by omega)];simp [toNd]
  have f := fill_step (l.map toNd) zNd i (by omega)
  rw [e] at f
  rw [w64s hi hn',Int.toNat_natCast]
  dsimp only
  rw [f]
  exact hr
 ·refine Ev.step (f := fun _ => some (l.map toNd)) (fun k => ?_) (Ev.now _)
  simp only [laws_toNodeS.l0]
  rw [if_neg (by omega),← hm,fill_end]
theorem toGraph_ev (l : List LNd) (r : Int) (hn : l.length ≤ 7036874417766) (hk : ∀ x ∈ l,x.f2.length ≤ 35184372088832) : Ev (fun k => laws_toGraph.f k l r) (l.map toNd,r) := by
 unfold laws_toGraph.f
 exact Ev.bind (toNodeS_ev l hn hk) (Ev.now _)
theorem szNode_eq (a b : Int) (l : List Int) (c : Int) (h0 : 0 ≤ c) (h1 : c ≤ 4611686018427387904) (hn : l.length ≤ maxLen) : laws_szNode.f a b l c = some (if c < l.length then -1 else c - l.length) := by
 unfold laws_szNode.f
 rw [szIntS_eq l c h0 h1 hn,Option.bind_some]
 by_cases h : c < l.length
 ·rw [if_pos h,if_pos (by omega)]
 ·rw [if_neg h,if_neg (by omega)]
theorem szNodeS_ev (l : List LNd) (a : Int) (h0 : 0 ≤ a) (h1 : a ≤ 4611686018427387904) (hn : l.length ≤ maxLen) (hk : ∀ x ∈ l,x.f2.length ≤ maxLen) :
  ∃ t,Ev (fun k => laws_szNodeS.f k l a) t ∧ t ≤ a ∧ -1 ≤ t ∧ (0 ≤ t → (l.length : Int) ≤ a ∧ ∀ x ∈ l,(x.f2.length : Int) ≤ a) := by
 have key : l.length ≤ 4611686018427387904 → ∀ d i,l.length - i = d → i ≤ l.length → ∀ b : Int,0 ≤ b → b ≤ a → ∃ t,Ev (fun k => laws_szNodeS.l0 k l b (i : Int)) t ∧ t ≤ b ∧ -1 ≤ t ∧ (0 ≤ t → ∀ j (hj : j < l.length),i ≤ j → (l[j].f2.length : Int) ≤ b) := by
  intro hn2 d
  induction d with
  | zero =>
   intro i hd hi b hb _
   exact ⟨b,Ev.step (fun k => by simp only [laws_szNodeS.l0];rw [if_neg (by omega)]) (Ev.now _),Int.le_refl _,by omega,fun _ j hj hij => by omega⟩
  | succ d ih =>
   intro i hd hi b hb hba
   have hlt : i < l.length := by omega
   have hs := szNode_eq l[i].f0 l[i].f1 l[i].f2 b hb (by omega) (hk _ (List.getElem_mem hlt))
   by_cases h : b < (l[i].f2.length : Int)
   ·rw [if_pos h] at hs
    refine ⟨-1,?_,by omega,by omega,fun z => by omega⟩
    refine Ev.step (fun k => by simp only [laws_szNodeS.l0];rw [if_pos (by omega),if_pos (by omega),rdLG,getD_lt _ hlt]) ?_
    exact Ev.bind0 hs (Ev.ite_pos (by omega) (Ev.now _))
   ·rw [if_neg h] at hs
    obtain ⟨t,ht,h2,h3,h4⟩ := ih (i + 1) (by omega) (by omega) (b - l[i].f2.length) (by omega) (by omega)
    refine ⟨t,?_,by omega,h3,fun z j hj hij => ?_⟩
    ·refine Ev.step (fun k => by simp only [laws_szNodeS.l0];rw [if_pos (by omega),if_pos (by omega),rdLG,getD_lt _ hlt]) ?_
     refine Ev.bind0 hs (Ev.ite_neg (by omega) ?_)
     rw [w64s hlt hn2]
     exact ht
    ·rcases Nat.lt_or_ge i j with q | q
     ·have := h4 z j hj q
      omega
     ·obtain rfl : i = j := by omega
      omega
 unfold laws_szNodeS.f
 rw [w64 (by unfold maxLen at hn;omega)]
 by_cases h : a - (l.length : Int) < 0
 ·exact ⟨-1,Ev.ite_pos h (Ev.now _),by omega,by omega,fun z => by omega⟩
 ·obtain ⟨t,ht,h2,h3,h4⟩ := key (by omega) l.length 0 (by omega) (by omega) (a - l.length) (by omega) (by omega)
  refine ⟨t,Ev.ite_neg h ht,by omega,h3,fun z => ⟨by omega,fun x hx => ?_⟩⟩
  obtain ⟨j,hj,rfl⟩ := List.getElem_of_mem hx
  have := h4 z j hj (Nat.zero_le _)
  omega
theorem szGraph_ev (l : List LNd) (r a : Int) (h0 : 0 ≤ a) (h1 : a ≤ 4611686018427387904) (hn : l.length ≤ maxLen) (hk : ∀ x ∈ l,x.f2.length ≤ maxLen) :
  ∃ t,Ev (fun k => laws_szGraph.f k l r a) t ∧ t ≤ a ∧ -1 ≤ t ∧ (0 ≤ t → (l.length : Int) ≤ a ∧ ∀ x ∈ l,(x.f2.length : Int) ≤ a) := by
 obtain ⟨t,ht,h2,h3,h4⟩ := szNodeS_ev l a h0 h1 hn hk
 refine ⟨t,?_,h2,h3,h4⟩
 unfold laws_szGraph.f
 refine Ev.bind ht ?_
 by_cases h : t < 0
 ·exact Ev.ite_pos h (Ev.at (Ev.now _) (by omega))
 ·exact Ev.ite_neg h (Ev.now _)
theorem eqNode_same (a b : Int) (l : List Int) (hn : l.length ≤ 4611686018427387904) : Ev (fun k => laws_eqNode.f k a b l a b l) true := by
 unfold laws_eqNode.f
 exact Ev.ite_pos rfl (Ev.ite_pos rfl (Ev.bind (eqIntS_same l hn) (Ev.ite_pos rfl (Ev.now _))))
theorem eqNodeS_same (l : List Nd) (hn : l.length ≤ 4611686018427387904) (hk : ∀ x ∈ l,x.f2.length ≤ 4611686018427387904) : Ev (fun k => laws_eqNodeS.f k l l) true := by
 unfold laws_eqNodeS.f
 refine Ev.ite_pos rfl ?_
 refine ev_steps (L := fun k (_ : Unit) i => laws_eqNodeS.l0 k l l i) (n := l.length) (fun _ => ()) (fun i hi r hr => ?_) ?_
 ·refine Ev.step (fun k => by simp only [laws_eqNodeS.l0];rw [if_pos (by omega),if_pos (by omega),if_pos (by omega),rdG,getD_lt _ hi]) ?_
  refine Ev.bind (eqNode_same _ _ _ (hk _ (List.getElem_mem hi))) (Ev.ite_pos rfl ?_)
  rw [w64s hi hn]
  exact hr
 ·exact Ev.step (fun k => by simp only [laws_eqNodeS.l0];rw [if_neg (by omega)]) (Ev.now _)
theorem eqGraph_same (l : List Nd) (r : Int) (hn : l.length ≤ 4611686018427387904) (hk : ∀ x ∈ l,x.f2.length ≤ 4611686018427387904) : Ev (fun k => laws_eqGraph.f k l r l r) true := by
 unfold laws_eqGraph.f
 exact Ev.bind (eqNodeS_same l hn hk) (Ev.ite_pos rfl (Ev.ite_pos rfl (Ev.now _)))
end Go.Proofs.Ytfhakhbmbnbneaa.Q
