/- Nodes with marks: what marking them leaves, and that it is held. -/
import Derived.Test.YtapaegcombfafaaHgraph
import Derived.Test.YtapaegcombfafaaQ48
import Derived.Test.YtapaegcombfafaaQ60
namespace Go.Proofs.Ytapaegcombfafaa.Q
open Go.RowKit Go.Proofs.YtapaegcombfafaaW.PrintWords
set_option linter.unusedVariables false
set_option linter.unusedSimpArgs false

def markedN : List Nd → Int → List Nd
 | [],_ => []
 | x :: l,a => ⟨a,a + 1,marked x.f2.length (a + 2)⟩ :: markedN l (a + 2 + x.f2.length)
def endN : List Nd → Int → Int
 | [],a => a
 | x :: l,a => endN l (a + 2 + x.f2.length)
theorem endN_le (l : List Nd) (a : Int) : a ≤ endN l a := by
 induction l generalizing a with
 | nil => exact Int.le_refl _
 | cons x l ih => have := ih (a + 2 + x.f2.length);unfold endN;omega
theorem endN_bound (l : List Nd) (a : Int) (m : Nat) (h : ∀ x ∈ l,x.f2.length ≤ m) : endN l a ≤ a + l.length * (m + 2) := by
 induction l generalizing a with
 | nil => simp [endN]
 | cons x l ih =>
  have h1 := h x (List.mem_cons_self)
  have := ih (a + 2 + x.f2.length) (fun y hy => h y (List.mem_cons_of_mem _ hy))
  unfold endN
  rw [List.length_cons]
  have e : (((l.length + 1 : Nat) : Int)) * ((m : Int) + 2) = (l.length : Int) * ((m : Int) + 2) + ((m : Int) + 2) := by
   rw [show ((l.length + 1 : Nat) : Int) = (l.length : Int) + 1 by omega,Int.add_mul,Int.one_mul]
  rw [e]
  omega
theorem markedN_len (l : List Nd) (a : Int) : (markedN l a).length = l.length := by
 induction l generalizing a with
 | nil => rfl
 | cons x l ih => simp [markedN,ih]
theorem rd_mid (pre : List Nd) (x : Nd) (r : List Nd) : rd_T58 (pre ++ x :: r) ((pre.length : Nat) : Int) = x := by
 rw [rdG,List.getD_eq_getElem?_getD,List.getElem?_append_right (Nat.le_refl _)]
 simp

theorem markNodes_ev (l : List Nd) (pre : List Nd) (a : Int) (h0 : 0 ≤ a) (hn : endN l a ≤ 4611686018427387904) (hp : pre.length + l.length ≤ 4611686018427387904) :
  Ev (fun k => laws_markNodeS.l0 k (pre ++ l) a (pre.length : Int)) (endN l a,pre ++ markedN l a) := by
 induction l generalizing pre a with
 | nil =>
  refine Ev.step (fun k => by unfold laws_markNodeS.l0;rw [if_neg (by rw [List.append_nil];omega)]) (Ev.at (Ev.now _) ?_)
  rw [List.append_nil]
  simp [markedN,endN]
 | cons x l ih =>
  have hle := endN_le l (a + 2 + x.f2.length)
  unfold endN at hn
  have hlen : ((pre ++ x :: l).length : Int) = pre.length + l.length + 1 := by rw [List.length_append,List.length_cons];omega
  rw [List.length_cons] at hp
  refine Ev.step (fun k => by unfold laws_markNodeS.l0;rw [if_pos (by omega),if_pos (by omega),rd_mid,w64 (e := a + 1) (by omega),w64 (e := a + 1 + 1) (by omega)]) ?_
  refine Ev.bind (markIntS_ev x.f2 (a + 1 + 1) (by omega) (by omega)) ?_
  have h := ih (pre ++ [⟨a,a + 1,marked x.f2.length (a + 2)⟩]) (a + 2 + x.f2.length) (by omega) hn (by rw [List.length_append,List.length_singleton];omega)
  have e1 : (pre ++ x :: l).set ((pre.length : Nat) : Int).toNat (⟨a,a + 1,marked x.f2.length (a + 1 + 1)⟩ : Nd) = (pre ++ [⟨a,a + 1,marked x.f2.length (a + 2)⟩]) ++ l := by
   rw [Int.toNat_natCast,List.set_append_right _ _ (Nat.le_refl _),Nat.sub_self,List.set_cons_zero,List.append_assoc,List.singleton_append,show a + 1 + 1 = a + 2 by omega]
  rw [w64 (e := (pre.length : Int) + 1) (by omega)]
  dsimp only
  rw [e1,show a + 1 + 1 + (x.f2.length : Int) = a + 2 + x.f2.length by omega,show (pre.length : Int) + 1 = (((pre ++ [(⟨a,a + 1,marked x.f2.length (a + 2)⟩ : Nd)]).length : Nat) : Int) by rw [List.length_append,List.length_singleton];omega]
  refine Ev.at h ?_
  simp [markedN,endN]
theorem markNodeS_ev (l : List Nd) (a : Int) (h0 : 0 ≤ a) (hn : endN l a ≤ 4611686018427387904) (hp : l.length ≤ 4611686018427387904) : Ev (fun k => laws_markNodeS.f k l a) (endN l a,markedN l a) := by
 unfold laws_markNodeS.f
 exact markNodes_ev l [] a h0 hn (by simpa using hp)

theorem heldNodes_ev (l : List Nd) (pre : List Nd) (a : Int) (h0 : 0 ≤ a) (hn : endN l a ≤ 4611686018427387904) (hp : pre.length + l.length ≤ 4611686018427387904) :
  Ev (fun k => laws_heldNodeS.l0 k (pre ++ markedN l a) a (pre.length : Int)) (endN l a) := by
 induction l generalizing pre a with
 | nil => exact Ev.step (fun k => by unfold laws_heldNodeS.l0;rw [if_neg (by simp [markedN])];rfl) (Ev.now (endN [] a))
 | cons x l ih =>
  have hle := endN_le l (a + 2 + x.f2.length)
  unfold endN at hn
  unfold markedN
  have hlen : ((pre ++ (⟨a,a + 1,marked x.f2.length (a + 2)⟩ : Nd) :: markedN l (a + 2 + x.f2.length)).length : Int) = pre.length + l.length + 1 := by rw [List.length_append,List.length_cons,markedN_len];omega
  rw [List.length_cons] at hp
  refine Ev.step (fun k => by unfold laws_heldNodeS.l0;rw [if_pos (by omega),if_pos (by omega),rd_mid,w64 (e := a + 1) (by omega),w64 (e := a + 1 + 1) (by omega)]) ?_
  refine Ev.ite_pos rfl (Ev.ite_pos rfl ?_)
  dsimp only
  rw [show a + 1 + 1 = a + 2 by omega]
  refine Ev.bind (heldIntS_ev x.f2.length (a + 2) (by omega) (by omega)) (Ev.ite_neg (by omega) ?_)
  have h := ih (pre ++ [⟨a,a + 1,marked x.f2.length (a + 2)⟩]) (a + 2 + x.f2.length) (by omega) hn (by rw [List.length_append,List.length_singleton];omega)
  rw [List.append_assoc,List.singleton_append] at h
  rw [w64 (e := (pre.length : Int) + 1) (by omega),show (pre.length : Int) + 1 = (((pre ++ [(⟨a,a + 1,marked x.f2.length (a + 2)⟩ : Nd)]).length : Nat) : Int) by rw [List.length_append,List.length_singleton];omega]
  exact h
theorem heldNodeS_ev (l : List Nd) (a : Int) (h0 : 0 ≤ a) (hn : endN l a ≤ 4611686018427387904) (hp : l.length ≤ 4611686018427387904) : Ev (fun k => laws_heldNodeS.f k (markedN l a) a) (endN l a) := by
 unfold laws_heldNodeS.f
 exact heldNodes_ev l [] a h0 hn (by simpa using hp)
theorem heldGraph_ev (l : List Nd) (r a : Int) (h0 : 0 ≤ a) (hn : endN l a ≤ 4611686018427387904) (hp : l.length ≤ 4611686018427387904) : Ev (fun k => laws_heldGraph.f k (markedN l a) r a) (endN l a) := by
 have := endN_le l a
 unfold laws_heldGraph.f
 exact Ev.bind (heldNodeS_ev l a h0 hn hp) (Ev.ite_neg (by omega) (Ev.now _))
end Go.Proofs.Ytapaegcombfafaa.Q
