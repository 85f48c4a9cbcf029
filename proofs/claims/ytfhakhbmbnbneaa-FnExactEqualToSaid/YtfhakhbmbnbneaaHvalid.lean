/- Which graphs are valid, but for circles of tuples: one plain word, told by the reference's functions and by the program's. -/
import Derived.Test.YtfhakhbmbnbneaaHgraph
import Derived.Test.YtfhakhbmbnbneaaQ101
import Derived.Test.YtfhakhbmbnbneaaQ67
import Derived.Test.YtfhakhbmbnbneaaQ70
import Derived.Test.YtfhakhbmbnbneaaQ81
import Derived.Test.YtfhakhbmbnbneaaQ94
namespace Go.Proofs.Ytfhakhbmbnbneaa.Q
open Go.RowKit Go.Proofs.YtfhakhbmbnbneaaW.PrintWords
set_option linter.unusedVariables false
set_option linter.unusedSimpArgs false

/-- A loop that asks something of each place, ends at the first that says no, and goes on behind the last. -/
theorem ev_allq {L : Nat → Int → Option Bool} {n : Nat} {p : Nat → Bool} {fin : Bool}
  (hs : ∀ i : Nat,i < n → p i = true → ∀ r,Ev (fun k => L k ((i + 1 : Nat) : Int)) r → Ev (fun k => L k (i : Int)) r)
  (hf : ∀ i : Nat,i < n → p i = false → Ev (fun k => L k (i : Int)) false)
  (he : (∀ i : Nat,i < n → p i = true) → Ev (fun k => L k (n : Int)) fin) : Ev (fun k => L k 0) ((List.range n).all p && fin) := by
 have key : ∀ d i,n - i = d → i ≤ n → (∀ j : Nat,j < i → p j = true) → Ev (fun k => L k (i : Int)) ((List.range' i (n - i)).all p && fin) := by
  intro d
  induction d with
  | zero =>
   intro i hd hi hb
   obtain rfl : i = n := by omega
   simpa using he hb
  | succ d ih =>
   intro i hd hi hb
   have hlt : i < n := by omega
   have e : List.range' i (n - i) = i :: List.range' (i + 1) (n - (i + 1)) := by
    rw [show n - i = (n - (i + 1)) + 1 by omega,List.range'_succ]
   rw [e,List.all_cons]
   cases hp : p i with
   | true =>
    rw [Bool.true_and]
    refine hs i hlt hp _ (ih (i + 1) (by omega) (by omega) (fun j hj => ?_))
    rcases Nat.lt_or_ge j i with q | q
    ·exact hb j q
    ·obtain rfl : j = i := by omega
     exact hp
   | false => simpa using hf i hlt hp
 have := key n 0 (by omega) (by omega) (fun j hj => by omega)
 rw [List.range_eq_range']
 simpa using this

abbrev nd (g : List Nd) (i : Int) : Nd := rd_T45 g i
/-- Not too many kids, and all of them nodes. -/
def kidsOk (g : List Nd) (l : List Int) : Bool := decide (l.length ≤ 6) && l.all (fun x => decide (0 ≤ x) && decide (x ≤ (g.length : Int) - 1))
theorem kidsOk_iff (g : List Nd) (l : List Int) : kidsOk g l = true ↔ l.length ≤ 6 ∧ ∀ x ∈ l,0 ≤ x ∧ x < (g.length : Int) := by
 unfold kidsOk
 rw [Bool.and_eq_true,decide_eq_true_eq,List.all_eq_true]
 constructor
 ·rintro ⟨h1,h2⟩
  refine ⟨h1,fun x hx => ?_⟩
  have := h2 x hx
  rw [Bool.and_eq_true,decide_eq_true_eq,decide_eq_true_eq] at this
  omega
 ·rintro ⟨h1,h2⟩
  refine ⟨h1,fun x hx => ?_⟩
  have := h2 x hx
  rw [Bool.and_eq_true,decide_eq_true_eq,decide_eq_true_eq]
  omega
def keyAt (g : List Nd) (l : List Int) (i : Nat) : Nd := nd g (l.getD i 0)
def same (a b : Nd) : Bool := decide (a.f0 = b.f0) && decide (a.f1 = b.f1)
def dictAt (g : List Nd) (l : List Int) (m : Nat) : Bool := (decide ((keyAt g l (2 * m)).f0 = 0) || decide ((keyAt g l (2 * m)).f0 = 1)) && (List.range m).all (fun j => !same (keyAt g l (2 * m)) (keyAt g l (2 * j)))
def dictOk (g : List Nd) (l : List Int) : Bool := (List.range ((l.length + 1) / 2)).all (dictAt g l) && decide (l.length % 2 = 0)
def nodeB (g : List Nd) (x : Nd) : Bool :=
 if x.f0 = 0 then (decide (0 ≤ x.f1) && decide (x.f1 ≤ 999)) && decide (x.f2.length = 0)
 else if x.f0 = 1 then (decide (0 ≤ x.f1) && decide (x.f1 ≤ 9)) && decide (x.f2.length = 0)
 else if x.f0 = 2 ∨ x.f0 = 3 then decide (x.f1 = 0)
 else if x.f0 = 4 then decide (x.f1 = 0) && dictOk g x.f2
 else if x.f0 = 5 then (decide (0 ≤ x.f1) && decide (x.f1 ≤ 9)) && decide (x.f2.length ≤ 1)
 else false

theorem isKey_eq (a b : Int) (l : List Int) : spec_isKey.f a b l = some (decide (a = 0) || decide (a = 1)) := by
 unfold spec_isKey.f
 by_cases h : a = 0
 ·simp [h]
 ·rw [if_neg h,decide_eq_false h,Bool.false_or]
  exact congrArg some (by rw [Bool.eq_iff_iff];simp)
theorem sameKey_eq (a b : Nd) : spec_sameKey.f a.f0 a.f1 a.f2 b.f0 b.f1 b.f2 = some (same a b) := by
 unfold spec_sameKey.f same
 by_cases h : a.f0 = b.f0
 ·rw [if_pos h,decide_eq_true h,Bool.true_and]
  exact congrArg some (by rw [Bool.eq_iff_iff];simp)
 ·simp [h]
theorem len_beq (l : List Int) : ((l.length : Int) == 0) = decide (l.length = 0) := by
 rw [Bool.eq_iff_iff]
 simp
theorem len_mod (l : List Int) : (((l.length : Int) % 2) == 0) = decide (l.length % 2 = 0) := by
 rw [Bool.eq_iff_iff,beq_iff_eq,decide_eq_true_eq]
 omega

theorem validDict_ev (g : List Nd) (r a b : Int) (l : List Int) (hg : g.length ≤ 12) (hl : kidsOk g l = true) : Ev (fun k => spec_validDict.f k g r a b l) (dictOk g l) := by
 obtain ⟨h6,hk⟩ := (kidsOk_iff g l).1 hl
 have hin : ∀ i : Nat,i < l.length → 0 ≤ l.getD i 0 ∧ l.getD i 0 < (g.length : Int) := fun i hi => by rw [getD_lt 0 hi];exact hk _ (List.getElem_mem hi)
 unfold spec_validDict.f dictOk
 have inner : ∀ (i : Nat),2 * i < l.length → ∀ q,((∀ j : Nat,j < i → (!same (keyAt g l (2 * i)) (keyAt g l (2 * j))) = true) → Ev (fun k => spec_validDict.l0 k (2 * ((i + 1 : Nat) : Int)) g r a b l) q) → Ev (fun k => spec_validDict.l1 k (2 * (i : Int)) 0 g r a b l) ((List.range i).all (fun j => !same (keyAt g l (2 * i)) (keyAt g l (2 * j))) && q) := by
  intro i hi q hq
  have hii := hin (2 * i) hi
  have h := ev_allq (L := fun k j => spec_validDict.l1 k (2 * (i : Int)) (2 * j) g r a b l) (n := i) (p := fun j => !same (keyAt g l (2 * i)) (keyAt g l (2 * j))) (fin := q) (fun j hj hp s hs => ?_) (fun j hj hp => ?_) (fun hall => ?_)
  ·simpa using h
  ·have hjj := hin (2 * j) (by omega)
   refine Ev.step (fun k => by simp only [spec_validDict.l1];rw [if_pos (by omega),if_pos (by omega),if_pos (by omega),show (2 * (i : Int)) = ((2 * i : Nat) : Int) by omega,show (2 * (j : Int)) = ((2 * j : Nat) : Int) by omega,rdN,rdN,if_pos hii.1,if_pos hii.2,if_pos (by omega),if_pos (by omega),if_pos hjj.1,if_pos hjj.2,sameKey_eq]) ?_
   refine Ev.bind0 rfl (Ev.ite_neg (by intro z;unfold keyAt at hp;rw [z] at hp;cases hp) ?_)
   rw [show wrap64 (((2 * j : Nat) : Int) + 2) = 2 * ((j + 1 : Nat) : Int) by rw [w64 (by omega)];omega,show (((2 * i : Nat)) : Int) = 2 * (i : Int) by omega]
   exact hs
  ·have hjj := hin (2 * j) (by omega)
   refine Ev.step (fun k => by simp only [spec_validDict.l1];rw [if_pos (by omega),if_pos (by omega),if_pos (by omega),show (2 * (i : Int)) = ((2 * i : Nat) : Int) by omega,show (2 * (j : Int)) = ((2 * j : Nat) : Int) by omega,rdN,rdN,if_pos hii.1,if_pos hii.2,if_pos (by omega),if_pos (by omega),if_pos hjj.1,if_pos hjj.2,sameKey_eq]) ?_
   refine Ev.bind0 rfl (Ev.ite_pos ?_ (Ev.now _))
   unfold keyAt at hp
   simpa using hp
  ·refine Ev.step (fun k => by simp only [spec_validDict.l1];rw [if_neg (by omega)]) ?_
   rw [show wrap64 (2 * (i : Int) + 2) = 2 * ((i + 1 : Nat) : Int) by rw [w64 (by omega)];omega]
   exact hq hall
 have h := ev_allq (L := fun k i => spec_validDict.l0 k (2 * i) g r a b l) (n := (l.length + 1) / 2) (p := dictAt g l) (fin := decide (l.length % 2 = 0)) (fun i hi hp s hs => ?_) (fun i hi hp => ?_) (fun _ => ?_)
 ·simpa using h
 ·have h2 : 2 * i < l.length := by omega
  have hii := hin (2 * i) h2
  unfold dictAt at hp
  rw [Bool.and_eq_true] at hp
  refine Ev.step (fun k => by simp only [spec_validDict.l0];rw [if_pos (by omega),if_pos (by omega),show (2 * (i : Int)) = ((2 * i : Nat) : Int) by omega,rdN,if_pos hii.1,if_pos hii.2,isKey_eq]) ?_
  refine Ev.bind0 rfl (Ev.ite_pos hp.1 ?_)
  have h := inner i h2 s (fun _ => hs)
  rw [hp.2,Bool.true_and] at h
  rw [show (((2 * i : Nat)) : Int) = 2 * (i : Int) by omega]
  exact h
 ·have h2 : 2 * i < l.length := by omega
  have hii := hin (2 * i) h2
  refine Ev.step (fun k => by simp only [spec_validDict.l0];rw [if_pos (by omega),if_pos (by omega),show (2 * (i : Int)) = ((2 * i : Nat) : Int) by omega,rdN,if_pos hii.1,if_pos hii.2,isKey_eq]) ?_
  refine Ev.bind0 rfl ?_
  unfold dictAt at hp
  rw [Bool.and_eq_false_iff] at hp
  by_cases hkey : (decide ((keyAt g l (2 * i)).f0 = 0) || decide ((keyAt g l (2 * i)).f0 = 1)) = true
  ·refine Ev.ite_pos hkey ?_
   have hall : (List.range i).all (fun j => !same (keyAt g l (2 * i)) (keyAt g l (2 * j))) = false := hp.resolve_left (by rw [hkey];decide)
   have h := inner i h2 false (fun z => absurd hall (by rw [List.all_eq_true.2 (fun j hj => z j (List.mem_range.1 hj))];decide))
   rw [hall,Bool.false_and] at h
   rw [show (((2 * i : Nat)) : Int) = 2 * (i : Int) by omega]
   exact h
  ·exact Ev.ite_neg hkey (Ev.now _)
 ·exact Ev.step (fun k => by simp only [spec_validDict.l0];rw [if_neg (by omega),len_mod]) (Ev.now _)

theorem validNode_ev (g : List Nd) (r : Int) (x : Nd) (hg : g.length ≤ 12) (hx : x.f2.length ≤ 4611686018427387904) : Ev (fun k => spec_validNode.f k g r x.f0 x.f1 x.f2) (kidsOk g x.f2 && nodeB g x) := by
 have hj : ∀ t : Bool,(t = false → kidsOk g x.f2 = true) → Ev (fun k => spec_validNode.j0 k t g r x.f0 x.f1 x.f2) (!t && nodeB g x) := by
  intro t hk
  refine Ev.step (fun k => by simp only [spec_validNode.j0];exact rfl) ?_
  cases t with
  | true => exact Ev.ite_pos rfl (Ev.now _)
  | false =>
   refine Ev.ite_neg (by decide) ?_
   rw [Bool.not_false,Bool.true_and]
   have hkids := hk rfl
   unfold nodeB
   by_cases h0 : x.f0 = 0
   ·rw [if_pos h0]
    refine Ev.ite_pos h0 (Ev.bind0 (inRange_eq _ _ _) ?_)
    cases (decide (0 ≤ x.f1) && decide (x.f1 ≤ 999)) with
    | true => exact Ev.ite_pos rfl (Ev.at (Ev.now _) (by rw [len_beq,Bool.true_and]))
    | false => exact Ev.ite_neg (by decide) (Ev.now _)
   ·rw [if_neg h0]
    refine Ev.ite_neg h0 ?_
    by_cases h1 : x.f0 = 1
    ·rw [if_pos h1]
     refine Ev.ite_pos h1 (Ev.bind0 (inRange_eq _ _ _) ?_)
     cases (decide (0 ≤ x.f1) && decide (x.f1 ≤ 9)) with
     | true => exact Ev.ite_pos rfl (Ev.at (Ev.now _) (by rw [len_beq,Bool.true_and]))
     | false => exact Ev.ite_neg (by decide) (Ev.now _)
    ·rw [if_neg h1]
     refine Ev.ite_neg h1 ?_
     have hj1 : ∀ u : Bool,u = (decide (x.f0 = 2 ∨ x.f0 = 3)) → Ev (fun k => spec_validNode.j1 k x.f0 u g r x.f0 x.f1 x.f2) (if x.f0 = 2 ∨ x.f0 = 3 then decide (x.f1 = 0) else if x.f0 = 4 then decide (x.f1 = 0) && dictOk g x.f2 else if x.f0 = 5 then (decide (0 ≤ x.f1) && decide (x.f1 ≤ 9)) && decide (x.f2.length ≤ 1) else false) := by
      intro u hu
      refine Ev.step (fun k => by simp only [spec_validNode.j1];exact rfl) ?_
      by_cases h23 : x.f0 = 2 ∨ x.f0 = 3
      ·rw [if_pos h23]
       refine Ev.ite_pos (by rw [hu];exact decide_eq_true h23) (Ev.at (Ev.now _) ?_)
       rw [Bool.eq_iff_iff]
       simp
      ·rw [if_neg h23]
       refine Ev.ite_neg (by rw [hu,decide_eq_false h23];decide) ?_
       by_cases h4 : x.f0 = 4
       ·rw [if_pos h4]
        refine Ev.ite_pos h4 ?_
        by_cases hz : x.f1 = 0
        ·rw [decide_eq_true hz,Bool.true_and]
         exact Ev.ite_pos hz (Ev.bind (validDict_ev g r _ _ _ hg hkids) (Ev.now _))
        ·rw [decide_eq_false hz,Bool.false_and]
         exact Ev.ite_neg hz (Ev.now _)
       ·rw [if_neg h4]
        refine Ev.ite_neg h4 ?_
        by_cases h5 : x.f0 = 5
        ·refine Ev.ite_pos h5 ?_
         rw [if_pos h5]
         refine Ev.bind0 (inRange_eq _ _ _) ?_
         cases (decide (0 ≤ x.f1) && decide (x.f1 ≤ 9)) with
         | true => exact Ev.ite_pos rfl (Ev.at (Ev.now _) (by rw [Bool.true_and,Bool.eq_iff_iff,decide_eq_true_eq,decide_eq_true_eq];omega))
         | false => exact Ev.ite_neg (by decide) (Ev.now _)
        ·refine Ev.ite_neg h5 ?_
         rw [if_neg h5]
         exact Ev.now _
     by_cases h2 : x.f0 = 2
     ·exact Ev.ite_pos h2 (hj1 _ (by rw [h2];decide))
     ·refine Ev.ite_neg h2 (hj1 _ ?_)
      rw [Bool.eq_iff_iff,beq_iff_eq,decide_eq_true_eq]
      exact ⟨Or.inr,fun z => z.resolve_left h2⟩
 unfold spec_validNode.f
 by_cases h6 : (x.f2.length : Int) > 6
 ·refine Ev.ite_pos h6 (Ev.at (hj true (fun z => absurd z (by decide))) ?_)
  rw [Bool.not_true,Bool.false_and]
  unfold kidsOk
  rw [decide_eq_false (by omega),Bool.false_and,Bool.false_and]
 ·refine Ev.ite_neg h6 ?_
  rw [w64 (by omega)]
  refine Ev.bind (allIn_ev x.f2 0 _ hx) ?_
  have e : kidsOk g x.f2 = x.f2.all (fun y => decide (0 ≤ y) && decide (y ≤ (g.length : Int) - 1)) := by
   unfold kidsOk
   rw [decide_eq_true (by omega),Bool.true_and]
  rw [← e]
  refine Ev.at (hj _ (fun z => ?_)) (by rw [Bool.not_not])
  simpa using z

theorem findKey_ev (g : List Nd) (l : List Int) (i : Nat) (hi : 2 * i < l.length) (hl : kidsOk g l = true) (c : List Int) :
  ∃ t : Int,Ev (fun k => impl_findKey.f k g (l.take (2 * i)) (keyAt g l (2 * i)).f0 (keyAt g l (2 * i)).f1 c) t ∧ decide (t ≥ 0) = !((List.range i).all (fun j => !same (keyAt g l (2 * i)) (keyAt g l (2 * j)))) := by
 obtain ⟨h6,hk⟩ := (kidsOk_iff g l).1 hl
 have hin : ∀ i : Nat,i < l.length → 0 ≤ l.getD i 0 ∧ l.getD i 0 < (g.length : Int) := fun i hi => by rw [getD_lt 0 hi];exact hk _ (List.getElem_mem hi)
 have hlen : (l.take (2 * i)).length = 2 * i := by rw [List.length_take];omega
 have htake : ∀ j : Nat,j < 2 * i → (l.take (2 * i)).getD j 0 = l.getD j 0 := fun j hj => by
  rw [getD_lt 0 (by omega),getD_lt 0 (by omega),List.getElem_take]
 unfold impl_findKey.f
 have key : ∀ d j,i - j = d → j ≤ i → ∃ t : Int,Ev (fun k => impl_findKey.l0 k g (l.take (2 * i)) (2 * (j : Int)) (keyAt g l (2 * i)).f0 (keyAt g l (2 * i)).f1 c) t ∧ decide (t ≥ 0) = !((List.range' j (i - j)).all (fun j => !same (keyAt g l (2 * i)) (keyAt g l (2 * j)))) := by
  intro d
  induction d with
  | zero =>
   intro j hd hj
   obtain rfl : j = i := by omega
   exact ⟨-1,Ev.step (fun k => by simp only [impl_findKey.l0];rw [if_neg (by omega)]) (Ev.now _),by simp⟩
  | succ d ih =>
   intro j hd hj
   have hlt : j < i := by omega
   have hjj := hin (2 * j) (by omega)
   have e : List.range' j (i - j) = j :: List.range' (j + 1) (i - (j + 1)) := by
    rw [show i - j = (i - (j + 1)) + 1 by omega,List.range'_succ]
   rw [e,List.all_cons]
   cases hs : same (keyAt g l (2 * i)) (keyAt g l (2 * j)) with
   | true =>
    unfold same at hs
    rw [Bool.and_eq_true,decide_eq_true_eq,decide_eq_true_eq] at hs
    refine ⟨2 * (j : Int),?_,?_⟩
    ·refine Ev.step (fun k => by simp only [impl_findKey.l0];rw [if_pos (by omega),if_pos (by omega),show (2 * (j : Int)) = ((2 * j : Nat) : Int) by omega,rdN,htake _ (by omega),if_pos hjj.1,if_pos hjj.2]) ?_
     exact Ev.ite_pos hs.1.symm (Ev.ite_pos hs.2.symm (Ev.at (Ev.now _) (by omega)))
    ·rw [Bool.not_true,Bool.false_and,Bool.not_false]
     exact decide_eq_true (by omega)
   | false =>
    obtain ⟨t,ht,h2⟩ := ih (j + 1) (by omega) (by omega)
    refine ⟨t,?_,by rw [Bool.not_false,Bool.true_and];exact h2⟩
    refine Ev.step (fun k => by simp only [impl_findKey.l0];rw [if_pos (by omega),if_pos (by omega),show (2 * (j : Int)) = ((2 * j : Nat) : Int) by omega,rdN,htake _ (by omega),if_pos hjj.1,if_pos hjj.2]) ?_
    rw [show wrap64 (((2 * j : Nat) : Int) + 2) = 2 * ((j + 1 : Nat) : Int) by rw [w64 (by omega)];omega]
    unfold same at hs
    rw [Bool.and_eq_false_iff,decide_eq_false_iff_not,decide_eq_false_iff_not] at hs
    by_cases ha : (keyAt g l (2 * i)).f0 = (keyAt g l (2 * j)).f0
    ·exact Ev.ite_pos ha.symm (Ev.ite_neg (fun z => (hs.resolve_left (fun y => y ha)) z.symm) ht)
    ·exact Ev.ite_neg (fun z => ha z.symm) ht
 obtain ⟨t,h1,h2⟩ := key i 0 (by omega) (by omega)
 refine ⟨t,by simpa using h1,?_⟩
 rw [List.range_eq_range']
 simpa using h2

theorem nodeOk_ev (g : List Nd) (x : Nd) (hg : g.length ≤ 12) (hl : kidsOk g x.f2 = true) : Ev (fun k => impl_nodeOk.f k g x.f0 x.f1 x.f2) (nodeB g x) := by
 obtain ⟨h6,hk⟩ := (kidsOk_iff g x.f2).1 hl
 have hin : ∀ i : Nat,i < x.f2.length → 0 ≤ x.f2.getD i 0 ∧ x.f2.getD i 0 < (g.length : Int) := fun i hi => by rw [getD_lt 0 hi];exact hk _ (List.getElem_mem hi)
 have hdict : Ev (fun k => impl_nodeOk.l0 k g 0 x.f0 x.f1 x.f2) (decide (x.f1 = 0) && dictOk g x.f2) := by
  have h := ev_allq (L := fun k i => impl_nodeOk.l0 k g (2 * i) x.f0 x.f1 x.f2) (n := (x.f2.length + 1) / 2) (p := dictAt g x.f2) (fin := decide (x.f1 = 0) && decide (x.f2.length % 2 = 0)) (fun i hi hp s hs => ?_) (fun i hi hp => ?_) (fun _ => ?_)
  ·unfold dictOk
   rw [Bool.and_left_comm] at h
   simpa using h
  ·have h2 : 2 * i < x.f2.length := by omega
   have hii := hin (2 * i) h2
   obtain ⟨t,ht,htt⟩ := findKey_ev g x.f2 i h2 hl (nd g (x.f2.getD (2 * i) 0)).f2
   unfold dictAt at hp
   rw [Bool.and_eq_true,Bool.or_eq_true,decide_eq_true_eq,decide_eq_true_eq] at hp
   have hkind : ¬ (nd g (x.f2.getD (2 * i) 0)).f0 > 1 ∧ ¬ (nd g (x.f2.getD (2 * i) 0)).f0 < 0 := by
    have := hp.1
    unfold keyAt at this
    omega
   refine Ev.step (fun k => by simp only [impl_nodeOk.l0];rw [if_pos (by omega),if_pos (by omega),show (2 * (i : Int)) = ((2 * i : Nat) : Int) by omega,rdN,if_pos hii.1,if_pos hii.2,if_neg hkind.1,if_neg hkind.2,if_pos (by omega),Int.toNat_natCast]) ?_
   refine Ev.bind ht (Ev.ite_neg (fun z => ?_) ?_)
   ·rw [hp.2,decide_eq_true z] at htt
    cases htt
   ·rw [show wrap64 (((2 * i : Nat) : Int) + 2) = 2 * ((i + 1 : Nat) : Int) by rw [w64 (by omega)];omega]
    exact hs
  ·have h2 : 2 * i < x.f2.length := by omega
   have hii := hin (2 * i) h2
   obtain ⟨t,ht,htt⟩ := findKey_ev g x.f2 i h2 hl (nd g (x.f2.getD (2 * i) 0)).f2
   unfold dictAt at hp
   rw [Bool.and_eq_false_iff,Bool.or_eq_false_iff,decide_eq_false_iff_not,decide_eq_false_iff_not] at hp
   refine Ev.step (fun k => by simp only [impl_nodeOk.l0];rw [if_pos (by omega),if_pos (by omega),show (2 * (i : Int)) = ((2 * i : Nat) : Int) by omega,rdN,if_pos hii.1,if_pos hii.2,if_pos (show ((2 * i : Nat) : Int) ≤ (x.f2.length : Int) by omega),Int.toNat_natCast]) ?_
   by_cases hk1 : (nd g (x.f2.getD (2 * i) 0)).f0 > 1
   ·exact Ev.ite_pos hk1 (Ev.now _)
   ·refine Ev.ite_neg hk1 ?_
    by_cases hk0 : (nd g (x.f2.getD (2 * i) 0)).f0 < 0
    ·exact Ev.ite_pos hk0 (Ev.now _)
    ·refine Ev.ite_neg hk0 (Ev.bind ht (Ev.ite_pos ?_ (Ev.now _)))
     have hall := hp.resolve_left (fun z => by unfold keyAt at z;omega)
     rw [hall] at htt
     exact of_decide_eq_true (by rw [htt];rfl)
  ·refine Ev.step (fun k => by simp only [impl_nodeOk.l0];rw [if_neg (by omega),len_mod]) ?_
   by_cases hz : x.f1 = 0
   ·exact Ev.ite_pos hz (Ev.at (Ev.now _) (by rw [decide_eq_true hz,Bool.true_and]))
   ·exact Ev.ite_neg hz (Ev.at (Ev.now _) (by rw [decide_eq_false hz,Bool.false_and]))
 unfold impl_nodeOk.f nodeB
 have hrange : ∀ (c : Int) (q : Bool),(if x.f1 ≥ 0 then (if x.f1 ≤ c then some q else some false) else some false) = some ((decide (0 ≤ x.f1) && decide (x.f1 ≤ c)) && q) := by
  intro c q
  by_cases ha : x.f1 ≥ 0
  ·rw [if_pos ha,decide_eq_true (show 0 ≤ x.f1 from ha),Bool.true_and]
   by_cases hb : x.f1 ≤ c
   ·rw [if_pos hb,decide_eq_true hb,Bool.true_and]
   ·rw [if_neg hb,decide_eq_false hb,Bool.false_and]
  ·rw [if_neg ha,decide_eq_false (show ¬ 0 ≤ x.f1 from ha),Bool.false_and,Bool.false_and]
 by_cases h0 : x.f0 = 0
 ·rw [if_pos h0]
  refine Ev.ite_pos h0 (Ev.pure (fun k => ?_))
  rw [hrange,len_beq]
 ·rw [if_neg h0]
  refine Ev.ite_neg h0 ?_
  by_cases h1 : x.f0 = 1
  ·rw [if_pos h1]
   refine Ev.ite_pos h1 (Ev.pure (fun k => ?_))
   rw [hrange,len_beq]
  ·rw [if_neg h1]
   refine Ev.ite_neg h1 ?_
   have hj : ∀ u : Bool,u = (decide (x.f0 = 2 ∨ x.f0 = 3)) → Ev (fun k => impl_nodeOk.j0 k g x.f0 u x.f0 x.f1 x.f2) (if x.f0 = 2 ∨ x.f0 = 3 then decide (x.f1 = 0) else if x.f0 = 4 then decide (x.f1 = 0) && dictOk g x.f2 else if x.f0 = 5 then (decide (0 ≤ x.f1) && decide (x.f1 ≤ 9)) && decide (x.f2.length ≤ 1) else false) := by
    intro u hu
    refine Ev.step (fun k => by simp only [impl_nodeOk.j0];exact rfl) ?_
    by_cases h23 : x.f0 = 2 ∨ x.f0 = 3
    ·rw [if_pos h23]
     refine Ev.ite_pos (by rw [hu];exact decide_eq_true h23) (Ev.at (Ev.now _) ?_)
     rw [Bool.eq_iff_iff]
     simp
    ·rw [if_neg h23]
     refine Ev.ite_neg (by rw [hu,decide_eq_false h23];decide) ?_
     by_cases h5 : x.f0 = 5
     ·refine Ev.ite_pos h5 ?_
      rw [if_neg (show ¬ x.f0 = 4 by omega),if_pos h5]
      refine Ev.pure (fun k => ?_)
      rw [hrange]
      congr 2
      rw [Bool.eq_iff_iff,decide_eq_true_eq,decide_eq_true_eq]
      omega
     ·refine Ev.ite_neg h5 ?_
      by_cases h4 : x.f0 = 4
      ·rw [if_pos h4]
       exact Ev.ite_pos h4 hdict
      ·refine Ev.ite_neg h4 ?_
       rw [if_neg h4,if_neg h5]
       exact Ev.now _
   by_cases h2 : x.f0 = 2
   ·exact Ev.ite_pos h2 (hj _ (by rw [h2];decide))
   ·refine Ev.ite_neg h2 (hj _ ?_)
    rw [Bool.eq_iff_iff,beq_iff_eq,decide_eq_true_eq]
    exact ⟨Or.inr,fun z => z.resolve_left h2⟩
end Go.Proofs.Ytfhakhbmbnbneaa.Q
