/- The classes of the nodes of a graph, and of a graph put behind itself: nodes are equal in the one exactly if they are in the other. -/
import Derived.Test.YtapaegcombfafaaHdeepi
import Derived.Test.YtapaegcombfafaaQ26
import Derived.Test.YtapaegcombfafaaQ53
namespace Go.Proofs.Ytapaegcombfafaa.Q
open Go.RowKit Go.Proofs.YtapaegcombfafaaW.PrintWords
set_option linter.unusedVariables false
set_option linter.unusedSimpArgs false

theorem sameB_refl (g : List Nd) (now : List Int) (i : Nat) : sameB g now i i = true := by
 rw [sameB_iff,kidsSame_iff]
 exact ⟨rfl,rfl,rfl,rfl,fun _ _ => rfl⟩
theorem sameB_symm {g : List Nd} {now : List Int} {i k : Nat} (h : sameB g now i k = true) : sameB g now k i = true := by
 rw [sameB_iff,kidsSame_iff] at h ⊢
 obtain ⟨a,b,c,d,e⟩ := h
 exact ⟨a.symm,b.symm,c.symm,d.symm,fun j hj => (e j (by omega)).symm⟩
theorem firstSame_spec (g : List Nd) (now : List Int) (i : Nat) : firstSame g now i ≤ i ∧ sameB g now i (firstSame g now i) = true ∧ ∀ j,j < firstSame g now i → sameB g now i j = false := by
 unfold firstSame
 cases h : (List.range i).find? (sameB g now i) with
 | none =>
  refine ⟨Nat.le_refl _,sameB_refl g now i,fun j hj => ?_⟩
  have := List.find?_eq_none.1 h j (List.mem_range.2 hj)
  simpa using this
 | some k =>
  obtain ⟨h1,m,hm,h2,h3⟩ := List.find?_eq_some_iff_getElem.1 h
  simp only [List.getElem_range] at h2 h3
  rw [List.length_range] at hm
  subst h2
  refine ⟨by simp only [Option.getD_some];omega,h1,fun j hj => ?_⟩
  simp only [Option.getD_some] at hj
  have := h3 j hj
  simpa using this
theorem firstSame_eq {g : List Nd} {now : List Int} {i k : Nat} : firstSame g now i = firstSame g now k ↔ sameB g now i k = true := by
 obtain ⟨_,a2,a3⟩ := firstSame_spec g now i
 obtain ⟨_,b2,b3⟩ := firstSame_spec g now k
 constructor
 ·intro h
  rw [h] at a2
  exact sameB_euclid a2 (sameB_symm b2)
 ·intro h
  have c1 := sameB_euclid (sameB_symm h) a2
  have c2 := sameB_euclid h b2
  rcases Nat.lt_trichotomy (firstSame g now i) (firstSame g now k) with q | q | q
  ·rw [b3 _ q] at c1;cases c1
  ·exact q
  ·rw [a3 _ q] at c2;cases c2
theorem rounds_at {g : List Nd} {r i : Nat} (hi : i < g.length) : (roundsL g (r + 1)).getD i 0 = (firstSame g (roundsL g r) i : Int) := newL_at hi
theorem rounds_zero {g : List Nd} {i : Nat} (hi : i < g.length) : (roundsL g 0).getD i 0 = 0 := by
 rw [getD_lt 0 (by rw [roundsL_len];exact hi)]
 simp [roundsL]
def eqR (g : List Nd) (r i k : Nat) : Prop := (roundsL g r).getD i 0 = (roundsL g r).getD k 0
theorem eqR_succ {g : List Nd} {r i k : Nat} (hi : i < g.length) (hk : k < g.length) : eqR g (r + 1) i k ↔ sameB g (roundsL g r) i k = true := by
 unfold eqR
 rw [rounds_at hi,rounds_at hk,← firstSame_eq]
 omega
theorem rounds_le {g : List Nd} (r : Nat) {i : Nat} (hi : i < g.length) : 0 ≤ (roundsL g r).getD i 0 ∧ (roundsL g r).getD i 0 ≤ (i : Int) := by
 cases r with
 | zero => rw [rounds_zero hi];omega
 | succ r =>
  rw [rounds_at hi]
  have := (firstSame_spec g (roundsL g r) i).1
  omega
theorem fix_on {g : List Nd} {r i : Nat} (hi : i < g.length) (h : (roundsL g r).getD i 0 = (i : Int)) : (roundsL g (r + 1)).getD i 0 = (i : Int) := by
 obtain ⟨a1,a2,_⟩ := firstSame_spec g (roundsL g r) i
 rw [rounds_at hi]
 have h2 := (sameB_iff.1 a2).1
 have h3 := (rounds_le (g := g) r (i := firstSame g (roundsL g r) i) (by omega)).2
 omega
theorem stable_of {g : List Nd} {r : Nat} (h : ∀ i,i < g.length → (roundsL g (r + 1)).getD i 0 = (i : Int) → (roundsL g r).getD i 0 = (i : Int)) : roundsL g (r + 1) = roundsL g r := by
 refine List.ext_getElem (by rw [roundsL_len,roundsL_len]) (fun i h1 h2 => ?_)
 have hi : i < g.length := by rw [roundsL_len] at h1;exact h1
 rw [← getD_lt 0 h1,← getD_lt 0 h2]
 obtain ⟨a1,a2,a3⟩ := firstSame_spec g (roundsL g r) i
 have hf : firstSame g (roundsL g r) (firstSame g (roundsL g r) i) = firstSame g (roundsL g r) i := firstSame_first a2 a3
 have h3 := h (firstSame g (roundsL g r) i) (by omega) (by rw [rounds_at (by omega),hf])
 rw [rounds_at hi,(sameB_iff.1 a2).1,h3]
theorem stable_on {g : List Nd} {r : Nat} (h : roundsL g (r + 1) = roundsL g r) : ∀ m,r ≤ m → roundsL g m = roundsL g r := by
 intro m hm
 induction hm with
 | refl => rfl
 | step _ ih =>
  show newL g (roundsL g _) g.length = _
  rw [ih]
  exact h
theorem count_lt {l : List Nat} {p q : Nat → Bool} (h : ∀ x,x ∈ l → p x = true → q x = true) (hx : ∃ x,x ∈ l ∧ q x = true ∧ p x = false) : l.countP p < l.countP q := by
 induction l with
 | nil => obtain ⟨x,hx,_⟩ := hx;simp at hx
 | cons a l ih =>
  have hm : l.countP p ≤ l.countP q := List.countP_mono_left (fun x hx2 => h x (List.mem_cons_of_mem _ hx2))
  rw [List.countP_cons,List.countP_cons]
  obtain ⟨x,hx,h1,h2⟩ := hx
  rcases List.mem_cons.1 hx with hx | hx
  ·subst hx
   rw [h1,h2]
   simp
   omega
  ·have := ih (fun x hx2 => h x (List.mem_cons_of_mem _ hx2)) ⟨x,hx,h1,h2⟩
   cases hp : p a with
   | true => rw [h a List.mem_cons_self hp];simp;omega
   | false => simp;split <;> omega
def fixN (g : List Nd) (r : Nat) : Nat := (List.range g.length).countP (fun i => decide ((roundsL g r).getD i 0 = (i : Int)))
theorem fixN_le (g : List Nd) (r : Nat) : fixN g r ≤ g.length := by
 have := List.countP_le_length (p := fun i => decide ((roundsL g r).getD i 0 = (i : Int))) (l := List.range g.length)
 rw [List.length_range] at this
 exact this
theorem fix_more {g : List Nd} {r : Nat} (h : roundsL g (r + 1) ≠ roundsL g r) : fixN g r < fixN g (r + 1) := by
 refine count_lt (fun i hi hp => ?_) ?_
 ·exact decide_eq_true (fix_on (List.mem_range.1 hi) (of_decide_eq_true hp))
 ·refine Classical.byContradiction (fun hn => h (stable_of (fun i hi h1 => ?_)))
  refine Classical.byContradiction (fun h2 => hn ⟨i,List.mem_range.2 hi,decide_eq_true h1,decide_eq_false h2⟩)
theorem fix_some {g : List Nd} (hg : 1 ≤ g.length) : 1 ≤ fixN g 0 := by
 have : 0 < fixN g 0 := by
  unfold fixN
  rw [List.countP_pos_iff]
  exact ⟨0,List.mem_range.2 hg,decide_eq_true (rounds_zero hg)⟩
 exact this
theorem stable_or {g : List Nd} (hg : 1 ≤ g.length) : ∀ r,roundsL g (r + 1) = roundsL g r ∨ r + 2 ≤ fixN g (r + 1)
 | 0 => by
  by_cases h : roundsL g 1 = roundsL g 0
  ·exact .inl h
  ·have := fix_more h
   have := fix_some hg
   exact .inr (by omega)
 | r + 1 => by
  by_cases h : roundsL g (r + 1 + 1) = roundsL g (r + 1)
  ·exact .inl h
  ·have h2 := fix_more h
   rcases stable_or hg r with h3 | h3
   ·exact absurd ((stable_on h3 (r + 1 + 1) (by omega)).trans (stable_on h3 (r + 1) (by omega)).symm) h
   ·exact .inr (by omega)
theorem rounds_last {g : List Nd} (hg : 1 ≤ g.length) {m : Nat} (hm : g.length ≤ m) : roundsL g m = classesL g := by
 have h : roundsL g (g.length - 1 + 1) = roundsL g (g.length - 1) := by
  rcases stable_or hg (g.length - 1) with h | h
  ·exact h
  ·have := fixN_le g (g.length - 1 + 1)
   omega
 unfold classesL
 rw [stable_on h m (by omega),stable_on h (g.length + 1) (by omega)]

/-- The node of the one graph that a node of both is. -/
def baseOf (n i : Nat) : Nat := if i < n then i else i - n
theorem nd_join {g : List Nd} (hk : KidsIn g) {i : Nat} (hi : i < g.length + g.length) :
  (nd (joinL g g) (i : Int)).f0 = (nd g (baseOf g.length i : Nat)).f0 ∧ (nd (joinL g g) (i : Int)).f1 = (nd g (baseOf g.length i : Nat)).f1 ∧ (nd (joinL g g) (i : Int)).f2.length = (nd g (baseOf g.length i : Nat)).f2.length ∧
  ∀ j,j < (nd g (baseOf g.length i : Nat)).f2.length → ((nd (joinL g g) (i : Int)).f2.getD j 0).toNat < g.length + g.length ∧ baseOf g.length ((nd (joinL g g) (i : Int)).f2.getD j 0).toNat = ((nd g (baseOf g.length i : Nat)).f2.getD j 0).toNat := by
 unfold baseOf
 by_cases h : i < g.length
 ·have e : nd (joinL g g) (i : Int) = nd g (i : Int) := by
   show rd_T58 _ _ = rd_T58 _ _
   rw [rdG,rdG,List.getD_eq_getElem?_getD,List.getD_eq_getElem?_getD]
   unfold joinL
   rw [List.getElem?_append_left h]
  rw [e,if_pos h]
  refine ⟨rfl,rfl,rfl,fun j hj => ?_⟩
  have := hk.mem (i := (i : Int)) (by omega) (by omega) (List.getElem_mem hj)
  rw [getD_lt 0 hj]
  refine ⟨by omega,?_⟩
  rw [if_pos (by omega)]
 ·have e : nd (joinL g g) (i : Int) = shiftN g.length (nd g ((i - g.length : Nat) : Int)) := by
   show rd_T58 _ _ = shiftN g.length (rd_T58 _ _)
   rw [rdG,rdG,List.getD_eq_getElem?_getD,List.getD_eq_getElem?_getD]
   unfold joinL
   have hb2 : i - g.length < g.length := by omega
   rw [List.getElem?_append_right (by omega),List.getElem?_map,List.getElem?_eq_getElem hb2]
   rfl
  rw [e,if_neg h]
  refine ⟨rfl,rfl,by simp [shiftN],fun j hj => ?_⟩
  have := hk.mem (i := ((i - g.length : Nat) : Int)) (by omega) (by omega) (List.getElem_mem hj)
  rw [getD_lt 0 (by simp only [shiftN,List.length_map];exact hj),getD_lt 0 hj]
  simp only [shiftN,List.getElem_map]
  refine ⟨by omega,?_⟩
  rw [if_neg (by omega)]
  omega
theorem base_lt {n i : Nat} (hi : i < n + n) : baseOf n i < n := by unfold baseOf;split <;> omega
theorem eqR_join {g : List Nd} (hk : KidsIn g) : ∀ (r i k : Nat),i < g.length + g.length → k < g.length + g.length → (eqR (joinL g g) r i k ↔ eqR g r (baseOf g.length i) (baseOf g.length k))
 | 0,i,k,hi,hk2 => by
  have hl := joinL_len g g
  unfold eqR
  rw [rounds_zero (by omega),rounds_zero (by omega),rounds_zero (base_lt hi),rounds_zero (base_lt hk2)]
 | r + 1,i,k,hi,hk2 => by
  have hl := joinL_len g g
  rw [eqR_succ (by omega) (by omega),eqR_succ (base_lt hi) (base_lt hk2),sameB_iff,sameB_iff,kidsSame_iff,kidsSame_iff]
  obtain ⟨a1,a2,a3,a4⟩ := nd_join hk hi
  obtain ⟨b1,b2,b3,b4⟩ := nd_join hk hk2
  rw [a1,a2,a3,b1,b2,b3]
  have h0 := eqR_join hk r i k hi hk2
  unfold eqR at h0
  rw [h0]
  refine and_congr Iff.rfl (and_congr Iff.rfl (and_congr Iff.rfl ?_))
  refine ⟨fun ⟨c1,c2⟩ => ⟨c1,fun j hj => ?_⟩,fun ⟨c1,c2⟩ => ⟨c1,fun j hj => ?_⟩⟩
  ·obtain ⟨d1,d2⟩ := a4 j hj
   obtain ⟨e1,e2⟩ := b4 j (by omega)
   have := (eqR_join hk r _ _ d1 e1).1 (c2 j hj)
   unfold eqR at this
   rw [d2,e2] at this
   exact this
  ·obtain ⟨d1,d2⟩ := a4 j hj
   obtain ⟨e1,e2⟩ := b4 j (by omega)
   refine (eqR_join hk r _ _ d1 e1).2 ?_
   unfold eqR
   rw [d2,e2]
   exact c2 j hj
/-- Two nodes of a graph are equal however deep exactly if their classes are one. -/
theorem deep_self {g : List Nd} (hg : 1 ≤ g.length) (hk : KidsIn g) {i k : Nat} (hi : i < g.length) (hk2 : k < g.length) : deepB g (i : Int) g (k : Int) = decide ((classesL g).getD i 0 = (classesL g).getD k 0) := by
 have hl := joinL_len g g
 have h := eqR_join hk ((joinL g g).length + 1) i (g.length + k) (by omega) (by omega)
 unfold eqR at h
 rw [rounds_last hg (m := (joinL g g).length + 1) (by omega)] at h
 rw [show baseOf g.length i = i by unfold baseOf;rw [if_pos hi],show baseOf g.length (g.length + k) = k by unfold baseOf;rw [if_neg (by omega)];omega] at h
 unfold deepB
 rw [show ((i : Int)).toNat = i from rfl,show ((g.length : Int) + (k : Int)).toNat = g.length + k by omega]
 rw [Bool.eq_iff_iff,beq_iff_eq,decide_eq_true_eq]
 exact h
theorem classes_le {g : List Nd} {i : Nat} (hi : i < g.length) : 0 ≤ (classesL g).getD i 0 ∧ (classesL g).getD i 0 ≤ (i : Int) := rounds_le _ hi
theorem classes_fix {g : List Nd} {i : Nat} (hi : i < g.length) : (classesL g).getD ((classesL g).getD i 0).toNat 0 = (classesL g).getD i 0 := by
 unfold classesL
 obtain ⟨a1,a2,a3⟩ := firstSame_spec g (roundsL g g.length) i
 rw [rounds_at hi,Int.toNat_natCast,rounds_at (by omega),firstSame_first a2 a3]
end Go.Proofs.Ytapaegcombfafaa.Q
