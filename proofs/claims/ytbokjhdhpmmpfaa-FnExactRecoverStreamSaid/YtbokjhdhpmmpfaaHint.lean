/- What the printed functions over lists of whole numbers tell: copies, equality, marks. -/
import Derived.Test.YtbokjhdhpmmpfaaHev
import Derived.Test.YtbokjhdhpmmpfaaQ13
import Derived.Test.YtbokjhdhpmmpfaaQ16
import Derived.Test.YtbokjhdhpmmpfaaQ17
import Derived.Test.YtbokjhdhpmmpfaaQ24
import Derived.Test.YtbokjhdhpmmpfaaQ56
import Derived.Test.YtbokjhdhpmmpfaaQ68
import Derived.Test.YtbokjhdhpmmpfaaQ87
import Derived.Test.YtbokjhdhpmmpfaaQ99
namespace Go.Proofs.Ytbokjhdhpmmpfaa.Q
open Go.RowKit Go.Proofs.YtbokjhdhpmmpfaaW.PrintWords
set_option linter.unusedVariables false
set_option linter.unusedSimpArgs false

theorem rdN (l : List Int) (i : Nat) : rd l (i : Int) = l.getD i 0 := by simp [rd]
/-- A row that is filled from the left. -/
theorem fill_step {β : Type} (M : List β) (z : β) (i : Nat) (h : i < M.length) : (M.take i ++ List.replicate (M.length - i) z).set i (M.getD i z) = M.take (i + 1) ++ List.replicate (M.length - (i + 1)) z := by
 have hl : (M.take i).length = i := by simp;omega
 rw [take_getD z h,List.set_append_right _ _ (by omega),hl,Nat.sub_self,show M.length - i = (M.length - (i + 1)) + 1 by omega,List.replicate_succ,List.set_cons_zero]
 simp
theorem fill_len {β : Type} (M : List β) (z : β) (i : Nat) (h : i ≤ M.length) : (M.take i ++ List.replicate (M.length - i) z).length = M.length := by
 simp;omega
theorem fill_end {β : Type} (M : List β) (z : β) : M.take M.length ++ List.replicate (M.length - M.length) z = M := by simp

theorem toIntS_ev (l : List Int) (hn : l.length ≤ 35184372088832) : Ev (fun k => laws_toIntS.f k l) l := by
 have hn' : l.length ≤ 4611686018427387904 := by omega
 unfold laws_toIntS.f
 refine Ev.ite_pos (by omega) (Ev.ite_pos (by omega) ?_)
 have h := ev_steps (L := fun k b i => laws_toIntS.l0 k l b i) (n := l.length) (fun i => l.take i ++ List.replicate (l.length - i) 0) (r := l) (fun i hi r hr => ?_) ?_
 ·simpa using h
 ·refine Ev.step (f := fun k => laws_toIntS.l0 k l (l.take (i + 1) ++ List.replicate (l.length - (i + 1)) 0) ((i + 1 : Nat) : Int)) (fun k => ?_) hr
  simp only [laws_toIntS.l0]
  rw [if_pos (by omega),if_pos (by omega),fill_len l 0 i (by omega),if_pos (by omega),rdN,w64s hi hn',Int.toNat_natCast,fill_step l 0 i hi]
 ·refine Ev.step (f := fun _ => some l) (fun k => ?_) (Ev.now l)
  simp only [laws_toIntS.l0]
  rw [if_neg (by omega),fill_end]
theorem eqIntS_same (l : List Int) (hn : l.length ≤ 4611686018427387904) : Ev (fun k => laws_eqIntS.f k l l) true := by
 unfold laws_eqIntS.f
 refine Ev.ite_pos rfl ?_
 refine ev_steps (L := fun k (_ : Unit) i => laws_eqIntS.l0 k l l i) (n := l.length) (fun _ => ()) (fun i hi r hr => ?_) ?_
 ·refine Ev.step (f := fun k => laws_eqIntS.l0 k l l ((i + 1 : Nat) : Int)) (fun k => ?_) hr
  simp only [laws_eqIntS.l0]
  rw [if_pos (by omega),if_pos (by omega),if_pos (by omega),if_pos trivial,w64s hi hn]
 ·refine Ev.step (f := fun _ => some true) (fun k => ?_) (Ev.now true)
  simp only [laws_eqIntS.l0]
  rw [if_neg (by omega)]
/-- What a marked row holds. -/
def marked (n : Nat) (a : Int) : List Int := (List.range n).map fun (j : Nat) => a + (j : Int)
theorem marked_len (n : Nat) (a : Int) : (marked n a).length = n := by simp [marked]
theorem marked_getD (n : Nat) (a : Int) (i : Nat) (h : i < n) (d : Int) : (marked n a).getD i d = a + i := by simp [marked,List.getD_eq_getElem?_getD,h]
theorem mark_step (l : List Int) (a : Int) (i : Nat) (h : i < l.length) : ((marked i a) ++ l.drop i).set i (a + i) = marked (i + 1) a ++ l.drop (i + 1) := by
 rw [List.set_append_right _ _ (by rw [marked_len];omega),marked_len,Nat.sub_self,List.drop_eq_getElem_cons h,List.set_cons_zero]
 simp [marked,List.range_succ]
theorem markIntS_ev (l : List Int) (a : Int) (h0 : 0 ≤ a) (hn : a + l.length ≤ 4611686018427387904) : Ev (fun k => laws_markIntS.f k l a) (a + l.length,marked l.length a) := by
 unfold laws_markIntS.f
 have h := ev_steps (L := fun k (b : List Int × Int) i => laws_markIntS.l0 k b.1 b.2 i) (n := l.length) (fun i => (marked i a ++ l.drop i,a + i)) (r := (a + l.length,marked l.length a)) (fun i hi r hr => ?_) ?_
 ·simpa [marked] using h
 ·refine Ev.step (f := fun k => laws_markIntS.l0 k (marked (i + 1) a ++ l.drop (i + 1)) (a + ((i + 1 : Nat) : Int)) ((i + 1 : Nat) : Int)) (fun k => ?_) hr
  have hl : (marked i a ++ l.drop i).length = l.length := by simp [marked_len];omega
  simp only [laws_markIntS.l0]
  rw [hl,if_pos (by omega),if_pos (by omega),w64s hi (by omega),Int.toNat_natCast,mark_step l a i hi,w64 (by omega)]
  congr 1
  omega
 ·refine Ev.step (f := fun _ => some (a + l.length,marked l.length a)) (fun k => ?_) (Ev.now _)
  have hl : (marked l.length a ++ l.drop l.length).length = l.length := by simp [marked_len]
  simp only [laws_markIntS.l0]
  rw [hl,if_neg (by omega)]
  simp
theorem heldIntS_ev (n : Nat) (a : Int) (h0 : 0 ≤ a) (hn : a + n ≤ 4611686018427387904) : Ev (fun k => laws_heldIntS.f k (marked n a) a) (a + n) := by
 unfold laws_heldIntS.f
 have h := ev_steps (L := fun k (b : Int) i => laws_heldIntS.l0 k (marked n a) b i) (n := n) (fun i => a + i) (r := a + n) (fun i hi r hr => ?_) ?_
 ·simpa using h
 ·refine Ev.step (f := fun k => laws_heldIntS.l0 k (marked n a) (a + ((i + 1 : Nat) : Int)) ((i + 1 : Nat) : Int)) (fun k => ?_) hr
  simp only [laws_heldIntS.l0]
  rw [marked_len,if_pos (by omega),if_pos (by omega),rdN,marked_getD n a i hi,if_pos rfl,w64s hi (by omega),w64 (by omega)]
  congr 1
  omega
 ·refine Ev.step (f := fun _ => some (a + n)) (fun k => ?_) (Ev.now _)
  simp only [laws_heldIntS.l0]
  rw [marked_len,if_neg (by omega)]
theorem inRange_eq (n low high : Int) : spec_inRange.f n low high = some (decide (low ≤ n) && decide (n ≤ high)) := by
 unfold spec_inRange.f
 by_cases h : low ≤ n <;> simp [h]
theorem allIn_ev (l : List Int) (low high : Int) (hn : l.length ≤ 4611686018427387904) : Ev (fun k => spec_allIn.f k l low high) (l.all fun x => decide (low ≤ x) && decide (x ≤ high)) := by
 unfold spec_allIn.f
 have h := ev_all (L := fun k i => spec_allIn.l0 k l low high i) (n := l.length) (p := fun i => decide (low ≤ l.getD i 0) && decide (l.getD i 0 ≤ high)) (fin := true) (fun i hi hp r hr => ?_) (fun i hi hp => ?_) ?_
 ·rw [all_range l (fun x => decide (low ≤ x) && decide (x ≤ high)) 0,Bool.and_true] at h
  exact h
 ·refine Ev.step (f := fun k => spec_allIn.l0 k l low high ((i + 1 : Nat) : Int)) (fun k => ?_) hr
  simp only [spec_allIn.l0]
  rw [if_pos (by omega),if_pos (by omega),rdN,inRange_eq,hp]
  simp only [Option.bind_some,if_true]
  rw [w64s hi hn]
 ·refine Ev.step (f := fun _ => some false) (fun k => ?_) (Ev.now false)
  simp only [spec_allIn.l0]
  rw [if_pos (by omega),if_pos (by omega),rdN,inRange_eq,hp]
  rfl
 ·refine Ev.step (f := fun _ => some true) (fun k => ?_) (Ev.now true)
  simp only [spec_allIn.l0]
  rw [if_neg (by omega)]
/-- Where a number stands first, -1 if nowhere. -/
def placeOf (l : List Int) (n : Int) : Int := if l.idxOf n < l.length then (l.idxOf n : Int) else -1
theorem idxOf_first {l : List Int} {n : Int} {i : Nat} (h : i < l.length) (he : l[i] = n) (hb : ∀ j (hj : j < i),l[j]'(by omega) ≠ n) : l.idxOf n = i := by
 induction l generalizing i with
 | nil => simp at h
 | cons a l ih =>
  cases i with
  | zero => simp at he;subst he;simp
  | succ i =>
   have ha : a ≠ n := by simpa using hb 0 (by omega)
   rw [List.idxOf_cons,show (a == n) = false from by simpa using ha]
   simp only [cond_false,Bool.false_eq_true,if_false]
   rw [ih (by simpa using h) (by simpa using he) (fun j hj => by simpa using hb (j + 1) (by omega))]
theorem placeOf_at {l : List Int} {n : Int} {i : Nat} (h : i < l.length) (he : l[i] = n) (hb : ∀ j (hj : j < l.length),j < i → l[j] ≠ n) : placeOf l n = i := by
 rw [placeOf,idxOf_first h he (fun j hj => hb j (by omega) hj),if_pos h]
theorem placeOf_none {l : List Int} {n : Int} (hb : ∀ j (hj : j < l.length),l[j] ≠ n) : placeOf l n = -1 := by
 have hm : n ∉ l := by
  intro hm
  obtain ⟨j,hj,he⟩ := List.getElem_of_mem hm
  exact hb j hj he
 rw [placeOf,if_neg (by rw [List.idxOf_lt_length_iff];exact hm)]
theorem placeIn_ev (l : List Int) (n : Int) (hn : l.length ≤ 4611686018427387904) : Ev (fun k => spec_placeIn.f k l n) (placeOf l n) := by
 unfold spec_placeIn.f
 have key : ∀ d i,l.length - i = d → i ≤ l.length → (∀ j (hj : j < l.length),j < i → l[j] ≠ n) → Ev (fun k => spec_placeIn.l0 k l n (i : Int)) (placeOf l n) := by
  intro d
  induction d with
  | zero =>
   intro i hd hi hb
   obtain rfl : i = l.length := by omega
   refine Ev.step (f := fun _ => some (placeOf l n)) (fun k => ?_) (Ev.now _)
   simp only [spec_placeIn.l0]
   rw [if_neg (by omega)]
   have hm : n ∉ l := by
    intro hm
    obtain ⟨j,hj,he⟩ := List.getElem_of_mem hm
    exact hb j hj hj he
   rw [placeOf,if_neg (by rw [List.idxOf_lt_length_iff];exact hm)]
  | succ d ih =>
   intro i hd hi hb
   have hlt : i < l.length := by omega
   by_cases he : l[i] = n
   ·refine Ev.step (f := fun _ => some (placeOf l n)) (fun k => ?_) (Ev.now _)
    simp only [spec_placeIn.l0]
    rw [if_pos (by omega),if_pos (by omega),rdN,getD_lt 0 hlt,if_pos he,placeOf,idxOf_first hlt he (fun j hj => hb j (by omega) hj),if_pos hlt]
   ·refine Ev.step (f := fun k => spec_placeIn.l0 k l n ((i + 1 : Nat) : Int)) (fun k => ?_) (ih (i + 1) (by omega) (by omega) (fun j hj hji => ?_))
    ·simp only [spec_placeIn.l0]
     rw [if_pos (by omega),if_pos (by omega),rdN,getD_lt 0 hlt,if_neg he,w64s hlt hn]
    ·rcases Nat.lt_or_ge j i with h | h
     ·exact hb j hj h
     ·obtain rfl : j = i := by omega
      exact he
 simpa using key l.length 0 (by omega) (by omega) (fun j hj h => by omega)
theorem placeOf_pos (l : List Int) (n : Int) : placeOf l n ≥ 0 ↔ n ∈ l := by
 unfold placeOf
 rw [← List.idxOf_lt_length_iff]
 split <;> omega
theorem placeOf_neg (l : List Int) (n : Int) : placeOf l n < 0 ↔ n ∉ l := by
 unfold placeOf
 rw [← List.idxOf_lt_length_iff]
 split <;> omega
theorem index_ev (l : List Int) (n : Int) (hn : l.length ≤ 4611686018427387904) : Ev (fun k => slices_Index_int_int.f k l n) (placeOf l n) := by
 unfold slices_Index_int_int.f
 have key : ∀ d i,l.length - i = d → i ≤ l.length → (∀ j (hj : j < l.length),j < i → l[j] ≠ n) → Ev (fun k => slices_Index_int_int.l0 k l n (l.length : Int) (i : Int)) (placeOf l n) := by
  intro d
  induction d with
  | zero =>
   intro i hd hi hb
   obtain rfl : i = l.length := by omega
   refine Ev.step (f := fun _ => some (placeOf l n)) (fun k => ?_) (Ev.now _)
   simp only [slices_Index_int_int.l0]
   rw [if_neg (by omega),placeOf_none (fun j hj => hb j hj hj)]
  | succ d ih =>
   intro i hd hi hb
   have hlt : i < l.length := by omega
   by_cases he : l[i] = n
   ·refine Ev.step (f := fun _ => some (placeOf l n)) (fun k => ?_) (Ev.now _)
    simp only [slices_Index_int_int.l0]
    rw [if_pos (by omega),if_pos (by omega),if_pos (by omega),rdN,getD_lt 0 hlt,if_pos he.symm,placeOf_at hlt he hb]
   ·refine Ev.step (f := fun k => slices_Index_int_int.l0 k l n (l.length : Int) ((i + 1 : Nat) : Int)) (fun k => ?_) (ih (i + 1) (by omega) (by omega) (fun j hj hji => ?_))
    ·simp only [slices_Index_int_int.l0]
     rw [if_pos (by omega),if_pos (by omega),if_pos (by omega),rdN,getD_lt 0 hlt,if_neg (fun z => he z.symm),w64s hlt hn]
    ·rcases Nat.lt_or_ge j i with h | h
     ·exact hb j hj h
     ·obtain rfl : j = i := by omega
      exact he
 simpa using key l.length 0 (by omega) (by omega) (fun j hj h => by omega)
theorem contains_ev (l : List Int) (n : Int) (hn : l.length ≤ 4611686018427387904) : Ev (fun k => slices_Contains_int_int.f k l n) (decide (n ∈ l)) := by
 unfold slices_Contains_int_int.f
 refine Ev.bind (index_ev l n hn) (Ev.at (Ev.now _) ?_)
 exact decide_eq_decide.mpr (placeOf_pos l n)
theorem szIntS_eq (l : List Int) (a : Int) (h0 : 0 ≤ a) (h1 : a ≤ 4611686018427387904) (hn : l.length ≤ maxLen) : laws_szIntS.f l a = some (if a < l.length then -1 else a - l.length) := by
 unfold maxLen at hn
 unfold laws_szIntS.f
 rw [w64 (by omega)]
 by_cases h : a < l.length
 ·rw [if_pos (by omega),if_pos h]
 ·rw [if_neg (by omega),if_neg h]
end Go.Proofs.Ytbokjhdhpmmpfaa.Q
