/- What the printed functions over lists of whole numbers tell: copies, equality, marks. -/
import Derived.Test.YtbokjhdhpmmpfaaHev
import Derived.Test.YtbokjhdhpmmpfaaQ56
import Derived.Test.YtbokjhdhpmmpfaaQ99
namespace Go.Proofs.Ytbokjhdhpmmpfaa.Q
open Go.RowKit Go.Proofs.YtbokjhdhpmmpfaaW.PrintWords
set_option linter.unusedVariables false
set_option linter.unusedSimpArgs false

theorem rdN (l : List Int) (i : Nat) : rd l (i : Int) = l.getD i 0 := by simp [rd]
/-- A row that is filled from the left. -/
theorem fill_step {β : Type} (M : List β) (z : β) (i : Nat) (h : i < M.length) : (M.take i ++ List.replicate (M.length - i) z).set i (M.getD i z) = M.take (i + 1) ++ List.replicate (M.length - (i + 1)) z := by
 have hl : (M.take i).length = i := by simp;omega
 rw [take_getD z h,List.set_append_right _ _ (by omega),hl,Nat.sub_self,show M.length - i = (M.length - (i + 1)) + 1 by omega,List.replicate_succ,List.set_cons_zero]
 simp
theorem fill_len {β : Type} (M : List β) (z : β) (i : Nat) (h : i ≤ M.length) : (M.take i ++ List.replicate (M.length - i) z).length = M.length := by
 simp;omega
theorem fill_end {β : Type} (M : List β) (z : β) : M.take M.length ++ List.replicate (M.length - M.length) z = M := by simp

/-- What a marked row holds. -/
def marked (n : Nat) (a : Int) : List Int := (List.range n).map fun (j : Nat) => a + (j : Int)
theorem marked_len (n : Nat) (a : Int) : (marked n a).length = n := by simp [marked]
theorem marked_getD (n : Nat) (a : Int) (i : Nat) (h : i < n) (d : Int) : (marked n a).getD i d = a + i := by simp [marked,List.getD_eq_getElem?_getD,h]
theorem mark_step (l : List Int) (a : Int) (i : Nat) (h : i < l.length) : ((marked i a) ++ l.drop i).set i (a + i) = marked (i + 1) a ++ l.drop (i + 1) := by
 rw [List.set_append_right _ _ (by rw [marked_len];omega),marked_len,Nat.sub_self,List.drop_eq_getElem_cons h,List.set_cons_zero]
 simp [marked,List.range_succ]
theorem inRange_eq (n low high : Int) : spec_inRange.f n low high = some (decide (low ≤ n) && decide (n ≤ high)) := by
 unfold spec_inRange.f
 by_cases h : low ≤ n <;> simp [h]
/-- Where a number stands first, -1 if nowhere. -/
def placeOf (l : List Int) (n : Int) : Int := if l.idxOf n < l.length then (l.idxOf n : Int) else -1
theorem idxOf_first {l : List Int} {n : Int} {i : Nat} (h : i < l.length) (he : l[i] = n) (hb : ∀ j (hj : j < i),l[j]'(by omega) ≠ n) : l.idxOf n = i := by
 induction l generalizing i with
 | nil => simp at h
 | cons a l ih =>
  cases i with
  | zero => simp at he;subst he;simp
  | succ i =>
   have ha : a ≠ n := by simpa using hb 0 (by omega)
   rw [List.idxOf_cons,show (a == n) = false from by simpa using ha]
   simp only [cond_false,Bool.false_eq_true,if_false]
   rw [ih (by simpa using h) (by simpa using he) (fun j hj => by simpa using hb (j + 1) (by omega))]
theorem placeOf_at {l : List Int} {n : Int} {i : Nat} (h : i < l.length) (he : l[i] = n) (hb : ∀ j (hj : j < l.length),j < i → l[j] ≠ n) : placeOf l n = i := by
 rw [placeOf,idxOf_first h he (fun j hj => hb j (by omega) hj),if_pos h]
theorem placeOf_none {l : List Int} {n : Int} (hb : ∀ j (hj : j < l.length),l[j] ≠ n) : placeOf l n = -1 := by
 have hm : n ∉ l := by
  intro hm
  obtain ⟨j,hj,he⟩ := List.getElem_of_mem hm
  exact hb j hj he
 rw [placeOf,if_neg (by rw [List.idxOf_lt_length_iff];exact hm)]
theorem placeIn_ev (l : List Int) (n : Int) (hn : l.length ≤ 4611686018427387904) : Ev (fun k => spec_placeIn.f k l n) (placeOf l n) := by
 unfold spec_placeIn.f
 have key : ∀ d i,l.length - i = d → i ≤ l.length → (∀ j (hj : j < l.length),j < i → l[j] ≠ n) → Ev (fun k => spec_placeIn.l0 k l n (i : Int)) (placeOf l n) := by
  intro d
  induction d with
  | zero =>
   intro i hd hi hb
   obtain rfl : i = l.length := by omega
   refine Ev.step (f := fun _ => some (placeOf l n)) (fun k => ?_) (Ev.now _)
   simp only [spec_placeIn.l0]
   rw [if_neg (by omega)]
   have hm : n ∉ l := by
    intro hm
    obtain ⟨j,hj,he⟩ := List.getElem_of_mem hm
    exact hb j hj hj he
   rw [placeOf,if_neg (by rw [List.idxOf_lt_length_iff];exact hm)]
  | succ d ih =>
   intro i hd hi hb
   have hlt : i < l.length := by omega
   by_cases he : l[i] = n
   ·refine Ev.step (f := fun _ => some (placeOf l n)) (fun k => ?_) (Ev.now _)
    simp only [spec_placeIn.l0]
    rw [if_pos (by omega),if_pos (by omega),rdN,getD_lt 0 hlt,if_pos he,placeOf,idxOf_first hlt he (fun j hj => hb j (by omega) hj),if_pos hlt]
   ·refine Ev.step (f := fun k => spec_placeIn.l0 k l n ((i + 1 : Nat) : Int)) (fun k => ?_) (ih (i + 1) (by omega) (by omega) (fun j hj hji => ?_))
    ·simp only [spec_placeIn.l0]
     rw [if_pos (by omega),if_pos (by omega),rdN,getD_lt 0 hlt,if_neg he,w64s hlt hn]
    ·rcases Nat.lt_or_ge j i with h | h
     ·exact hb j hj h
     ·obtain rfl : j = i := by omega
      exact he
 simpa using key l.length 0 (by omega) (by omega) (fun j hj h => by omega)
theorem placeOf_pos (l : List Int) (n : Int) : placeOf l n ≥ 0 ↔ n ∈ l := by
 unfold placeOf
 rw [← List.idxOf_lt_length_iff]
 split <;> omega
theorem placeOf_neg (l : List Int) (n : Int) : placeOf l n < 0 ↔ n ∉ l := by
 unfold placeOf
 rw [← List.idxOf_lt_length_iff]
 split <;> omega
theorem index_ev (l : List Int) (n : Int) (hn : l.length ≤ 4611686018427387904) : Ev (fun k => slices_Index_int_int.f k l n) (placeOf l n) := by
 unfold slices_Index_int_int.f
 have key : ∀ d i,l.length - i = d → i ≤ l.length → (∀ j (hj : j < l.length),j < i → l[j] ≠ n) → Ev (fun k => slices_Index_int_int.l0 k l n (l.length : Int) (i : Int)) (placeOf l n) := by
  intro d
  induction d with
  | zero =>
   intro i hd hi hb
   obtain rfl : i = l.length := by omega
   refine Ev.step (f := fun _ => some (placeOf l n)) (fun k => ?_) (Ev.now _)
   simp only [slices_Index_int_int.l0]
   rw [if_neg (by omega),placeOf_none (fun j hj => hb j hj hj)]
  | succ d ih =>
   intro i hd hi hb
   have hlt : i < l.length := by omega
   by_cases he : l[i] = n
   ·refine Ev.step (f := fun _ => some (placeOf l n)) (fun k => ?_) (Ev.now _)
    simp only [slices_Index_int_int.l0]
    rw [if_pos (by omega),if_pos (by omega),if_pos (by omega),rdN,getD_lt 0 hlt,if_pos he.symm,placeOf_at hlt he hb]
   ·refine Ev.step (f := fun k => slices_Index_int_int.l0 k l n (l.length : Int) ((i + 1 : Nat) : Int)) (fun k => ?_) (ih (i + 1) (by omega) (by omega) (fun j hj hji => ?_))
    ·simp only [slices_Index_int_int.l0]
     rw [if_pos (by omega),if_pos (by omega),if_pos (by omega),rdN,getD_lt 0 hlt,if_neg (fun z => he z.symm),w64s hlt hn]
    ·rcases Nat.lt_or_ge j i with h | h
     ·exact hb j hj h
     ·obtain rfl : j = i := by omega
      exact he
 simpa using key l.length 0 (by omega) (by omega) (fun j hj h => by omega)
theorem contains_ev (l : List Int) (n : Int) (hn : l.length ≤ 4611686018427387904) : Ev (fun k => slices_Contains_int_int.f k l n) (decide (n ∈ l)) := by
 unfold slices_Contains_int_int.f
 refine Ev.bind (index_ev l n hn) (Ev.at (Ev.now _) ?_)
 exact decide_eq_decide.mpr (placeOf_pos l n)
end Go.Proofs.Ytbokjhdhpmmpfaa.Q
