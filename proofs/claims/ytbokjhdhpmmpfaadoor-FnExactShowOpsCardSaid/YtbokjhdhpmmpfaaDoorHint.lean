/- What the printed functions over lists of whole numbers tell: copies, equality, marks. -/
import Derived.Test.YtbokjhdhpmmpfaaDoorHev
import Derived.Test.YtbokjhdhpmmpfaaDoorQ4
namespace Go.Proofs.YtbokjhdhpmmpfaaDoor.Q
open Go.RowKit Go.Proofs.YtbokjhdhpmmpfaaDoorW.PrintWords
set_option linter.unusedVariables false
set_option linter.unusedSimpArgs false

theorem rdN (l : List Int) (i : Nat) : rd l (i : Int) = l.getD i 0 := by simp [rd]
/-- A row that is filled from the left. -/
theorem fill_step {β : Type} (M : List β) (z : β) (i : Nat) (h : i < M.length) : (M.take i ++ List.replicate (M.length - i) z).set i (M.getD i z) = M.take (i + 1) ++ List.replicate (M.length - (i + 1)) z := by
 have hl : (M.take i).length = i := by simp;omega
 rw [take_getD z h,List.set_append_right _ _ (by omega),hl,Nat.sub_self,show M.length - i = (M.length - (i + 1)) + 1 by omega,List.replicate_succ,List.set_cons_zero]
 simp
theorem fill_len {β : Type} (M : List β) (z : β) (i : Nat) (h : i ≤ M.length) : (M.take i ++ List.replicate (M.length - i) z).length = M.length := by
 simp;omega
theorem fill_end {β : Type} (M : List β) (z : β) : M.take M.length ++ List.replicate (M.length - M.length) z = M := by simp

/-- What a marked row holds. -/
def marked (n : Nat) (a : Int) : List Int := (List.range n).map fun (j : Nat) => a + (j : Int)
theorem marked_len (n : Nat) (a : Int) : (marked n a).length = n := by simp [marked]
theorem marked_getD (n : Nat) (a : Int) (i : Nat) (h : i < n) (d : Int) : (marked n a).getD i d = a + i := by simp [marked,List.getD_eq_getElem?_getD,h]
theorem mark_step (l : List Int) (a : Int) (i : Nat) (h : i < l.length) : ((marked i a) ++ l.drop i).set i (a + i) = marked (i + 1) a ++ l.drop (i + 1) := by
 rw [List.set_append_right _ _ (by rw [marked_len];omega),marked_len,Nat.sub_self,List.drop_eq_getElem_cons h,List.set_cons_zero]
 simp [marked,List.range_succ]
theorem inRange_eq (n low high : Int) : spec_inRange.f n low high = some (decide (low ≤ n) && decide (n ≤ high)) := by
 unfold spec_inRange.f
 by_cases h : low ≤ n <;> simp [h]
/-- Where a number stands first, -1 if nowhere. -/
def placeOf (l : List Int) (n : Int) : Int := if l.idxOf n < l.length then (l.idxOf n : Int) else -1
theorem idxOf_first {l : List Int} {n : Int} {i : Nat} (h : i < l.length) (he : l[i] = n) (hb : ∀ j (hj : j < i),l[j]'(by omega) ≠ n) : l.idxOf n = i := by
 induction l generalizing i with
 | nil => simp at h
 | cons a l ih =>
  cases i with
  | zero => simp at he;subst he;simp
  | succ i =>
   have ha : a ≠ n := by simpa using hb 0 (by omega)
   rw [List.idxOf_cons,show (a == n) = false from by simpa using ha]
   simp only [cond_false,Bool.false_eq_true,if_false]
   rw [ih (by simpa using h) (by simpa using he) (fun j hj => by simpa using hb (j + 1) (by omega))]
theorem placeOf_at {l : List Int} {n : Int} {i : Nat} (h : i < l.length) (he : l[i] = n) (hb : ∀ j (hj : j < l.length),j < i → l[j] ≠ n) : placeOf l n = i := by
 rw [placeOf,idxOf_first h he (fun j hj => hb j (by omega) hj),if_pos h]
theorem placeOf_none {l : List Int} {n : Int} (hb : ∀ j (hj : j < l.length),l[j] ≠ n) : placeOf l n = -1 := by
 have hm : n ∉ l := by
  intro hm
  obtain ⟨j,hj,he⟩ := List.getElem_of_mem hm
  exact hb j hj he
 rw [placeOf,if_neg (by rw [List.idxOf_lt_length_iff];exact hm)]
theorem placeOf_pos (l : List Int) (n : Int) : placeOf l n ≥ 0 ↔ n ∈ l := by
 unfold placeOf
 rw [← List.idxOf_lt_length_iff]
 split <;> omega
theorem placeOf_neg (l : List Int) (n : Int) : placeOf l n < 0 ↔ n ∉ l := by
 unfold placeOf
 rw [← List.idxOf_lt_length_iff]
 split <;> omega
end Go.Proofs.YtbokjhdhpmmpfaaDoor.Q
