/- What the laws' own little functions tell: rows of numbers that are alike, and what stands in a row. -/
import Derived.Test.YtfhakhbmbnbneaaHint
import Derived.Test.YtfhakhbmbnbneaaQ33
import Derived.Test.YtfhakhbmbnbneaaQ34
namespace Go.Proofs.Ytfhakhbmbnbneaa.Q
open Go.RowKit Go.Proofs.YtfhakhbmbnbneaaW.PrintWords
set_option linter.unusedVariables false
set_option linter.unusedSimpArgs false

theorem equalInts_same (a : List Int) (ha : a.length ≤ 4611686018427387904) : Ev (fun k => laws_equalInts.f k a a) true := by
 unfold laws_equalInts.f
 refine Ev.ite_pos rfl ?_
 refine ev_steps (L := fun k (_ : Unit) i => laws_equalInts.l0 k a a i) (n := a.length) (fun _ => ()) (r := true) (fun i hi q hq => ?_) ?_
 ·exact Ev.step (fun k => by simp only [laws_equalInts.l0];rw [if_pos (by omega),if_pos (by omega),if_pos (by omega),if_pos trivial,w64s hi (by omega)]) hq
 ·exact Ev.step (fun k => by simp only [laws_equalInts.l0];rw [if_neg (by omega)]) (Ev.now _)
theorem isIn_ev (a : List Int) (x : Int) (ha : a.length ≤ 4611686018427387904) : Ev (fun k => laws_isIn.f k a x) (decide (x ∈ a)) := by
 unfold laws_isIn.f
 have key : ∀ d i,a.length - i = d → i ≤ a.length → (∀ j (hj : j < a.length),j < i → a[j] ≠ x) → Ev (fun k => laws_isIn.l0 k a x (i : Int)) (decide (x ∈ a)) := by
  intro d
  induction d with
  | zero =>
   intro i hd hi hb
   have hn : x ∉ a := fun hx => by
    obtain ⟨j,hj,e⟩ := List.getElem_of_mem hx
    exact hb j hj (by omega) e
   exact Ev.step (fun k => by simp only [laws_isIn.l0];rw [if_neg (by omega)]) (Ev.at (Ev.now _) (by simp [hn]))
  | succ d ih =>
   intro i hd hi hb
   have hl : i < a.length := by omega
   by_cases he : a[i] = x
   ·exact Ev.step (fun k => by simp only [laws_isIn.l0];rw [if_pos (by omega),if_pos (by omega),rdN,getD_lt 0 hl,if_pos he]) (Ev.at (Ev.now _) (by simp [← he]))
   ·refine Ev.step (fun k => by simp only [laws_isIn.l0];rw [if_pos (by omega),if_pos (by omega),rdN,getD_lt 0 hl,if_neg he,w64s hl (by omega)]) (ih (i + 1) (by omega) (by omega) (fun j hj hji => ?_))
    by_cases hjk : j = i
    ·subst hjk;exact he
    ·exact hb j hj (by omega)
 exact key _ 0 rfl (by omega) (fun j hj h => by omega)
theorem within_ev (a b : List Int) (ha : a.length ≤ 4611686018427387904) (hb : b.length ≤ 4611686018427387904) (h : ∀ x ∈ a,x ∈ b) : Ev (fun k => laws_within.f k a b) true := by
 unfold laws_within.f
 refine ev_steps (L := fun k (_ : Unit) i => laws_within.l0 k a b i) (n := a.length) (fun _ => ()) (r := true) (fun i hi q hq => ?_) ?_
 ·have h2 := isIn_ev b a[i] hb
  rw [decide_eq_true (h _ (List.getElem_mem hi))] at h2
  exact Ev.step (fun k => by simp only [laws_within.l0];rw [if_pos (by omega),if_pos (by omega),rdN,getD_lt 0 hi,w64s hi (by omega)]) (Ev.bind h2 (Ev.ite_pos rfl hq))
 ·exact Ev.step (fun k => by simp only [laws_within.l0];rw [if_neg (by omega)]) (Ev.now _)
end Go.Proofs.Ytfhakhbmbnbneaa.Q
