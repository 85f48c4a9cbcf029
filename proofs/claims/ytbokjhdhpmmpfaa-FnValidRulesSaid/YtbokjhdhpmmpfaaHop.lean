/- What the printed functions over orders tell: copies, equality, marks, which programs are valid. -/
import Derived.Test.YtbokjhdhpmmpfaaHint
import Derived.Test.YtbokjhdhpmmpfaaQ55
import Derived.Test.YtbokjhdhpmmpfaaQ97
namespace Go.Proofs.Ytbokjhdhpmmpfaa.Q
open Go.RowKit Go.Proofs.YtbokjhdhpmmpfaaW.PrintWords
set_option linter.unusedVariables false
set_option linter.unusedSimpArgs false

abbrev Op := S75
abbrev zOp : Op := z75
theorem rdO (l : List Op) (i : Nat) : rd_T75 l (i : Int) = l.getD i zOp := by simp [rd_T75]
/-- What a marked program holds. -/
def markedO (n : Nat) (a : Int) : List Op := (List.range n).map fun (j : Nat) => (⟨a + 2 * (j : Int),a + 2 * (j : Int) + 1⟩ : Op)
theorem markedO_len (n : Nat) (a : Int) : (markedO n a).length = n := by simp [markedO]
theorem markedO_getD (n : Nat) (a : Int) (i : Nat) (h : i < n) (d : Op) : (markedO n a).getD i d = ⟨a + 2 * i,a + 2 * i + 1⟩ := by simp [markedO,List.getD_eq_getElem?_getD,h]
theorem markO_step (l : List Op) (a : Int) (i : Nat) (h : i < l.length) (o : Op) (ho : o = ⟨a + 2 * i,a + 2 * i + 1⟩) : ((markedO i a) ++ l.drop i).set i o = markedO (i + 1) a ++ l.drop (i + 1) := by
 subst ho
 rw [List.set_append_right _ _ (by rw [markedO_len];omega),markedO_len,Nat.sub_self,List.drop_eq_getElem_cons h,List.set_cons_zero]
 simp [markedO,List.range_succ]

/-! ### Valid orders -/
/-- The greatest number of a code. -/
def most (c : Int) : Int := if c = 0 then 999 else if c = 1 then 9 else if c = 13 then 9 else if c = 15 then 19 else if c = 16 then 19 else 0
def okOp (o : Op) : Bool := decide (0 ≤ o.f0) && decide (o.f0 ≤ 19) && decide (0 ≤ o.f1) && decide (o.f1 ≤ most o.f0)
def vOps (l : List Op) : Bool := l.all okOp && decide (l.length ≤ 300)
theorem okOp_iff (o : Op) : okOp o = true ↔ 0 ≤ o.f0 ∧ o.f0 ≤ 19 ∧ 0 ≤ o.f1 ∧ o.f1 ≤ most o.f0 := by simp [okOp,and_assoc]
theorem most_le (c : Int) : 0 ≤ most c ∧ most c ≤ 999 := by
 unfold most
 repeat' split
 all_goals omega
theorem mostArg_eq (c : Int) : impl_mostArg.f c = some (most c) := by
 unfold impl_mostArg.f most
 repeat' split
 all_goals rfl
theorem argOf_eq (c : Int) : spec_argOf.f c = some (if c = 0 ∨ c = 1 ∨ c = 13 ∨ c = 15 ∨ c = 16 then most c else -1) := by
 unfold spec_argOf.f most
 repeat' split
 all_goals first | rfl | (exfalso;omega)
theorem opOk_eq (c a : Int) : impl_opOk.f c a = some (okOp ⟨c,a⟩) := by
 unfold impl_opOk.f okOp
 rw [mostArg_eq]
 simp only [Option.bind_some]
 by_cases h1 : c ≥ 0 <;> by_cases h2 : c ≤ 19 <;> by_cases h3 : a ≥ 0 <;> simp [h1,h2,h3] <;> omega
theorem validOp_eq (c a : Int) : spec_validOp.f c a = some (okOp ⟨c,a⟩) := by
 unfold spec_validOp.f
 rw [argOf_eq,inRange_eq]
 simp only [Option.bind_some,inRange_eq]
 unfold okOp
 by_cases hc : 0 ≤ c ∧ c ≤ 19
 ·have e : (decide (0 ≤ c) && decide (c ≤ 19)) = true := by simp [hc]
  rw [e,if_pos rfl]
  have m := most_le c
  by_cases h : c = 0 ∨ c = 1 ∨ c = 13 ∨ c = 15 ∨ c = 16
  ·rw [if_pos h,if_neg (by omega),if_pos (by omega)]
   simp
  ·have hm : most c = 0 := by unfold most;(repeat' split);all_goals first | rfl | (exfalso;omega)
   rw [if_neg h,if_pos (by omega),hm]
   by_cases ha : a = 0
   ·subst ha;simp
   ·rw [if_neg ha,if_neg (by omega)]
    congr 1
    symm
    simp
    omega
 ·have e : (decide (0 ≤ c) && decide (c ≤ 19)) = false := by simp;omega
  rw [e]
  simp
theorem vOps_getD {l : List Op} (h : vOps l = true) (i : Nat) (hi : i < l.length) : okOp (l.getD i zOp) = true := by
 unfold vOps at h
 simp only [Bool.and_eq_true] at h
 rw [getD_lt _ hi]
 exact List.all_eq_true.1 h.1 _ (List.getElem_mem hi)
theorem vOps_len {l : List Op} (h : vOps l = true) : l.length ≤ 300 := by
 unfold vOps at h
 simp only [Bool.and_eq_true,decide_eq_true_eq] at h
 exact h.2
theorem validOps_ev (l : List Op) (hn : l.length ≤ 4611686018427387904) : Ev (fun k => spec_validOps.f k l) (vOps l) := by
 unfold spec_validOps.f vOps
 rw [← all_range l okOp zOp]
 refine ev_all (L := fun k i => spec_validOps.l0 k l i) (fun i hi hp r hr => ?_) (fun i hi hp => ?_) ?_
 ·refine Ev.step (f := fun k => spec_validOps.l0 k l ((i + 1 : Nat) : Int)) (fun k => ?_) hr
  simp only [spec_validOps.l0]
  rw [if_pos (by omega),if_pos (by omega),rdO,validOp_eq,hp]
  simp only [Option.bind_some,if_true]
  rw [w64s hi hn]
 ·refine Ev.step (f := fun _ => some false) (fun k => ?_) (Ev.now false)
  simp only [spec_validOps.l0]
  rw [if_pos (by omega),if_pos (by omega),rdO,validOp_eq,hp]
  rfl
 ·refine Ev.step (f := fun _ => some (decide (l.length ≤ 300))) (fun k => ?_) (Ev.now _)
  simp only [spec_validOps.l0]
  rw [if_neg (by omega)]
  congr 1
  exact decide_eq_decide.mpr (by omega)
end Go.Proofs.Ytbokjhdhpmmpfaa.Q
