/- Rules: which are valid. -/
import Derived.Test.YtbokjhdhpmmpfaaHint
import Derived.Test.YtbokjhdhpmmpfaaQ31
import Derived.Test.YtbokjhdhpmmpfaaQ33
import Derived.Test.YtbokjhdhpmmpfaaQ99
namespace Go.Proofs.Ytbokjhdhpmmpfaa.Q
open Go.RowKit Go.Proofs.YtbokjhdhpmmpfaaW.PrintWords
set_option linter.unusedVariables false
set_option linter.unusedSimpArgs false

def clOk (l : List Int) (i : Nat) : Bool := decide (0 ≤ l.getD i 0) && decide (l.getD i 0 ≤ 9) && !decide (l.getD i 0 ∈ l.take i)
def upTo (n : Int) : Bool := decide (0 ≤ n) && decide (n ≤ 300)
def vRules (s n d : Int) (l : List Int) : Bool := (List.range l.length).all (clOk l) && (upTo s && upTo n && upTo d)
theorem validRules_ev (s n d : Int) (l : List Int) (hn : l.length ≤ 4611686018427387904) : Ev (fun k => spec_validRules.f k s n d l) (vRules s n d l) := by
 unfold spec_validRules.f vRules
 refine ev_all (L := fun k i => spec_validRules.l0 k i s n d l) (fun i hi hp r hr => ?_) (fun i hi hp => ?_) ?_
 ·unfold clOk at hp
  simp only [Bool.and_eq_true,Bool.not_eq_true',decide_eq_false_iff_not] at hp
  refine Ev.step (fun k => by simp only [spec_validRules.l0];rw [if_pos (by omega),if_pos (by omega),rdN,inRange_eq,hp.1.1,hp.1.2]) ?_
  refine Ev.bind0 rfl (Ev.ite_pos rfl (Ev.ite_pos (by omega) ?_))
  rw [Int.toNat_natCast]
  refine Ev.bind (placeIn_ev (l.take i) (l.getD i 0) (by simp;omega)) (Ev.ite_neg (fun z => hp.2 ((placeOf_pos _ _).1 z)) ?_)
  rw [w64s hi hn]
  exact hr
 ·by_cases h : (decide (0 ≤ l.getD i 0) && decide (l.getD i 0 ≤ 9)) = true
  ·unfold clOk at hp
   rw [h,Bool.true_and,Bool.not_eq_false',decide_eq_true_iff] at hp
   refine Ev.step (fun k => by simp only [spec_validRules.l0];rw [if_pos (by omega),if_pos (by omega),rdN,inRange_eq,h]) ?_
   refine Ev.bind0 rfl (Ev.ite_pos rfl (Ev.ite_pos (by omega) ?_))
   rw [Int.toNat_natCast]
   exact Ev.bind (placeIn_ev (l.take i) (l.getD i 0) (by simp;omega)) (Ev.ite_pos ((placeOf_pos _ _).2 hp) (Ev.now _))
  ·rw [Bool.not_eq_true] at h
   refine Ev.step (fun k => by simp only [spec_validRules.l0];rw [if_pos (by omega),if_pos (by omega),rdN,inRange_eq,h]) ?_
   exact Ev.bind0 rfl (Ev.ite_neg (by simp) (Ev.now _))
 ·refine Ev.step (fun k => by simp only [spec_validRules.l0,inRange_eq];rw [if_neg (by omega)]) ?_
  refine Ev.pure (fun k => ?_)
  unfold upTo
  simp only [Option.bind_some]
  cases h1 : (decide (0 ≤ s) && decide (s ≤ 300)) <;> cases h2 : (decide (0 ≤ n) && decide (n ≤ 300)) <;> simp
theorem specValidRules_ev (s n d : Int) (l : List Int) (hn : l.length ≤ 4611686018427387904) : Ev (fun k => spec_ValidRules.f k s n d l) (vRules s n d l) := by
 unfold spec_ValidRules.f
 exact Ev.bind (validRules_ev s n d l hn) (Ev.now _)
theorem implValidRules_ev (s n d : Int) (l : List Int) (hn : l.length ≤ 4611686018427387904) : Ev (fun k => impl_ValidRules.f k s n d l) (vRules s n d l) := by
 unfold impl_ValidRules.f vRules
 refine ev_all (L := fun k i => impl_ValidRules.l0 k l (l.length : Int) i s n d l) (fun i hi hp r hr => ?_) (fun i hi hp => ?_) ?_
 ·unfold clOk at hp
  simp only [Bool.and_eq_true,Bool.not_eq_true',decide_eq_false_iff_not,decide_eq_true_eq] at hp
  refine Ev.step (fun k => by simp only [impl_ValidRules.l0];rw [if_pos (by omega),if_pos (by omega),if_pos (by omega),rdN,if_neg (by omega),if_neg (by omega),if_pos (by omega),Int.toNat_natCast]) ?_
  refine Ev.bind (contains_ev (l.take i) (l.getD i 0) (by simp;omega)) (Ev.ite_neg (by simpa using hp.2) ?_)
  rw [w64s hi hn]
  exact hr
 ·by_cases h0 : l.getD i 0 < 0
  ·refine Ev.step (fun k => by simp only [impl_ValidRules.l0];rw [if_pos (by omega),if_pos (by omega),if_pos (by omega),rdN,if_pos h0]) (Ev.now _)
  ·by_cases h9 : l.getD i 0 > 9
   ·refine Ev.step (fun k => by simp only [impl_ValidRules.l0];rw [if_pos (by omega),if_pos (by omega),if_pos (by omega),rdN,if_neg h0,if_pos h9]) (Ev.now _)
   ·have hm : l.getD i 0 ∈ l.take i := by
     unfold clOk at hp
     rw [decide_eq_true (show 0 ≤ l.getD i 0 by omega),decide_eq_true (show l.getD i 0 ≤ 9 by omega)] at hp
     simpa using hp
    refine Ev.step (fun k => by simp only [impl_ValidRules.l0];rw [if_pos (by omega),if_pos (by omega),if_pos (by omega),rdN,if_neg h0,if_neg h9,if_pos (by omega),Int.toNat_natCast]) ?_
    exact Ev.bind (contains_ev (l.take i) (l.getD i 0) (by simp;omega)) (Ev.ite_pos (decide_eq_true hm) (Ev.now _))
 ·refine Ev.step (fun k => by simp only [impl_ValidRules.l0];rw [if_neg (by omega)]) ?_
  refine Ev.pure (fun k => ?_)
  unfold upTo
  by_cases h1 : s ≥ 0 <;> by_cases h2 : s ≤ 300 <;> by_cases h3 : n ≥ 0 <;> by_cases h4 : n ≤ 300 <;> by_cases h5 : d ≥ 0 <;> simp [h1,h2,h3,h4,h5] <;> omega
end Go.Proofs.Ytbokjhdhpmmpfaa.Q
