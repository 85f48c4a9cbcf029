/- The program's RulesAllow returns what the reference's returns: for all pairs of rules, without a condition. -/
import Derived.Test.YtbokjhdhpmmpfaaHrules
import Derived.Test.YtbokjhdhpmmpfaaQ7
import Derived.Test.YtbokjhdhpmmpfaaQ71
namespace Go.Proofs.Ytbokjhdhpmmpfaa.Pure
open Go.RowKit Go.Proofs.Ytbokjhdhpmmpfaa.Q Go.Proofs.YtbokjhdhpmmpfaaW.PrintWords
set_option linter.unusedVariables false
set_option linter.unusedSimpArgs false

def within (l m : List Int) : Bool := (List.range l.length).all (fun i => decide (l.getD i 0 ∈ m))

theorem inClasses_ev (l m : List Int) (hl : l.length ≤ 4611686018427387904) (hm : m.length ≤ 4611686018427387904) : Ev (fun k => spec_inClasses.f k l m) (within l m) := by
  unfold spec_inClasses.f within
  refine Ev.at (ev_all (L := fun k i => spec_inClasses.l0 k l m i) (p := fun i => decide (l.getD i 0 ∈ m)) (fin := true) (fun i hi hp r hr => ?_) (fun i hi hp => ?_) ?_) (Bool.and_true _)
  · refine Ev.step (fun k => by simp only [spec_inClasses.l0]; rw [if_pos (by omega), if_pos (by omega), rdN]) ?_
    refine Ev.bind (placeIn_ev m (l.getD i 0) hm) (Ev.ite_neg (fun z => ?_) ?_)
    · have := (placeOf_pos m (l.getD i 0)).2 (of_decide_eq_true hp)
      omega
    · rw [w64s hi hl]
      exact hr
  · refine Ev.step (fun k => by simp only [spec_inClasses.l0]; rw [if_pos (by omega), if_pos (by omega), rdN]) ?_
    refine Ev.bind (placeIn_ev m (l.getD i 0) hm) (Ev.ite_pos ?_ (Ev.now _))
    have := mt (placeOf_pos m (l.getD i 0)).1 (of_decide_eq_false hp)
    omega
  · exact Ev.step (fun k => by simp only [spec_inClasses.l0]; rw [if_neg (by omega)]) (Ev.now _)

theorem ev_any {L : Nat → Int → Option Bool} {n : Nat} {p : Nat → Bool}
    (hs : ∀ i : Nat, i < n → p i = true → ∀ r, Ev (fun k => L k ((i + 1 : Nat) : Int)) r → Ev (fun k => L k (i : Int)) r)
    (hf : ∀ i : Nat, i < n → p i = false → Ev (fun k => L k (i : Int)) true)
    (he : Ev (fun k => L k (n : Int)) false) : Ev (fun k => L k 0) (!(List.range n).all p) := by
  have key : ∀ d i, n - i = d → i ≤ n → Ev (fun k => L k (i : Int)) (!(List.range' i (n - i)).all p) := by
    intro d
    induction d with
    | zero =>
      intro i hd hi
      obtain rfl : i = n := by omega
      simpa using he
    | succ d ih =>
      intro i hd hi
      have hlt : i < n := by omega
      have e : List.range' i (n - i) = i :: List.range' (i + 1) (n - (i + 1)) := by
        rw [show n - i = (n - (i + 1)) + 1 by omega, List.range'_succ]
      rw [e, List.all_cons]
      cases hp : p i with
      | true => rw [Bool.true_and]; exact hs i hlt hp _ (ih (i + 1) (by omega) (by omega))
      | false => rw [Bool.false_and]; exact hf i hlt hp
  have := key n 0 (by omega) (by omega)
  rw [List.range_eq_range']
  rw [show n - 0 = n from Nat.sub_zero n] at this
  exact this

theorem anyOut_ev (a b c : Int) (l m : List Int) (hl : l.length ≤ 4611686018427387904) (hm : m.length ≤ 4611686018427387904) : Ev (fun k => slices_ContainsFunc_int_int.f k l a b c m) (!within l m) := by
  unfold slices_ContainsFunc_int_int.f within
  refine ev_any (L := fun k i => slices_ContainsFunc_int_int.l0 k l m i) (fun i hi hp r hr => ?_) (fun i hi hp => ?_) ?_
  · refine Ev.step (fun k => by simp only [slices_ContainsFunc_int_int.l0]; rw [if_pos (by omega), if_pos (by omega), rdN]) ?_
    refine Ev.bind (contains_ev m (l.getD i 0) hm) (Ev.ite_pos hp ?_)
    rw [w64s hi hl]
    exact hr
  · refine Ev.step (fun k => by simp only [slices_ContainsFunc_int_int.l0]; rw [if_pos (by omega), if_pos (by omega), rdN]) ?_
    exact Ev.bind (contains_ev m (l.getD i 0) hm) (Ev.ite_neg (fun z => by rw [hp] at z; exact absurd z (by decide)) (Ev.now _))
  · exact Ev.step (fun k => by simp only [slices_ContainsFunc_int_int.l0]; rw [if_neg (by omega)]) (Ev.now _)

def allows (s n d : Int) (l : List Int) (s' n' d' : Int) (l' : List Int) : Bool :=
  vRules s n d l && (vRules s' n' d' l' && (decide (s ≥ s') && (decide (n ≥ n') && (decide (d ≥ d') && within l' l))))

theorem specRulesAllow_ev (s n d : Int) (l : List Int) (s' n' d' : Int) (l' : List Int) (hl : l.length ≤ 4611686018427387904) (hl' : l'.length ≤ 4611686018427387904) :
    Ev (fun k => spec_RulesAllow.f k s n d l s' n' d' l') (allows s n d l s' n' d' l') := by
  unfold spec_RulesAllow.f allows
  refine Ev.bind (validRules_ev s n d l hl) ?_
  cases vRules s n d l with
  | false => exact Ev.ite_neg (by decide) (Ev.now _)
  | true =>
    refine Ev.ite_pos rfl (Ev.bind (validRules_ev s' n' d' l' hl') ?_)
    cases vRules s' n' d' l' with
    | false => exact Ev.ite_neg (by decide) (Ev.now _)
    | true =>
      refine Ev.ite_pos rfl ?_
      by_cases h1 : s ≥ s'
      · refine Ev.ite_pos h1 ?_
        by_cases h2 : n ≥ n'
        · refine Ev.ite_pos h2 ?_
          by_cases h3 : d ≥ d'
          · refine Ev.ite_pos h3 (Ev.bind (inClasses_ev l' l hl' hl) (Ev.at (Ev.now _) ?_))
            simp [h1, h2, h3]
          · exact Ev.ite_neg h3 (Ev.at (Ev.now _) (by simp [h3]))
        · exact Ev.ite_neg h2 (Ev.at (Ev.now _) (by simp [h2]))
      · exact Ev.ite_neg h1 (Ev.at (Ev.now _) (by simp [h1]))

theorem implRulesAllow_ev (s n d : Int) (l : List Int) (s' n' d' : Int) (l' : List Int) (hl : l.length ≤ 4611686018427387904) (hl' : l'.length ≤ 4611686018427387904) :
    Ev (fun k => impl_RulesAllow.f k s n d l s' n' d' l') (allows s n d l s' n' d' l') := by
  unfold impl_RulesAllow.f allows
  refine Ev.bind (implValidRules_ev s n d l hl) ?_
  cases vRules s n d l with
  | false => exact Ev.ite_neg (by decide) (Ev.now _)
  | true =>
    refine Ev.ite_pos rfl (Ev.bind (implValidRules_ev s' n' d' l' hl') ?_)
    cases vRules s' n' d' l' with
    | false => exact Ev.ite_neg (by decide) (Ev.now _)
    | true =>
      refine Ev.ite_pos rfl ?_
      by_cases h1 : s ≥ s'
      · refine Ev.ite_pos h1 ?_
        by_cases h2 : n ≥ n'
        · refine Ev.ite_pos h2 ?_
          by_cases h3 : d ≥ d'
          · refine Ev.ite_pos h3 (Ev.bind (anyOut_ev s n d l' l hl' hl) ?_)
            cases hw : within l' l with
            | true => exact Ev.at (Ev.now _) (by simp [h1, h2, h3, hw])
            | false => exact Ev.at (Ev.now _) (by simp [h1, h2, h3, hw])
          · exact Ev.ite_neg h3 (Ev.at (Ev.now _) (by simp [h3]))
        · exact Ev.ite_neg h2 (Ev.at (Ev.now _) (by simp [h2]))
      · exact Ev.ite_neg h1 (Ev.at (Ev.now _) (by simp [h1]))

theorem FnExactRulesAllow : laws_FnExactRulesAllow.Pure := by
  intro s n d l s' n' d' l' _ _ _ ⟨hm, _⟩ _ _ _ ⟨hm', _⟩
  apply Ev.rounds
  unfold laws_FnExactRulesAllow.f
  refine Ev.bind0 (szRules_eq s n d l 1048576 (by omega) (by omega) hm) ?_
  by_cases h : (1048576 : Int) < l.length
  · rw [if_pos h]
    exact Ev.ite_pos (by omega) (Ev.now _)
  · rw [if_neg h]
    refine Ev.ite_neg (by omega) ?_
    refine Ev.bind0 (szRules_eq s' n' d' l' (1048576 - (l.length : Int)) (by omega) (by omega) hm') ?_
    by_cases h' : (1048576 : Int) - l.length < l'.length
    · rw [if_pos h']
      exact Ev.ite_pos (by omega) (Ev.now _)
    · rw [if_neg h']
      refine Ev.ite_neg (by omega) ?_
      have hl : l.length ≤ 4611686018427387904 := by omega
      have hl' : l'.length ≤ 4611686018427387904 := by omega
      have ht := toRules_ev s n d l (by omega)
      have ht' := toRules_ev s' n' d' l' (by omega)
      refine Ev.bind ht (Ev.bind ht' (Ev.bind (specRulesAllow_ev s n d l s' n' d' l' hl hl') (Ev.bind ht (Ev.bind ht' (Ev.bind (implRulesAllow_ev s n d l s' n' d' l' hl hl') ?_)))))
      exact Ev.ite_neg (by simp) (Ev.bind ht (Ev.bind (eqRules_same s n d l hl) (Ev.ite_pos rfl (Ev.bind ht' (Ev.bind (eqRules_same s' n' d' l' hl') (Ev.ite_pos rfl (Ev.now _)))))))
end Go.Proofs.Ytbokjhdhpmmpfaa.Pure
