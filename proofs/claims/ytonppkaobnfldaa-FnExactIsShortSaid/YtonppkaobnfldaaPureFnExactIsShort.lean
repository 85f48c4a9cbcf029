/- The program's IsShort returns what the reference's returns: for every list of orders, without a condition. -/
import Derived.Test.YtonppkaobnfldaaHop
import Derived.Test.YtonppkaobnfldaaQ26
namespace Go.Proofs.Ytonppkaobnfldaa.Pure
open Go.RowKit Go.Proofs.Ytonppkaobnfldaa.Q Go.Proofs.YtonppkaobnfldaaW.PrintWords
set_option linter.unusedVariables false
set_option linter.unusedSimpArgs false

theorem ev_has {L : Nat → Int → Option Bool} {n : Nat} {p : Nat → Bool}
    (hs : ∀ i : Nat, i < n → p i = false → ∀ r, Ev (fun k => L k ((i + 1 : Nat) : Int)) r → Ev (fun k => L k (i : Int)) r)
    (hf : ∀ i : Nat, i < n → p i = true → Ev (fun k => L k (i : Int)) true)
    (he : Ev (fun k => L k (n : Int)) false) : Ev (fun k => L k 0) ((List.range n).any p) := by
  have key : ∀ d i, n - i = d → i ≤ n → Ev (fun k => L k (i : Int)) ((List.range' i (n - i)).any p) := by
    intro d
    induction d with
    | zero =>
      intro i hd hi
      obtain rfl : i = n := by omega
      simpa using he
    | succ d ih =>
      intro i hd hi
      have hlt : i < n := by omega
      have e : List.range' i (n - i) = i :: List.range' (i + 1) (n - (i + 1)) := by
        rw [show n - i = (n - (i + 1)) + 1 by omega, List.range'_succ]
      rw [e, List.any_cons]
      cases hp : p i with
      | false => rw [Bool.false_or]; exact hs i hlt hp _ (ih (i + 1) (by omega) (by omega))
      | true => rw [Bool.true_or]; exact hf i hlt hp
  have := key n 0 (by omega) (by omega)
  rw [List.range_eq_range']
  rw [show n - 0 = n from Nat.sub_zero n] at this
  exact this

def short (c : Int) : Bool := decide (c = 5) || (decide (c = 6) || (decide (c = 9) || decide (c = 12)))
theorem short_true {c : Int} : short c = true ↔ c = 5 ∨ c = 6 ∨ c = 9 ∨ c = 12 := by simp [short]
theorem short_false {c : Int} : short c = false ↔ ¬ (c = 5 ∨ c = 6 ∨ c = 9 ∨ c = 12) := by rw [← short_true, Bool.not_eq_true]
def hasShort (l : List Q.Op) : Bool := (List.range l.length).any (fun i => short (l.getD i zOp).f0)
theorem lit_eq (a b : Int) : impl_IsShort_1.f a b = some (short a) := by
  unfold impl_IsShort_1.f short
  by_cases h5 : a = 5
  · simp [h5]
  · by_cases h6 : a = 6
    · simp [h6]
    · by_cases h9 : a = 9
      · simp [h9]
      · by_cases h12 : a = 12
        · simp [h12]
        · simp [h5, h6, h9, h12]

theorem specIsShort_ev (l : List Q.Op) (hl : l.length ≤ 4611686018427387904) : Ev (fun k => spec_IsShort.f k l) (vOps l && hasShort l) := by
  unfold spec_IsShort.f
  refine Ev.bind (validOps_ev l hl) ?_
  cases vOps l with
  | false => exact Ev.ite_neg (by decide) (Ev.now _)
  | true =>
    refine Ev.ite_pos rfl ?_
    rw [Bool.true_and]
    unfold hasShort
    refine ev_has (L := fun k i => spec_IsShort.l0 k l i) (fun i hi hp r hr => ?_) (fun i hi hp => ?_) ?_
    · have h := short_false.1 hp
      refine Ev.step (fun k => by simp only [spec_IsShort.l0]; rw [if_pos (by omega), if_pos (by omega), rdO]) ?_
      refine Ev.ite_neg (fun z => h (Or.inl z)) (Ev.ite_neg (fun z => h (Or.inr (Or.inl z))) (Ev.ite_neg (fun z => h (Or.inr (Or.inr (Or.inl z)))) (Ev.ite_neg (fun z => h (Or.inr (Or.inr (Or.inr z)))) ?_)))
      rw [w64s hi hl]
      exact hr
    · have h := short_true.1 hp
      refine Ev.step (fun k => by simp only [spec_IsShort.l0]; rw [if_pos (by omega), if_pos (by omega), rdO]) ?_
      refine Ev.pure (fun k => ?_)
      by_cases h5 : (l.getD i zOp).f0 = 5
      · rw [if_pos h5]
      · rw [if_neg h5]
        by_cases h6 : (l.getD i zOp).f0 = 6
        · rw [if_pos h6]
        · rw [if_neg h6]
          by_cases h9 : (l.getD i zOp).f0 = 9
          · rw [if_pos h9]
          · rw [if_neg h9]
            rcases h with z | z | z | z
            · exact absurd z h5
            · exact absurd z h6
            · exact absurd z h9
            · rw [if_pos z]
    · exact Ev.step (fun k => by simp only [spec_IsShort.l0]; rw [if_neg (by omega)]) (Ev.now _)

theorem implIsShort_ev (l : List Q.Op) (hl : l.length ≤ 4611686018427387904) : Ev (fun k => impl_IsShort.f k l) (vOps l && hasShort l) := by
  unfold impl_IsShort.f
  refine Ev.bind (implValidOps_ev l hl) ?_
  cases vOps l with
  | false => exact Ev.ite_neg (by decide) (Ev.now _)
  | true =>
    refine Ev.ite_pos rfl ?_
    rw [Bool.true_and]
    refine Ev.bind (a := hasShort l) ?_ (Ev.now _)
    unfold impl_Op_58.f impl_Op_76.f hasShort
    refine ev_has (L := fun k i => (impl_Op_76.l0 k l (l.length : Int) i).bind fun t => some (decide (t ≥ 0))) (fun i hi hp r hr => ?_) (fun i hi hp => ?_) ?_
    · refine Ev.step (fun k => by simp only [impl_Op_76.l0]; rw [if_pos (by omega), if_pos (by omega), if_pos (by omega), rdO, lit_eq, hp, Option.bind_some, if_neg (by decide)]) ?_
      rw [w64s hi hl]
      exact hr
    · refine Ev.step (fun k => by simp only [impl_Op_76.l0]; rw [if_pos (by omega), if_pos (by omega), if_pos (by omega), rdO, lit_eq, hp, Option.bind_some, if_pos rfl, Option.bind_some]) (Ev.at (Ev.now _) ?_)
      simp
    · exact Ev.step (fun k => by simp only [impl_Op_76.l0]; rw [if_neg (by omega), Option.bind_some]; rfl) (Ev.now _)

theorem FnExactIsShort : laws_FnExactIsShort.Pure := by
  intro l ⟨hm, _⟩
  apply Ev.rounds
  unfold laws_FnExactIsShort.f
  refine Ev.bind0 (szOpS_eq l 1048576 (by omega) (by omega) hm) ?_
  by_cases h : (1048576 : Int) < l.length
  · rw [if_pos h]
    exact Ev.ite_pos (by omega) (Ev.now _)
  · rw [if_neg h]
    refine Ev.ite_neg (by omega) ?_
    have ht := toOpS_ev l (by omega)
    have hl : (l.map toOp).length ≤ 4611686018427387904 := by simp; omega
    refine Ev.bind ht (Ev.bind (specIsShort_ev _ hl) (Ev.bind ht (Ev.bind (implIsShort_ev _ hl) ?_)))
    exact Ev.ite_neg (by simp) (Ev.bind ht (Ev.bind (eqOpS_same _ hl) (Ev.ite_pos rfl (Ev.now _))))
end Go.Proofs.Ytonppkaobnfldaa.Pure
