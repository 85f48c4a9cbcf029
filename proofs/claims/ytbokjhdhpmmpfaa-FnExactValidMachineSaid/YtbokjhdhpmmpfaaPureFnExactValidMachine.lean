/- The program's ValidMachine returns what the reference's returns: for all machines, without a condition. -/
import Derived.Test.YtbokjhdhpmmpfaaHgraph
import Derived.Test.YtbokjhdhpmmpfaaQ10
import Derived.Test.YtbokjhdhpmmpfaaQ111
import Derived.Test.YtbokjhdhpmmpfaaQ40
import Derived.Test.YtbokjhdhpmmpfaaQ44
import Derived.Test.YtbokjhdhpmmpfaaQ46
import Derived.Test.YtbokjhdhpmmpfaaQ79
namespace Go.Proofs.Ytbokjhdhpmmpfaa.Pure
open Go.RowKit Go.Proofs.Ytbokjhdhpmmpfaa.Q Go.Proofs.YtbokjhdhpmmpfaaW.PrintWords
set_option linter.unusedVariables false
set_option linter.unusedSimpArgs false

/-- A loop that asks something of each place, ends at the first that says no, and goes on behind the last. -/
theorem ev_allm {L : Nat → Int → Option Bool} {n : Nat} {p : Nat → Bool} {fin : Bool}
    (hs : ∀ i : Nat, i < n → p i = true → ∀ r, Ev (fun k => L k ((i + 1 : Nat) : Int)) r → Ev (fun k => L k (i : Int)) r)
    (hf : ∀ i : Nat, i < n → p i = false → Ev (fun k => L k (i : Int)) false)
    (he : (∀ i : Nat, i < n → p i = true) → Ev (fun k => L k (n : Int)) fin) : Ev (fun k => L k 0) ((List.range n).all p && fin) := by
  have key : ∀ d i, n - i = d → i ≤ n → (∀ j : Nat, j < i → p j = true) → Ev (fun k => L k (i : Int)) ((List.range' i (n - i)).all p && fin) := by
    intro d
    induction d with
    | zero =>
      intro i hd hi hb
      obtain rfl : i = n := by omega
      simpa using he hb
    | succ d ih =>
      intro i hd hi hb
      have hlt : i < n := by omega
      have e : List.range' i (n - i) = i :: List.range' (i + 1) (n - (i + 1)) := by
        rw [show n - i = (n - (i + 1)) + 1 by omega, List.range'_succ]
      rw [e, List.all_cons]
      cases hp : p i with
      | true =>
        rw [Bool.true_and]
        refine hs i hlt hp _ (ih (i + 1) (by omega) (by omega) (fun j hj => ?_))
        rcases Nat.lt_or_ge j i with q | q
        · exact hb j q
        · obtain rfl : j = i := by omega
          exact hp
      | false => simpa using hf i hlt hp
  have := key n 0 (by omega) (by omega) (fun j hj => by omega)
  rw [List.range_eq_range']
  simpa using this

abbrev nm (g : List Nd) (i : Int) : Nd := rd_T88 g i
/-- A node of a machine, as the reference asks. -/
def Base (g : List Nd) (x : Nd) : Prop := (0 ≤ x.f0 ∧ x.f0 ≤ 5) ∧ (0 ≤ x.f1 ∧ x.f1 ≤ 999) ∧ (∀ k ∈ x.f2, 0 ≤ k ∧ k ≤ (g.length : Int) - 1) ∧ (x.f0 = 5 → x.f2.length ≤ 1)
def Keys (g : List Nd) (x : Nd) : Prop := x.f0 = 4 → ∀ m : Nat, 2 * m < x.f2.length → ((nm g (x.f2.getD (2 * m) 0)).f0 = 0 ∨ (nm g (x.f2.getD (2 * m) 0)).f0 = 1) ∧ x.f2.length % 2 = 0
/-- .. and as the program asks. -/
def Base' (x : Nd) : Prop := (0 ≤ x.f0 ∧ x.f0 ≤ 5) ∧ (0 ≤ x.f1 ∧ x.f1 ≤ 999) ∧ (x.f0 = 5 → x.f2.length ≤ 1) ∧ (x.f0 = 4 → x.f2.length % 2 = 0)
def Kids' (g : List Nd) (x : Nd) : Prop := ∀ j : Nat, j < x.f2.length → (0 ≤ x.f2.getD j 0 ∧ x.f2.getD j 0 < (g.length : Int)) ∧ (x.f0 = 4 → j % 2 = 0 → (nm g (x.f2.getD j 0)).f0 ≤ 1)

theorem nodes_same (g : List Nd) : (∀ i : Nat, i < g.length → Base g (nm g i) ∧ Keys g (nm g i)) ↔ ∀ i : Nat, i < g.length → Base' (nm g i) ∧ Kids' g (nm g i) := by
  have mem : ∀ (l : List Int) (j : Nat), j < l.length → l.getD j 0 ∈ l := fun l j h => by rw [getD_lt 0 h]; exact List.getElem_mem h
  constructor
  · intro h i hi
    obtain ⟨⟨b1, b2, b3, b4⟩, b5⟩ := h i hi
    refine ⟨⟨b1, b2, b4, fun h4 => ?_⟩, fun j hj => ⟨?_, fun h4 hj2 => ?_⟩⟩
    · rcases Nat.eq_zero_or_pos (nm g i).f2.length with q | q
      · rw [q]
      · exact (b5 h4 0 (by omega)).2
    · have := b3 _ (mem _ j hj)
      omega
    · have := (b5 h4 (j / 2) (by omega)).1
      rw [show 2 * (j / 2) = j by omega] at this
      omega
  · intro h i hi
    obtain ⟨⟨b1, b2, b4, b6⟩, b5⟩ := h i hi
    refine ⟨⟨b1, b2, fun k hk => ?_, b4⟩, fun h4 m hm => ⟨?_, b6 h4⟩⟩
    · obtain ⟨j, hj, rfl⟩ := List.getElem_of_mem hk
      have := (b5 j hj).1
      rw [getD_lt 0 hj] at this
      omega
    · have h1 := (b5 (2 * m) hm).1
      have h2 := (b5 (2 * m) hm).2 h4 (by omega)
      obtain ⟨n, hn⟩ := Int.eq_ofNat_of_zero_le h1.1
      have h3 := (h n (by omega)).1.1
      rw [hn] at h2 ⊢
      omega

theorem isKey_eq (a b : Int) (l : List Int) : spec_isKey.f a b l = some (decide (a = 0) || decide (a = 1)) := by
  unfold spec_isKey.f
  by_cases h : a = 0
  · simp [h]
  · rw [if_neg h, decide_eq_false h, Bool.false_or]
    exact congrArg some (by rw [Bool.eq_iff_iff]; simp)

/-- What both ask of a machine. -/
def Mach (g : List Nd) (st me : List Int) (d : Bool) : Prop :=
  g.length ≤ 300 ∧ st.length ≤ 300 ∧ (∀ x ∈ st, -1 ≤ x ∧ x ≤ (g.length : Int) - 1) ∧ me.length = 20 ∧ (∀ x ∈ me, -1 ≤ x ∧ x ≤ (g.length : Int) - 1) ∧ (∀ i : Nat, i < g.length → Base g (nm g i) ∧ Keys g (nm g i)) ∧ (d = true → st.length = 1 ∧ 0 ≤ rd st 0)

open Classical in
theorem spec_node (g : List Nd) (st me : List Int) (d : Bool) (hg : g.length ≤ 300) (i : Nat) (hi : i < g.length) (hk : (nm g i).f2.length ≤ 1048576) (s : Bool)
    (hs : Base g (nm g i) ∧ Keys g (nm g i) → Ev (fun k => spec_validMachine.l0 k ((i + 1 : Nat) : Int) g st me d) s) :
    Ev (fun k => spec_validMachine.l0 k (i : Int) g st me d) (decide (Base g (nm g i) ∧ Keys g (nm g i)) && s) := by
  generalize hx : nm g i = x at hs hk ⊢
  have hj : ∀ t : Bool, (t = false ↔ Base g x) → Ev (fun k => spec_validMachine.j2 k (i : Int) t g st me d x.f0 x.f1 x.f2) (decide (Base g x ∧ Keys g x) && s) := by
    intro t ht
    refine Ev.step (fun k => by simp only [spec_validMachine.j2]; exact rfl) ?_
    cases t with
    | true =>
      have hb : ¬ Base g x := fun z => by cases ht.2 z
      refine Ev.ite_pos rfl (Ev.at (Ev.now _) ?_)
      rw [decide_eq_false (fun z => hb z.1), Bool.false_and]
    | false =>
      have hb := ht.1 rfl
      refine Ev.ite_neg (by decide) ?_
      have hin : ∀ j : Nat, j < x.f2.length → 0 ≤ x.f2.getD j 0 ∧ x.f2.getD j 0 < (g.length : Int) := fun j hj => by
        have := hb.2.2.1 _ (show x.f2.getD j 0 ∈ x.f2 by rw [getD_lt 0 hj]; exact List.getElem_mem hj)
        omega
      have out : ∀ y : Int, (Keys g x → True) → Keys g x → Ev (fun k => spec_validMachine.j4 k (i : Int) y false g st me d x.f0 x.f1 x.f2) s := by
        intro y _ hks
        refine Ev.step (fun k => by simp only [spec_validMachine.j4]; rw [if_neg (by decide)]) ?_
        rw [w64s hi (by omega)]
        exact hs ⟨hb, hks⟩
      by_cases h4 : x.f0 = 4
      · have h := ev_allm (L := fun k m => spec_validMachine.l1 k (i : Int) (2 * m) g st me d x.f0 x.f1 x.f2) (n := (x.f2.length + 1) / 2) (p := fun (m : Nat) => decide (((nm g (x.f2.getD (2 * m) 0)).f0 = 0 ∨ (nm g (x.f2.getD (2 * m) 0)).f0 = 1) ∧ x.f2.length % 2 = 0)) (fin := s) (fun m hm hp r hr => ?_) (fun m hm hp => ?_) (fun hall => ?_)
        · have e : (List.range ((x.f2.length + 1) / 2)).all (fun (m : Nat) => decide (((nm g (x.f2.getD (2 * m) 0)).f0 = 0 ∨ (nm g (x.f2.getD (2 * m) 0)).f0 = 1) ∧ x.f2.length % 2 = 0)) = decide (Base g x ∧ Keys g x) := by
            rw [Bool.eq_iff_iff, List.all_eq_true, decide_eq_true_eq]
            constructor
            · exact fun z => ⟨hb, fun _ m hm => of_decide_eq_true (z m (List.mem_range.2 (by omega)))⟩
            · exact fun z m hm => decide_eq_true (z.2 h4 m (by have := List.mem_range.1 hm; omega))
          rw [← e]
          simpa using h
        · have h2 : 2 * m < x.f2.length := by omega
          have hii := hin (2 * m) h2
          have hp' := of_decide_eq_true hp
          refine Ev.step (fun k => by simp only [spec_validMachine.l1]; rw [if_pos (by omega), h4]) ?_
          refine Ev.step (fun k => by simp only [spec_validMachine.j4]; exact rfl) ?_
          refine Ev.ite_pos rfl (Ev.ite_pos (by omega) (Ev.ite_pos (by omega) ?_))
          rw [show (2 * (m : Int)) = ((2 * m : Nat) : Int) by omega, rdN]
          refine Ev.ite_pos hii.1 (Ev.ite_pos hii.2 (Ev.bind0 (isKey_eq _ _ _) (Ev.ite_pos ?_ (Ev.ite_pos (by omega) ?_))))
          · rw [Bool.or_eq_true, decide_eq_true_eq, decide_eq_true_eq]
            exact hp'.1
          · rw [show wrap64 (((2 * m : Nat) : Int) + 2) = 2 * ((m + 1 : Nat) : Int) by rw [w64 (by omega)]; omega]
            rw [h4] at hr
            exact hr
        · have h2 : 2 * m < x.f2.length := by omega
          have hii := hin (2 * m) h2
          have hp' := of_decide_eq_false hp
          refine Ev.step (fun k => by simp only [spec_validMachine.l1]; rw [if_pos (by omega), h4]) ?_
          refine Ev.step (fun k => by simp only [spec_validMachine.j4]; exact rfl) ?_
          refine Ev.ite_pos rfl (Ev.ite_pos (by omega) (Ev.ite_pos (by omega) ?_))
          rw [show (2 * (m : Int)) = ((2 * m : Nat) : Int) by omega, rdN]
          refine Ev.ite_pos hii.1 (Ev.ite_pos hii.2 (Ev.bind0 (isKey_eq _ _ _) ?_))
          by_cases hkey : (nm g (x.f2.getD (2 * m) 0)).f0 = 0 ∨ (nm g (x.f2.getD (2 * m) 0)).f0 = 1
          · refine Ev.ite_pos ?_ (Ev.ite_neg (fun z => hp' ⟨hkey, by omega⟩) (Ev.now _))
            rw [Bool.or_eq_true, decide_eq_true_eq, decide_eq_true_eq]
            exact hkey
          · refine Ev.ite_neg ?_ (Ev.now _)
            rw [Bool.or_eq_true, decide_eq_true_eq, decide_eq_true_eq]
            exact hkey
        · refine Ev.step (fun k => by simp only [spec_validMachine.l1]; rw [if_neg (by omega)]) ?_
          exact out _ (fun _ => trivial) (fun _ m hm => of_decide_eq_true (hall m (by omega)))
      · have hks : Keys g x := fun z => absurd z h4
        rw [decide_eq_true (show Base g x ∧ Keys g x from ⟨hb, hks⟩), Bool.true_and]
        by_cases hl : (0 : Int) < (x.f2.length : Int)
        · refine Ev.step (fun k => by simp only [spec_validMachine.l1]; rw [if_pos hl, show (x.f0 == 4) = false from beq_eq_false_iff_ne.2 h4]) ?_
          exact out _ (fun _ => trivial) hks
        · refine Ev.step (fun k => by simp only [spec_validMachine.l1]; rw [if_neg hl]) ?_
          exact out _ (fun _ => trivial) hks
  refine Ev.step (fun k => by simp only [spec_validMachine.l0]; rw [if_pos (by omega), if_pos (by omega), show rd_T88 g (i : Int) = x from hx]) ?_
  refine Ev.bind0 (inRange_eq _ _ _) ?_
  by_cases c1 : 0 ≤ x.f0 ∧ x.f0 ≤ 5
  · refine Ev.ite_pos (by rw [decide_eq_true c1.1, decide_eq_true c1.2]; rfl) (Ev.bind0 (inRange_eq _ _ _) ?_)
    by_cases c2 : 0 ≤ x.f1 ∧ x.f1 ≤ 999
    · refine Ev.ite_pos (by rw [decide_eq_true c2.1, decide_eq_true c2.2]; rfl) ?_
      rw [w64 (by omega)]
      refine Ev.bind (allIn_ev x.f2 0 _ (by omega)) ?_
      cases c3 : x.f2.all (fun y => decide (0 ≤ y) && decide (y ≤ (g.length : Int) - 1)) with
      | true =>
        have c3' : ∀ k ∈ x.f2, 0 ≤ k ∧ k ≤ (g.length : Int) - 1 := fun k hk' => by
          have := List.all_eq_true.1 c3 k hk'
          rw [Bool.and_eq_true, decide_eq_true_eq, decide_eq_true_eq] at this
          exact this
        refine Ev.ite_pos rfl ?_
        by_cases c5 : x.f0 = 5
        · refine Ev.ite_pos c5 (hj _ ?_)
          rw [decide_eq_false_iff_not]
          exact ⟨fun z => ⟨c1, c2, c3', fun _ => by omega⟩, fun z => by have := z.2.2.2 c5; omega⟩
        · exact Ev.ite_neg c5 (hj false ⟨fun _ => ⟨c1, c2, c3', fun z => absurd z c5⟩, fun _ => rfl⟩)
      | false =>
        refine Ev.ite_neg (by decide) (hj true ⟨fun z => by (cases z), fun z => ?_⟩)
        have : x.f2.all (fun y => decide (0 ≤ y) && decide (y ≤ (g.length : Int) - 1)) = true := List.all_eq_true.2 (fun k hk' => by
          have := z.2.2.1 k hk'
          rw [Bool.and_eq_true, decide_eq_true_eq, decide_eq_true_eq]
          exact this)
        rw [c3] at this
        cases this
    · refine Ev.ite_neg ?_ (hj true ⟨fun z => by (cases z), fun z => absurd z.2.1 c2⟩)
      rw [Bool.and_eq_true, decide_eq_true_eq, decide_eq_true_eq]
      exact c2
  · refine Ev.ite_neg ?_ (hj true ⟨fun z => by (cases z), fun z => absurd z.1 c1⟩)
    rw [Bool.and_eq_true, decide_eq_true_eq, decide_eq_true_eq]
    exact c1

theorem all_in (l : List Int) (a b : Int) : (l.all (fun y => decide (a ≤ y) && decide (y ≤ b)) = true) ↔ ∀ x ∈ l, a ≤ x ∧ x ≤ b := by
  rw [List.all_eq_true]
  constructor
  · intro h x hx
    have := h x hx
    rw [Bool.and_eq_true, decide_eq_true_eq, decide_eq_true_eq] at this
    exact this
  · intro h x hx
    rw [Bool.and_eq_true, decide_eq_true_eq, decide_eq_true_eq]
    exact h x hx

open Classical in
theorem spec_mach (g : List Nd) (st me : List Int) (d : Bool) (hk : ∀ i : Nat, i < g.length → (nm g i).f2.length ≤ 1048576) (hs : st.length ≤ 1048576) (hm : me.length ≤ 1048576) (hg : g.length ≤ 1048576) :
    Ev (fun k => spec_validMachine.f k g st me d) (decide (Mach g st me d)) := by
  unfold spec_validMachine.f
  have hj : ∀ t : Bool, (t = false ↔ g.length ≤ 300 ∧ st.length ≤ 300 ∧ (∀ x ∈ st, -1 ≤ x ∧ x ≤ (g.length : Int) - 1) ∧ me.length = 20 ∧ (∀ x ∈ me, -1 ≤ x ∧ x ≤ (g.length : Int) - 1)) → Ev (fun k => spec_validMachine.j0 k t g st me d) (decide (Mach g st me d)) := by
    intro t ht
    refine Ev.step (fun k => by simp only [spec_validMachine.j0]; exact rfl) ?_
    cases t with
    | true =>
      refine Ev.ite_pos rfl (Ev.at (Ev.now _) (decide_eq_false (fun z => ?_)).symm)
      have := ht.2 ⟨z.1, z.2.1, z.2.2.1, z.2.2.2.1, z.2.2.2.2.1⟩
      cases this
    | false =>
      obtain ⟨h1, h2, h3, h4, h5⟩ := ht.1 rfl
      refine Ev.ite_neg (by decide) ?_
      have h := ev_allm (L := fun k i => spec_validMachine.l0 k i g st me d) (n := g.length) (p := fun (i : Nat) => decide (Base g (nm g i) ∧ Keys g (nm g i))) (fin := decide (d = true → st.length = 1 ∧ 0 ≤ rd st 0)) (fun i hi hp r hr => ?_) (fun i hi hp => ?_) (fun _ => ?_)
      · refine Ev.at h ?_
        rw [Bool.eq_iff_iff, Bool.and_eq_true, List.all_eq_true, decide_eq_true_eq, decide_eq_true_eq]
        constructor
        · exact fun z => ⟨h1, h2, h3, h4, h5, fun i hi => of_decide_eq_true (z.1 i (List.mem_range.2 hi)), z.2⟩
        · exact fun z => ⟨fun i hi => decide_eq_true (z.2.2.2.2.2.1 i (List.mem_range.1 hi)), z.2.2.2.2.2.2⟩
      · have := spec_node g st me d h1 i hi (hk i hi) r (fun _ => hr)
        rw [hp, Bool.true_and] at this
        exact this
      · have := spec_node g st me d h1 i hi (hk i hi) false (fun z => absurd (decide_eq_true z) (by rw [hp]; decide))
        rw [Bool.and_false] at this
        exact this
      · refine Ev.step (fun k => by simp only [spec_validMachine.l0]; rw [if_neg (by omega)]) ?_
        cases d with
        | false => exact Ev.ite_neg (by decide) (Ev.at (Ev.now _) (decide_eq_true (fun z => by cases z)).symm)
        | true =>
          refine Ev.ite_pos rfl ?_
          by_cases hl : (st.length : Int) = 1
          · refine Ev.ite_pos hl (Ev.ite_pos (by omega) (Ev.at (Ev.now _) (decide_eq_decide.2 ⟨fun z => fun _ => ⟨by omega, z⟩, fun z => (z rfl).2⟩)))
          · refine Ev.ite_neg hl (Ev.at (Ev.now _) (decide_eq_false (fun z => hl ?_)).symm)
            have := (z rfl).1
            omega
  by_cases c1 : (g.length : Int) > 300
  · exact Ev.ite_pos c1 (hj true ⟨fun z => by (cases z), fun z => by omega⟩)
  refine Ev.ite_neg c1 ?_
  by_cases c2 : (st.length : Int) > 300
  · exact Ev.ite_pos c2 (hj true ⟨fun z => by (cases z), fun z => by omega⟩)
  refine Ev.ite_neg c2 ?_
  rw [w64 (by omega)]
  refine Ev.bind (allIn_ev st (-1) _ (by omega)) ?_
  by_cases c3 : ∀ x ∈ st, -1 ≤ x ∧ x ≤ (g.length : Int) - 1
  · refine Ev.ite_pos ((all_in st _ _).2 c3) ?_
    by_cases c4 : (me.length : Int) = 20
    · refine Ev.ite_pos c4 (Ev.bind (allIn_ev me (-1) _ (by omega)) (hj _ ?_))
      rw [Bool.not_eq_false', all_in]
      exact ⟨fun z => ⟨by omega, by omega, c3, by omega, z⟩, fun z => z.2.2.2.2⟩
    · exact Ev.ite_neg c4 (hj true ⟨fun z => by (cases z), fun z => absurd (by omega) c4⟩)
  · exact Ev.ite_neg (fun z => c3 ((all_in st _ _).1 z)) (hj true ⟨fun z => by (cases z), fun z => absurd z.2.2.1 c3⟩)

open Classical in
theorem impl_node (g : List Nd) (st me : List Int) (d : Bool) (hg : g.length ≤ 300) (i : Nat) (hi : i < g.length) (hk : (nm g i).f2.length ≤ 1048576) (s : Bool)
    (hs : Base' (nm g i) ∧ Kids' g (nm g i) → Ev (fun k => impl_ValidMachine.l1 k (g.length : Int) g (g.length : Int) ((i + 1 : Nat) : Int) g st me d) s) :
    Ev (fun k => impl_ValidMachine.l1 k (g.length : Int) g (g.length : Int) (i : Int) g st me d) (decide (Base' (nm g i) ∧ Kids' g (nm g i)) && s) := by
  generalize hx : nm g i = x at hs hk ⊢
  have hj : ∀ t : Bool, (t = false ↔ Base' x) → Ev (fun k => impl_ValidMachine.j3 k (g.length : Int) g (g.length : Int) (i : Int) t g st me d x.f0 x.f1 x.f2) (decide (Base' x ∧ Kids' g x) && s) := by
    intro t ht
    refine Ev.step (fun k => by simp only [impl_ValidMachine.j3]; exact rfl) ?_
    cases t with
    | true =>
      have hb : ¬ Base' x := fun z => by cases ht.2 z
      refine Ev.ite_pos rfl (Ev.at (Ev.now _) ?_)
      rw [decide_eq_false (fun z => hb z.1), Bool.false_and]
    | false =>
      have hb := ht.1 rfl
      refine Ev.ite_neg (by decide) ?_
      have h := ev_allm (L := fun k j => impl_ValidMachine.l2 k (g.length : Int) g (g.length : Int) (i : Int) x.f2 (x.f2.length : Int) j g st me d x.f0 x.f1 x.f2) (n := x.f2.length) (p := fun (j : Nat) => decide ((0 ≤ x.f2.getD j 0 ∧ x.f2.getD j 0 < (g.length : Int)) ∧ (x.f0 = 4 → j % 2 = 0 → (nm g (x.f2.getD j 0)).f0 ≤ 1))) (fin := s) (fun j hj' hp r hr => ?_) (fun j hj' hp => ?_) (fun hall => ?_)
      · have e : (List.range x.f2.length).all (fun (j : Nat) => decide ((0 ≤ x.f2.getD j 0 ∧ x.f2.getD j 0 < (g.length : Int)) ∧ (x.f0 = 4 → j % 2 = 0 → (nm g (x.f2.getD j 0)).f0 ≤ 1))) = decide (Base' x ∧ Kids' g x) := by
          rw [Bool.eq_iff_iff, List.all_eq_true, decide_eq_true_eq]
          constructor
          · exact fun z => ⟨hb, fun j hj' => of_decide_eq_true (z j (List.mem_range.2 hj'))⟩
          · exact fun z j hj' => decide_eq_true (z.2 j (List.mem_range.1 hj'))
        rw [← e]
        exact h
      · have hp' := of_decide_eq_true hp
        refine Ev.step (fun k => by simp only [impl_ValidMachine.l2]; rw [if_pos (by omega), if_pos (by omega), if_pos (by omega), rdN, if_neg (by omega), if_neg (by omega), w64s hj' (by omega)]) ?_
        by_cases h4 : x.f0 = 4
        · refine Ev.ite_pos h4 ?_
          by_cases h2 : j % 2 = 0
          · have := hp'.2 h4 h2
            refine Ev.ite_pos (by rw [Int.tmod_eq_emod_of_nonneg (by omega)]; omega) (Ev.ite_pos hp'.1.1 (Ev.ite_pos hp'.1.2 (Ev.ite_neg (by show ¬ (nm g (x.f2.getD j 0)).f0 > 1; omega) hr)))
          · exact Ev.ite_neg (by rw [Int.tmod_eq_emod_of_nonneg (by omega)]; omega) hr
        · exact Ev.ite_neg h4 hr
      · have hp' := of_decide_eq_false hp
        refine Ev.step (fun k => by simp only [impl_ValidMachine.l2]; rw [if_pos (by omega), if_pos (by omega), if_pos (by omega), rdN]) ?_
        by_cases c1 : x.f2.getD j 0 < 0
        · exact Ev.ite_pos c1 (Ev.now _)
        refine Ev.ite_neg c1 ?_
        by_cases c2 : x.f2.getD j 0 ≥ (g.length : Int)
        · exact Ev.ite_pos c2 (Ev.now _)
        refine Ev.ite_neg c2 ?_
        have c3 : ¬ (x.f0 = 4 → j % 2 = 0 → (nm g (x.f2.getD j 0)).f0 ≤ 1) := fun z => hp' ⟨by omega, z⟩
        have h4 : x.f0 = 4 := Classical.byContradiction (fun z => c3 (fun y => absurd y z))
        have h2 : j % 2 = 0 := Classical.byContradiction (fun z => c3 (fun _ y => absurd y z))
        refine Ev.ite_pos h4 (Ev.ite_pos (by rw [Int.tmod_eq_emod_of_nonneg (by omega)]; omega) (Ev.ite_pos (by omega) (Ev.ite_pos (by omega) (Ev.ite_pos ?_ (Ev.now _)))))
        show (nm g (x.f2.getD j 0)).f0 > 1
        have := fun z => c3 (fun _ _ => z)
        omega
      · refine Ev.step (fun k => by simp only [impl_ValidMachine.l2]; rw [if_neg (by omega), w64s hi (by omega)]) ?_
        exact hs ⟨hb, fun j hj' => of_decide_eq_true (hall j hj')⟩
  refine Ev.step (fun k => by simp only [impl_ValidMachine.l1]; rw [if_pos (by omega), if_pos (by omega), if_pos (by omega), show rd_T88 g (i : Int) = x from hx]) ?_
  have hbad : ¬ Base' x → Ev (fun k => impl_ValidMachine.j3 k (g.length : Int) g (g.length : Int) (i : Int) true g st me d x.f0 x.f1 x.f2) (decide (Base' x ∧ Kids' g x) && s) := fun z => hj true ⟨fun y => by (cases y), fun y => absurd y z⟩
  by_cases c1 : x.f0 < 0
  · exact Ev.ite_pos c1 (hbad (fun z => by have := z.1; omega))
  refine Ev.ite_neg c1 ?_
  by_cases c2 : x.f0 > 5
  · exact Ev.ite_pos c2 (hbad (fun z => by have := z.1; omega))
  refine Ev.ite_neg c2 ?_
  by_cases c3 : x.f1 < 0
  · exact Ev.ite_pos c3 (hbad (fun z => by have := z.2.1; omega))
  refine Ev.ite_neg c3 ?_
  by_cases c4 : x.f1 > 999
  · exact Ev.ite_pos c4 (hbad (fun z => by have := z.2.1; omega))
  refine Ev.ite_neg c4 ?_
  have last : (x.f0 = 5 → x.f2.length ≤ 1) → Ev (fun k => if x.f0 = 4 then impl_ValidMachine.j3 k (g.length : Int) g (g.length : Int) (i : Int) (((x.f2.length : Int) % 2) != 0) g st me d x.f0 x.f1 x.f2 else impl_ValidMachine.j3 k (g.length : Int) g (g.length : Int) (i : Int) false g st me d x.f0 x.f1 x.f2) (decide (Base' x ∧ Kids' g x) && s) := by
    intro h5
    by_cases h4 : x.f0 = 4
    · refine Ev.ite_pos h4 (hj _ ?_)
      rw [bne_eq_false_iff_eq]
      exact ⟨fun z => ⟨by omega, by omega, h5, fun _ => by omega⟩, fun z => by have := z.2.2.2 h4; omega⟩
    · exact Ev.ite_neg h4 (hj false ⟨fun _ => ⟨by omega, by omega, h5, fun z => absurd z h4⟩, fun _ => rfl⟩)
  by_cases c5 : x.f0 = 5
  · refine Ev.ite_pos c5 ?_
    by_cases c6 : (x.f2.length : Int) > 1
    · exact Ev.ite_pos c6 (hbad (fun z => by have := z.2.2.1 c5; omega))
    · exact Ev.ite_neg c6 (last (fun _ => by omega))
  · exact Ev.ite_neg c5 (last (fun z => absurd z c5))

open Classical in
theorem impl_mach (g : List Nd) (st me : List Int) (d : Bool) (hk : ∀ i : Nat, i < g.length → (nm g i).f2.length ≤ 1048576) (hs : st.length ≤ 1048576) (hm : me.length ≤ 1048576) (hg : g.length ≤ 1048576) :
    Ev (fun k => impl_ValidMachine.f k g st me d) (decide (Mach g st me d)) := by
  unfold impl_ValidMachine.f
  have hj : ∀ t : Bool, (t = false ↔ g.length ≤ 300 ∧ st.length ≤ 300 ∧ me.length = 20 ∧ (d = true → st.length = 1 ∧ 0 ≤ rd st 0)) → Ev (fun k => impl_ValidMachine.j0 k (g.length : Int) t g st me d) (decide (Mach g st me d)) := by
    intro t ht
    refine Ev.step (fun k => by simp only [impl_ValidMachine.j0]; exact rfl) ?_
    cases t with
    | true =>
      refine Ev.ite_pos rfl (Ev.at (Ev.now _) (decide_eq_false (fun z => ?_)).symm)
      have := ht.2 ⟨z.1, z.2.1, z.2.2.2.1, z.2.2.2.2.2.2⟩
      cases this
    | false =>
      obtain ⟨h1, h2, h4, h7⟩ := ht.1 rfl
      refine Ev.ite_neg (by decide) ?_
      refine Ev.bind0 (a := st) (by unfold slices_Clone_int_int.f; rw [if_pos (by omega)]) (Ev.ite_pos (by omega) (Ev.bind0 rfl ?_))
      have hlen : (st ++ me).length = st.length + me.length := List.length_append
      generalize hl : st ++ me = l at hlen
      have h := ev_allm (L := fun k j => impl_ValidMachine.l0 k (g.length : Int) l (l.length : Int) j g st me d) (n := l.length) (p := fun (j : Nat) => decide (-1 ≤ l.getD j 0 ∧ l.getD j 0 ≤ (g.length : Int) - 1)) (fin := (List.range g.length).all (fun (i : Nat) => decide (Base' (nm g i) ∧ Kids' g (nm g i))) && true) (fun j hj' hp r hr => ?_) (fun j hj' hp => ?_) (fun _ => ?_)
      · refine Ev.at h ?_
        rw [Bool.eq_iff_iff, Bool.and_true, Bool.and_eq_true, List.all_eq_true, List.all_eq_true, decide_eq_true_eq]
        have mem : ∀ x ∈ l, ∃ j, j < l.length ∧ l.getD j 0 = x := fun x hx => by
          obtain ⟨j, hj', rfl⟩ := List.getElem_of_mem hx
          exact ⟨j, hj', getD_lt 0 hj'⟩
        constructor
        · rintro ⟨z1, z2⟩
          have zl : ∀ x ∈ l, -1 ≤ x ∧ x ≤ (g.length : Int) - 1 := fun x hx => by
            obtain ⟨j, hj', rfl⟩ := mem x hx
            exact of_decide_eq_true (z1 j (List.mem_range.2 hj'))
          exact ⟨h1, h2, fun x hx => zl x (by rw [← hl]; exact List.mem_append_left _ hx), h4, fun x hx => zl x (by rw [← hl]; exact List.mem_append_right _ hx), (nodes_same g).2 (fun i hi => of_decide_eq_true (z2 i (List.mem_range.2 hi))), h7⟩
        · intro z
          refine ⟨fun j hj' => decide_eq_true ?_, fun i hi => decide_eq_true ((nodes_same g).1 z.2.2.2.2.2.1 i (List.mem_range.1 hi))⟩
          have hm' : l.getD j 0 ∈ l := by rw [getD_lt 0 (List.mem_range.1 hj')]; exact List.getElem_mem _
          rw [← hl] at hm'
          rw [← hl]
          rcases List.mem_append.1 hm' with q | q
          · exact z.2.2.1 _ q
          · exact z.2.2.2.2.1 _ q
      · have hp' := of_decide_eq_true hp
        refine Ev.step (fun k => by simp only [impl_ValidMachine.l0]; rw [if_pos (by omega), if_pos (by omega), if_pos (by omega), rdN, if_neg (by omega), if_neg (by omega), w64s hj' (by omega)]) ?_
        exact hr
      · have hp' := of_decide_eq_false hp
        refine Ev.step (fun k => by simp only [impl_ValidMachine.l0]; rw [if_pos (by omega), if_pos (by omega), if_pos (by omega), rdN]) ?_
        by_cases c1 : l.getD j 0 < -1
        · exact Ev.ite_pos c1 (Ev.now _)
        · exact Ev.ite_neg c1 (Ev.ite_pos (by omega) (Ev.now _))
      · refine Ev.step (fun k => by simp only [impl_ValidMachine.l0]; rw [if_neg (by omega)]) ?_
        refine ev_allm (L := fun k i => impl_ValidMachine.l1 k (g.length : Int) g (g.length : Int) i g st me d) (n := g.length) (p := fun (i : Nat) => decide (Base' (nm g i) ∧ Kids' g (nm g i))) (fin := true) (fun i hi hp r hr => ?_) (fun i hi hp => ?_) (fun _ => ?_)
        · have := impl_node g st me d h1 i hi (hk i hi) r (fun _ => hr)
          rw [hp, Bool.true_and] at this
          exact this
        · have := impl_node g st me d h1 i hi (hk i hi) false (fun z => absurd (decide_eq_true z) (by rw [hp]; decide))
          rw [Bool.and_false] at this
          exact this
        · exact Ev.step (fun k => by simp only [impl_ValidMachine.l1]; rw [if_neg (by omega)]) (Ev.now _)
  have hbad : ¬ (g.length ≤ 300 ∧ st.length ≤ 300 ∧ me.length = 20 ∧ (d = true → st.length = 1 ∧ 0 ≤ rd st 0)) → Ev (fun k => impl_ValidMachine.j0 k (g.length : Int) true g st me d) (decide (Mach g st me d)) := fun z => hj true ⟨fun y => by (cases y), fun y => absurd y z⟩
  by_cases c1 : (g.length : Int) > 300
  · exact Ev.ite_pos c1 (hbad (fun z => by have := z.1; omega))
  refine Ev.ite_neg c1 ?_
  by_cases c2 : (st.length : Int) > 300
  · exact Ev.ite_pos c2 (hbad (fun z => by have := z.2.1; omega))
  refine Ev.ite_neg c2 ?_
  by_cases c4 : (me.length : Int) = 20
  · refine Ev.ite_pos c4 ?_
    cases d with
    | false => exact Ev.ite_neg (by decide) (hj false ⟨fun _ => ⟨by omega, by omega, by omega, fun z => by cases z⟩, fun _ => rfl⟩)
    | true =>
      refine Ev.ite_pos rfl ?_
      by_cases hl : (st.length : Int) = 1
      · refine Ev.ite_pos hl (Ev.ite_pos (by omega) (hj _ ?_))
        rw [decide_eq_false_iff_not]
        exact ⟨fun z => ⟨by omega, by omega, by omega, fun _ => ⟨by omega, by omega⟩⟩, fun z => by have := (z.2.2.2 rfl).2; omega⟩
      · exact Ev.ite_neg hl (hbad (fun z => by have := (z.2.2.2 rfl).1; omega))
  · exact Ev.ite_neg c4 (hbad (fun z => by have := z.2.2.1; omega))

theorem FnExactValidMachine : laws_FnExactValidMachine.Pure := by
  classical
  intro l st me d hl hst hme
  apply Ev.rounds
  unfold laws_FnExactValidMachine.f laws_szMachine.f
  obtain ⟨t, ht, h2, h3, h4⟩ := szNodeS_ev l 1048576 (by omega) (by omega) hl.1 (fun x hx => (hl.2 x hx).2.2.1)
  have hsz : ∃ q : Int, Ev (fun k => (laws_szNodeS.f k l 1048576).bind fun t1 => (if t1 < 0 then (some (-1)) else ((laws_szIntS.f st t1).bind fun t2 => (if t2 < 0 then (some (-1)) else ((laws_szIntS.f me t2).bind fun t3 => (if t3 < 0 then (some (-1)) else (some t3))))))) q ∧ (0 ≤ q → (l.length : Int) ≤ 1048576 ∧ (∀ x ∈ l, (x.f2.length : Int) ≤ 1048576) ∧ (st.length : Int) ≤ 1048576 ∧ (me.length : Int) ≤ 1048576) := by
    by_cases c1 : t < 0
    · exact ⟨-1, Ev.bind ht (Ev.ite_pos c1 (Ev.now _)), fun z => by omega⟩
    · have e1 := szIntS_eq st t (by omega) (by omega) hst.1
      by_cases c2 : t < (st.length : Int)
      · rw [if_pos c2] at e1
        exact ⟨-1, Ev.bind ht (Ev.ite_neg c1 (Ev.bind0 e1 (Ev.ite_pos (by omega) (Ev.now _)))), fun z => by omega⟩
      · rw [if_neg c2] at e1
        have e2 := szIntS_eq me (t - st.length) (by omega) (by omega) hme.1
        by_cases c3 : t - (st.length : Int) < (me.length : Int)
        · rw [if_pos c3] at e2
          exact ⟨-1, Ev.bind ht (Ev.ite_neg c1 (Ev.bind0 e1 (Ev.ite_neg (by omega) (Ev.bind0 e2 (Ev.ite_pos (by omega) (Ev.now _)))))), fun z => by omega⟩
        · rw [if_neg c3] at e2
          obtain ⟨h5, h6⟩ := h4 (by omega)
          exact ⟨_, Ev.bind ht (Ev.ite_neg c1 (Ev.bind0 e1 (Ev.ite_neg (by omega) (Ev.bind0 e2 (Ev.ite_neg (by omega) (Ev.now _)))))), fun _ => ⟨h5, h6, by omega, by omega⟩⟩
  obtain ⟨q, hq, hq2⟩ := hsz
  refine Ev.bind hq ?_
  by_cases hneg : q < 0
  · exact Ev.ite_pos hneg (Ev.now _)
  · refine Ev.ite_neg hneg ?_
    obtain ⟨h5, h6, h7, h8⟩ := hq2 (by omega)
    have tm : Ev (fun k => laws_toMachine.f k l st me d) (l.map toNd, st, me, d) := by
      unfold laws_toMachine.f
      exact Ev.bind (toNodeS_ev l (by omega) (fun x hx => by have := h6 x hx; omega)) (Ev.bind (toIntS_ev st (by omega)) (Ev.bind (toIntS_ev me (by omega)) (Ev.now _)))
    have hlen : (l.map toNd).length ≤ 1048576 := by rw [List.length_map]; omega
    have hkids : ∀ x ∈ l.map toNd, x.f2.length ≤ 1048576 := fun x hx => by
      obtain ⟨y, hy, rfl⟩ := List.mem_map.1 hx
      have := h6 y hy
      unfold toNd
      dsimp only
      omega
    have hk : ∀ i : Nat, i < (l.map toNd).length → (nm (l.map toNd) i).f2.length ≤ 1048576 := fun i hi => by
      have e : nm (l.map toNd) i = (l.map toNd)[i] := by
        show rd_T88 _ _ = _
        rw [rdG, getD_lt _ hi]
      rw [e]
      exact hkids _ (List.getElem_mem hi)
    have hs : Ev (fun k => spec_ValidMachine.f k (l.map toNd) st me d) (decide (Mach (l.map toNd) st me d)) := by
      unfold spec_ValidMachine.f
      exact Ev.bind (spec_mach _ st me d hk (by omega) (by omega) (by omega)) (Ev.now _)
    have hi := impl_mach (l.map toNd) st me d hk (by omega) (by omega) (by omega)
    have he : Ev (fun k => laws_eqMachine.f k (l.map toNd) st me d (l.map toNd) st me d) true := by
      unfold laws_eqMachine.f
      exact Ev.bind (eqNodeS_same _ (by omega) (fun x hx => by have := hkids x hx; omega)) (Ev.ite_pos rfl (Ev.bind (eqIntS_same st (by omega)) (Ev.ite_pos rfl (Ev.bind (eqIntS_same me (by omega)) (Ev.ite_pos rfl (Ev.ite_neg (by simp) (Ev.now _)))))))
    refine Ev.bind tm (Ev.bind hs (Ev.bind tm (Ev.bind hi ?_)))
    exact Ev.ite_neg (by simp) (Ev.bind tm (Ev.bind he (Ev.ite_pos rfl (Ev.now _))))
end Go.Proofs.Ytbokjhdhpmmpfaa.Pure
