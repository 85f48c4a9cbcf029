/- Classes of equal nodes: the reference's rounds and the program's. -/
import Derived.Test.YtapaegcombfafaaHcircle
import Derived.Test.YtapaegcombfafaaQ53
import Derived.Test.YtapaegcombfafaaQ54
import Derived.Test.YtapaegcombfafaaQ88
namespace Go.Proofs.Ytapaegcombfafaa.Q
open Go.RowKit Go.Proofs.YtapaegcombfafaaW.PrintWords
set_option linter.unusedVariables false
set_option linter.unusedSimpArgs false

/-- Are the kids of two rows in equal classes? -/
def kidsSame (now p q : List Int) : Bool := decide (p.length = q.length) && (List.range p.length).all (fun j => decide (now.getD (p.getD j 0).toNat 0 = now.getD (q.getD j 0).toNat 0))
def sameB (g : List Nd) (now : List Int) (i k : Nat) : Bool := decide (now.getD i 0 = now.getD k 0) && (decide ((nd g i).f0 = (nd g k).f0) && (decide ((nd g i).f1 = (nd g k).f1) && kidsSame now (nd g i).f2 (nd g k).f2))
theorem kidsSame_iff {now p q : List Int} : kidsSame now p q = true ↔ p.length = q.length ∧ ∀ j,j < p.length → now.getD (p.getD j 0).toNat 0 = now.getD (q.getD j 0).toNat 0 := by
 unfold kidsSame
 simp only [Bool.and_eq_true,decide_eq_true_eq,List.all_eq_true,List.mem_range]
theorem sameB_iff {g : List Nd} {now : List Int} {i k : Nat} : sameB g now i k = true ↔ now.getD i 0 = now.getD k 0 ∧ (nd g i).f0 = (nd g k).f0 ∧ (nd g i).f1 = (nd g k).f1 ∧ kidsSame now (nd g i).f2 (nd g k).f2 = true := by
 unfold sameB
 simp only [Bool.and_eq_true,decide_eq_true_eq]
theorem sameB_euclid {g : List Nd} {now : List Int} {i k j : Nat} (h1 : sameB g now i k = true) (h2 : sameB g now k j = true) : sameB g now i j = true := by
 rw [sameB_iff] at h1 h2 ⊢
 obtain ⟨a1,a2,a3,a4⟩ := h1
 obtain ⟨b1,b2,b3,b4⟩ := h2
 rw [kidsSame_iff] at a4 b4 ⊢
 exact ⟨a1.trans b1,a2.trans b2,a3.trans b3,a4.1.trans b4.1,fun m hm => (a4.2 m hm).trans (b4.2 m (by rw [← a4.1];exact hm))⟩
/-- The first one ahead of node i that is like it, or i. -/
def firstSame (g : List Nd) (now : List Int) (i : Nat) : Nat := ((List.range i).find? (sameB g now i)).getD i
theorem firstSame_hit {g : List Nd} {now : List Int} {i k : Nat} (hk : k < i) (hs : sameB g now i k = true) (hb : ∀ j,j < k → sameB g now i j = false) : firstSame g now i = k := by
 have h : (List.range i).find? (sameB g now i) = some k := by
  rw [List.find?_eq_some_iff_getElem]
  exact ⟨hs,k,by rw [List.length_range];exact hk,by simp,fun j hj => by simp only [List.getElem_range,Bool.not_eq_true'];exact hb j hj⟩
 unfold firstSame
 rw [h]
 rfl
theorem firstSame_none {g : List Nd} {now : List Int} {i : Nat} (hb : ∀ j,j < i → sameB g now i j = false) : firstSame g now i = i := by
 have h : (List.range i).find? (sameB g now i) = none := by
  rw [List.find?_eq_none]
  intro j hj
  rw [hb j (List.mem_range.1 hj)]
  decide
 unfold firstSame
 rw [h]
 rfl
theorem firstSame_first {g : List Nd} {now : List Int} {i k : Nat} (hs : sameB g now i k = true) (hb : ∀ j,j < k → sameB g now i j = false) : firstSame g now k = k := by
 refine firstSame_none (fun j hj => ?_)
 cases h : sameB g now k j with
 | false => rfl
 | true => exact absurd ((sameB_euclid hs h).symm.trans (hb j hj)) (by simp)
def newL (g : List Nd) (now : List Int) (i : Nat) : List Int := (List.range i).map (fun j => (firstSame g now j : Int))
theorem newL_len (g : List Nd) (now : List Int) (i : Nat) : (newL g now i).length = i := by simp [newL]
theorem newL_succ (g : List Nd) (now : List Int) (i : Nat) : newL g now (i + 1) = newL g now i ++ [(firstSame g now i : Int)] := by simp [newL,List.range_succ]
theorem newL_at {g : List Nd} {now : List Int} {i k : Nat} (hk : k < i) : (newL g now i).getD k 0 = (firstSame g now k : Int) := by
 rw [getD_lt 0 (by rw [newL_len];exact hk)]
 simp [newL]
def roundsL (g : List Nd) : Nat → List Int
 | 0 => List.replicate g.length 0
 | r + 1 => newL g (roundsL g r) g.length
theorem roundsL_len (g : List Nd) (r : Nat) : (roundsL g r).length = g.length := by
 cases r with
 | zero => simp [roundsL]
 | succ r => simp [roundsL,newL_len]
def classesL (g : List Nd) : List Int := roundsL g (g.length + 1)
theorem classesL_len (g : List Nd) : (classesL g).length = g.length := roundsL_len g _

theorem rdNat (l : List Int) {x : Int} (h : 0 ≤ x) : rd l x = l.getD x.toNat 0 := by
 obtain ⟨n,rfl⟩ := Int.eq_ofNat_of_zero_le h
 rw [rdN,Int.toNat_natCast]

theorem kid_in {g : List Nd} {now : List Int} (hk : KidsIn g) (hn : now.length = g.length) {i j : Nat} (hi : i < g.length) (hj : j < (nd g (i : Int)).f2.length) : 0 ≤ (nd g (i : Int)).f2.getD j 0 ∧ (nd g (i : Int)).f2.getD j 0 < (now.length : Int) := by
 rw [getD_lt 0 hj,hn]
 exact hk.mem (by omega) (by omega) (List.getElem_mem hj)

section
variable {g : List Nd} {now : List Int} (hk : KidsIn g) (hn : now.length = g.length)
include hk hn
theorem sameClass_ev {i k : Nat} (hi : i < g.length) (hki : k < g.length) : Ev (fun f => spec_sameClass.f f g now (i : Int) (k : Int)) (sameB g now i k) := by
 unfold spec_sameClass.f
 have hl1 := hk.few (i := (i : Int)) (by omega) (by omega)
 refine Ev.ite_pos (by omega) (Ev.ite_pos (by omega) (Ev.ite_pos (by omega) (Ev.ite_pos (by omega) ?_)))
 rw [rdN,rdN]
 by_cases h1 : now.getD i 0 = now.getD k 0
 ·refine Ev.ite_pos h1 (Ev.ite_pos (by omega) (Ev.ite_pos (by omega) ?_))
  have hj : ∀ b : Bool,b = (decide ((nd g i).f0 = (nd g k).f0) && (decide ((nd g i).f1 = (nd g k).f1) && decide ((nd g i).f2.length = (nd g k).f2.length))) → Ev (fun f => spec_sameClass.j0 f g now (i : Int) (k : Int) (!b)) (sameB g now i k) := by
   intro b hb
   cases b with
   | false =>
    refine Ev.step (fun f => by simp only [spec_sameClass.j0];rw [if_pos (by decide)]) (Ev.at (Ev.now _) ?_)
    symm
    cases hs : sameB g now i k with
    | false => rfl
    | true =>
     obtain ⟨a1,a2,a3,a4⟩ := sameB_iff.1 hs
     rw [decide_eq_true a2,decide_eq_true a3,decide_eq_true (kidsSame_iff.1 a4).1] at hb
     simp at hb
   | true =>
    simp only [Bool.and_eq_true,decide_eq_true_eq,eq_comm (a := true)] at hb
    obtain ⟨b1,b2,b3⟩ := hb
    refine Ev.step (fun f => by simp only [spec_sameClass.j0];rw [if_neg (by decide)]) ?_
    have e : sameB g now i k = ((List.range (nd g i).f2.length).all (fun j => decide (now.getD ((nd g i).f2.getD j 0).toNat 0 = now.getD ((nd g k).f2.getD j 0).toNat 0)) && true) := by
     unfold sameB kidsSame
     rw [decide_eq_true h1,decide_eq_true b1,decide_eq_true b2,decide_eq_true b3]
     simp
    rw [e]
    refine ev_all (L := fun f j => spec_sameClass.l0 f g now (i : Int) (k : Int) j) (n := (nd g i).f2.length) (p := fun j => decide (now.getD ((nd g i).f2.getD j 0).toNat 0 = now.getD ((nd g k).f2.getD j 0).toNat 0)) (fin := true) (fun j hj hp r hr => ?_) (fun j hj hp => ?_) ?_
    ·have k1 := kid_in hk hn hi hj
     have k2 := kid_in hk hn hki (j := j) (by omega)
     refine Ev.step (fun f => by simp only [spec_sameClass.l0];rw [if_pos (by omega),if_pos (by omega),if_pos (show ((j : Nat) : Int) < (((nd g i).f2.length : Nat) : Int) by omega),if_pos (by omega),rdN,if_pos k1.1,if_pos k1.2,if_pos (by omega),if_pos (by omega),if_pos (show ((j : Nat) : Int) < (((nd g k).f2.length : Nat) : Int) by omega),rdN,if_pos k2.1,if_pos k2.2,rdNat _ k1.1,rdNat _ k2.1,if_pos (of_decide_eq_true hp),w64s hj (by omega)]) hr
    ·have k1 := kid_in hk hn hi hj
     have k2 := kid_in hk hn hki (j := j) (by omega)
     refine Ev.step (fun f => by simp only [spec_sameClass.l0];rw [if_pos (by omega),if_pos (by omega),if_pos (show ((j : Nat) : Int) < (((nd g i).f2.length : Nat) : Int) by omega),if_pos (by omega),rdN,if_pos k1.1,if_pos k1.2,if_pos (by omega),if_pos (by omega),if_pos (show ((j : Nat) : Int) < (((nd g k).f2.length : Nat) : Int) by omega),rdN,if_pos k2.1,if_pos k2.2,rdNat _ k1.1,rdNat _ k2.1,if_neg (of_decide_eq_false hp)]) (Ev.now _)
    ·refine Ev.step (fun f => by simp only [spec_sameClass.l0];rw [if_pos (by omega),if_pos (by omega),if_neg (show ¬ (((nd g i).f2.length : Nat) : Int) < (((nd g i).f2.length : Nat) : Int) by omega)]) (Ev.now _)
  have ha : spec_alike.f (nd g i).f0 (nd g i).f1 (nd g i).f2 (nd g k).f0 (nd g k).f1 (nd g k).f2 = some (decide ((nd g i).f0 = (nd g k).f0) && (decide ((nd g i).f1 = (nd g k).f1) && decide ((nd g i).f2.length = (nd g k).f2.length))) := by
   have el : (((nd g i).f2.length : Int) == ((nd g k).f2.length : Int)) = decide ((nd g i).f2.length = (nd g k).f2.length) := by
    rw [Bool.eq_iff_iff,beq_iff_eq,decide_eq_true_eq]
    omega
   unfold spec_alike.f
   by_cases e0 : (nd g i).f0 = (nd g k).f0
   ·rw [if_pos e0,decide_eq_true e0]
    by_cases e1 : (nd g i).f1 = (nd g k).f1
    ·rw [if_pos e1,decide_eq_true e1,el]
     rfl
    ·rw [if_neg e1,decide_eq_false e1]
     rfl
   ·rw [if_neg e0,decide_eq_false e0]
    rfl
  exact Ev.bind0 ha (hj _ rfl)
 ·refine Ev.ite_neg h1 ?_
  refine Ev.step (fun f => by simp only [spec_sameClass.j0];rw [if_pos trivial]) (Ev.at (Ev.now _) ?_)
  unfold sameB
  rw [decide_eq_false h1]
  rfl
theorem spec_round_ev (hg : g.length ≤ 1000) (x4 : Int) (r : List Int) (h : Ev (fun f => spec_classes.l0 f g (newL g now g.length) (wrap64 (x4 + 1))) r) : Ev (fun f => spec_classes.l1 f g now x4 [] 0) r := by
 have h2 := ev_steps (L := fun f (b : List Int) i => spec_classes.l1 f g now x4 b i) (n := g.length) (fun i => newL g now i) (r := r) (fun i hi r hr => ?_) ?_
 ·exact h2
 ·refine Ev.step (fun f => by simp only [spec_classes.l1];rw [if_pos (by omega)]) ?_
  have key : ∀ d k,i - k = d → k ≤ i → (∀ j,j < k → sameB g now i j = false) → Ev (fun f => spec_classes.l2 f g now x4 (newL g now i) (i : Int) (k : Int)) r := by
   intro d
   induction d with
   | zero =>
    intro k hd hki hb
    obtain rfl : k = i := by omega
    refine Ev.step (fun f => by simp only [spec_classes.l2];rw [if_neg (by omega),newL_len,if_pos (by omega),w64s hi (by omega)]) ?_
    have e := newL_succ g now k
    rw [firstSame_none hb] at e
    rw [← e]
    exact hr
   | succ d ih =>
    intro k hd hki hb
    refine Ev.step (fun f => by simp only [spec_classes.l2];rw [if_pos (by omega)]) ?_
    refine Ev.bind (sameClass_ev hk hn hi (by omega)) ?_
    cases hs : sameB g now i k with
    | true =>
     refine Ev.ite_pos rfl (Ev.ite_pos (by omega) (Ev.ite_pos (by rw [newL_len];omega) (Ev.ite_pos (by rw [newL_len];omega) ?_)))
     rw [rdN,newL_at (by omega),firstSame_first hs hb,w64s hi (by omega)]
     have e := newL_succ g now i
     rw [firstSame_hit (by omega) hs hb] at e
     rw [← e]
     exact hr
    | false =>
     refine Ev.ite_neg (by decide) ?_
     rw [w64s (show k < g.length by omega) (by omega)]
     refine ih (k + 1) (by omega) (by omega) (fun j hj => ?_)
     rcases Nat.lt_or_ge j k with h | h
     ·exact hb j h
     ·obtain rfl : j = k := by omega
      exact hs
  exact key i 0 (by omega) (by omega) (fun j hj => by omega)
 ·exact Ev.step (fun f => by simp only [spec_classes.l1];rw [if_neg (by omega)]) h
theorem equalFunc_ev {i k : Nat} (hi : i < g.length) (hki : k < g.length) : Ev (fun f => slices_EqualFunc_int_int_int_int.f f (nd g i).f2 (nd g k).f2 now) (kidsSame now (nd g i).f2 (nd g k).f2) := by
 have hl1 := hk.few (i := (i : Int)) (by omega) (by omega)
 unfold slices_EqualFunc_int_int_int_int.f
 by_cases hl : (nd g i).f2.length = (nd g k).f2.length
 ·refine Ev.ite_pos (by omega) ?_
  have e : kidsSame now (nd g i).f2 (nd g k).f2 = ((List.range (nd g i).f2.length).all (fun j => decide (now.getD ((nd g i).f2.getD j 0).toNat 0 = now.getD ((nd g k).f2.getD j 0).toNat 0)) && true) := by
   unfold kidsSame
   rw [decide_eq_true hl]
   simp
  rw [e]
  have lit : ∀ j,j < (nd g i).f2.length → impl_classes_1.f (rd (nd g i).f2 (j : Int)) (rd (nd g k).f2 (j : Int)) now = some (decide (now.getD ((nd g i).f2.getD j 0).toNat 0 = now.getD ((nd g k).f2.getD j 0).toNat 0)) := by
   intro j hj
   have k1 := kid_in hk hn hi hj
   have k2 := kid_in hk hn hki (j := j) (by omega)
   unfold impl_classes_1.f
   rw [rdN,rdN,if_pos k1.1,if_pos k1.2,if_pos k2.1,if_pos k2.2,rdNat _ k1.1,rdNat _ k2.1]
   congr 1
  refine ev_all (L := fun f j => slices_EqualFunc_int_int_int_int.l0 f (nd g k).f2 now (nd g i).f2 ((nd g i).f2.length : Int) j) (n := (nd g i).f2.length) (p := fun j => decide (now.getD ((nd g i).f2.getD j 0).toNat 0 = now.getD ((nd g k).f2.getD j 0).toNat 0)) (fin := true) (fun j hj hp r hr => ?_) (fun j hj hp => ?_) ?_
  ·refine Ev.step (fun f => by simp only [slices_EqualFunc_int_int_int_int.l0];rw [if_pos (by omega),if_pos (by omega),if_pos (by omega),if_pos (by omega),lit j hj];simp only [Option.bind_some];rw [if_pos hp,w64s hj (by omega)]) hr
  ·refine Ev.step (fun f => by simp only [slices_EqualFunc_int_int_int_int.l0];rw [if_pos (by omega),if_pos (by omega),if_pos (by omega),if_pos (by omega),lit j hj];simp only [Option.bind_some];rw [if_neg (by simp only [hp];decide)]) (Ev.now _)
  ·refine Ev.step (fun f => by simp only [slices_EqualFunc_int_int_int_int.l0];rw [if_neg (by omega)]) (Ev.now _)
 ·refine Ev.ite_neg (by omega) (Ev.at (Ev.now _) ?_)
  unfold kidsSame
  rw [decide_eq_false hl]
  rfl
theorem impl_round_ev (hg : g.length ≤ 1000) (x15 x16 : Int) (r : List Int) (h : Ev (fun f => impl_classes.l0 f g x15 (wrap64 (x16 + 1)) (newL g now g.length)) r) : Ev (fun f => impl_classes.l1 f g [] x15 x16 g (g.length : Int) 0 now) r := by
 have h2 := ev_steps (L := fun f (b : List Int) i => impl_classes.l1 f g b x15 x16 g (g.length : Int) i now) (n := g.length) (fun i => newL g now i) (r := r) (fun i hi r hr => ?_) ?_
 ·exact h2
 ·have htl : (g.take i).length = i := by rw [List.length_take];omega
  refine Ev.step (fun f => by simp only [impl_classes.l1];rw [if_pos (by omega),if_pos (by omega),if_pos (by omega),if_pos (by omega)]) ?_
  refine Ev.bind0 rfl ?_
  rw [Int.toNat_natCast,htl]
  have key : ∀ d k,i - k = d → k ≤ i → (∀ j,j < k → sameB g now i j = false) → Ev (fun f => impl_classes.l2 f g (newL g now i) (i : Int) (i : Int) x15 x16 g (g.length : Int) (i : Int) (g.take i) (i : Int) (k : Int) now (nd g i).f0 (nd g i).f1 (nd g i).f2) r := by
   intro d
   induction d with
   | zero =>
    intro k hd hki hb
    obtain rfl : k = i := by omega
    refine Ev.step (fun f => by simp only [impl_classes.l2];rw [if_neg (by omega),newL_len,if_pos (by omega),w64s hi (by omega)]) ?_
    have e := newL_succ g now k
    rw [firstSame_none hb] at e
    rw [← e]
    exact hr
   | succ d ih =>
    intro k hd hki hb
    have hkl : k < g.length := by omega
    have ht : rd_T58 (g.take i) (k : Int) = nd g k := by
     rw [rdG]
     show (g.take i).getD k zNd = rd_T58 g (k : Int)
     rw [rdG,List.getD_eq_getElem?_getD,List.getD_eq_getElem?_getD,List.getElem?_take,if_pos (by omega)]
    have next : sameB g now i k = false → Ev (fun f => impl_classes.l2 f g (newL g now i) (i : Int) (i : Int) x15 x16 g (g.length : Int) (i : Int) (g.take i) (i : Int) (wrap64 ((k : Int) + 1)) now (nd g i).f0 (nd g i).f1 (nd g i).f2) r := by
     intro hs
     rw [w64s hkl (by omega)]
     refine ih (k + 1) (by omega) (by omega) (fun j hj => ?_)
     rcases Nat.lt_or_ge j k with h | h
     ·exact hb j h
     ·obtain rfl : j = k := by omega
      exact hs
    refine Ev.step (fun f => by simp only [impl_classes.l2];rw [if_pos (by omega),if_pos (by omega),htl,if_pos (by omega),if_pos (by omega),if_pos (by omega),if_pos (by omega),rdN,rdN,ht]) ?_
    by_cases e0 : now.getD k 0 = now.getD i 0
    ·refine Ev.ite_pos e0 ?_
     by_cases e1 : (nd g i).f0 = (nd g k).f0
     ·refine Ev.ite_pos e1 ?_
      by_cases e2 : (nd g i).f1 = (nd g k).f1
      ·refine Ev.ite_pos e2 (Ev.bind (equalFunc_ev hk hn hi hkl) ?_)
       have es : sameB g now i k = kidsSame now (nd g i).f2 (nd g k).f2 := by
        unfold sameB
        rw [decide_eq_true e0.symm,decide_eq_true e1,decide_eq_true e2]
        rfl
       cases hs : kidsSame now (nd g i).f2 (nd g k).f2 with
       | true =>
        rw [hs] at es
        refine Ev.ite_pos rfl (Ev.ite_pos (by rw [newL_len];omega) ?_)
        rw [w64s hi (by omega)]
        have e := newL_succ g now i
        rw [firstSame_hit (by omega) es hb] at e
        rw [← e]
        exact hr
       | false =>
        rw [hs] at es
        exact Ev.ite_neg (by decide) (next es)
      ·refine Ev.ite_neg e2 (next ?_)
       unfold sameB
       rw [decide_eq_false e2]
       simp
     ·refine Ev.ite_neg e1 (next ?_)
      unfold sameB
      rw [decide_eq_false e1]
      simp
    ·refine Ev.ite_neg e0 (next ?_)
     unfold sameB
     rw [decide_eq_false (fun z => e0 z.symm)]
     rfl
  exact key i 0 (by omega) (by omega) (fun j hj => by omega)
 ·exact Ev.step (fun f => by simp only [impl_classes.l1];rw [if_neg (by omega)]) h
end

theorem spec_classes_ev (g : List Nd) (hg : g.length ≤ 1000) (hk : KidsIn g) : Ev (fun f => spec_classes.f f g) (classesL g) := by
 unfold spec_classes.f
 refine Ev.ite_pos (by omega) (Ev.ite_pos (by omega) ?_)
 have h := ev_steps (L := fun f (b : List Int) i => spec_classes.l0 f g b i) (n := g.length + 1) (fun i => roundsL g i) (r := classesL g) (fun i hi r hr => ?_) ?_
 ·exact h
 ·refine Ev.step (fun f => by simp only [spec_classes.l0];rw [if_pos (by omega)]) (spec_round_ev hk (roundsL_len g i) hg _ _ ?_)
  rw [w64s hi (by omega)]
  exact hr
 ·exact Ev.step (f := fun _ => some (classesL g)) (fun f => by simp only [spec_classes.l0];rw [if_neg (by omega)];rfl) (Ev.now _)
theorem impl_classes_ev (g : List Nd) (hg : g.length ≤ 1000) (hk : KidsIn g) : Ev (fun f => impl_classes.f f g) (classesL g) := by
 unfold impl_classes.f
 refine Ev.ite_pos (by omega) (Ev.ite_pos (by omega) ?_)
 have e : wrap64 ((g.length : Int) + 1) = ((g.length + 1 : Nat) : Int) := by rw [w64 (by omega)];omega
 rw [e]
 have h := ev_steps (L := fun f (b : List Int) i => impl_classes.l0 f g ((g.length + 1 : Nat) : Int) i b) (n := g.length + 1) (fun i => roundsL g i) (r := classesL g) (fun i hi r hr => ?_) ?_
 ·exact h
 ·refine Ev.step (fun f => by simp only [impl_classes.l0];rw [if_pos (by omega)]) (impl_round_ev hk (roundsL_len g i) hg _ _ _ ?_)
  rw [w64s hi (by omega)]
  exact hr
 ·exact Ev.step (f := fun _ => some (classesL g)) (fun f => by simp only [impl_classes.l0];rw [if_neg (by omega)];rfl) (Ev.now _)
end Go.Proofs.Ytapaegcombfafaa.Q
