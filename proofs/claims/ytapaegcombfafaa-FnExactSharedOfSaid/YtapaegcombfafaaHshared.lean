/- How often nodes are used: the reference's counts and the program's. -/
import Derived.Test.YtapaegcombfafaaHreach
import Derived.Test.YtapaegcombfafaaQ24
import Derived.Test.YtapaegcombfafaaQ25
import Derived.Test.YtapaegcombfafaaQ84
namespace Go.Proofs.Ytapaegcombfafaa.Q
open Go.RowKit Go.Proofs.YtapaegcombfafaaW.PrintWords
set_option linter.unusedVariables false
set_option linter.unusedSimpArgs false

def bump (u : List Int) (k : Int) : List Int := u.set k.toNat (wrap64 (u.getD k.toNat 0 + 1))
theorem bump_len (u : List Int) (k : Int) : (bump u k).length = u.length := by simp [bump]
def bumpAll (u : List Int) (q : List Int) : List Int := q.foldl bump u
theorem bumpAll_len (u q : List Int) : (bumpAll u q).length = u.length := by
 unfold bumpAll
 induction q generalizing u with
 | nil => rfl
 | cons k q ih => rw [List.foldl_cons,ih,bump_len]
theorem bumpAll_succ (u q : List Int) (j : Nat) (hj : j < q.length) : bumpAll u (q.take (j + 1)) = bump (bumpAll u (q.take j)) q[j] := by
 unfold bumpAll
 rw [List.take_succ_eq_append_getElem hj,List.foldl_append]
 rfl
def usesL (g : List Nd) (u list : List Int) : List Int := list.foldl (fun u i => bumpAll u (nd g i).f2) u
theorem usesL_len (g : List Nd) (u list : List Int) : (usesL g u list).length = u.length := by
 unfold usesL
 induction list generalizing u with
 | nil => rfl
 | cons k q ih => rw [List.foldl_cons,ih,bumpAll_len]
theorem usesL_succ (g : List Nd) (u list : List Int) (i : Nat) (hi : i < list.length) : usesL g u (list.take (i + 1)) = bumpAll (usesL g u (list.take i)) (nd g list[i]).f2 := by
 unfold usesL
 rw [List.take_succ_eq_append_getElem hi,List.foldl_append]
 rfl
theorem rdInt (l : List Int) {x : Int} (h : 0 ≤ x) : rd l x = l.getD x.toNat 0 := by
 obtain ⟨n,rfl⟩ := Int.eq_ofNat_of_zero_le h
 rw [rdN,Int.toNat_natCast]
/-- The first of the nodes that are used more than once. -/
def sharedL (g : List Nd) (u : List Int) (i : Nat) : List Int := ((List.range i).filter (fun (j : Nat) => decide (u.getD j 0 > 1) && !decide ((nd g (j : Int)).f0 = 0))).map (fun (j : Nat) => (j : Int))
theorem sharedL_len (g : List Nd) (u : List Int) (i : Nat) : (sharedL g u i).length ≤ i := by
 unfold sharedL
 rw [List.length_map]
 exact Nat.le_trans (List.length_filter_le _ _) (by simp)
theorem sharedL_yes {g : List Nd} {u : List Int} {i : Nat} (h1 : u.getD i 0 > 1) (h2 : ¬ (nd g (i : Int)).f0 = 0) : sharedL g u (i + 1) = sharedL g u i ++ [(i : Int)] := by
 unfold sharedL
 rw [List.range_succ,List.filter_append,List.map_append]
 congr 1
 simp only [List.filter_cons,List.filter_nil,decide_eq_true h1,decide_eq_false h2]
 rfl
theorem sharedL_no {g : List Nd} {u : List Int} {i : Nat} (h : ¬ (u.getD i 0 > 1 ∧ ¬ (nd g (i : Int)).f0 = 0)) : sharedL g u (i + 1) = sharedL g u i := by
 unfold sharedL
 rw [List.range_succ,List.filter_append,List.map_append]
 have e : (decide (u.getD i 0 > 1) && !decide ((nd g (i : Int)).f0 = 0)) = false := by
  cases hb : (decide (u.getD i 0 > 1) && !decide ((nd g (i : Int)).f0 = 0)) with
  | false => rfl
  | true =>
   simp only [Bool.and_eq_true,decide_eq_true_eq,Bool.not_eq_true',decide_eq_false_iff_not] at hb
   exact absurd hb h
 simp only [List.filter_cons,List.filter_nil,e]
 simp
section
variable (g : List Nd) (r : Int) (list : List Int) (hk : KidsIn g) (hl : list.length ≤ 12) (hin : ∀ x ∈ list,0 ≤ x ∧ x < (g.length : Int))
include hk hl hin
theorem spec_uses_loop (u : List Int) (hu : u.length = g.length) : Ev (fun k => spec_uses.l0 k u list 0 g r) (usesL g u list) := by
 have h := ev_steps (L := fun k (b : List Int) i => spec_uses.l0 k b list i g r) (n := list.length) (fun i => usesL g u (list.take i)) (r := usesL g u list) (fun i hi q hq => ?_) ?_
 ·simpa [usesL] using h
 ·have hx := hin list[i] (List.getElem_mem hi)
  have hf := hk.few hx.1 hx.2
  refine Ev.step (fun k => by simp only [spec_uses.l0];rw [if_pos (by omega)]) ?_
  have h2 := ev_steps (L := fun k (b : List Int) j => spec_uses.l1 k b list (i : Int) j g r) (n := (nd g list[i]).f2.length) (fun j => bumpAll (usesL g u (list.take i)) ((nd g list[i]).f2.take j)) (r := q) (fun j hj q2 hq2 => ?_) ?_
  ·simpa [bumpAll] using h2
  ·have hm := hk.mem hx.1 hx.2 (List.getElem_mem hj)
   have hb : (bumpAll (usesL g u (list.take i)) ((nd g list[i]).f2.take j)).length = g.length := by rw [bumpAll_len,usesL_len,hu]
   refine Ev.step (fun k => by simp only [spec_uses.l1];rw [if_pos (by omega),if_pos (by omega),rdN,getD_lt 0 hi,if_pos hx.1,if_pos hx.2,if_pos (show ((j : Nat) : Int) < (((nd g list[i]).f2.length : Nat) : Int) by omega),if_pos (by omega),rdN,getD_lt 0 hj,if_pos hm.1,hb,if_pos hm.2,w64s hj (by omega),rdInt _ hm.1]) ?_
   rw [bumpAll_succ _ _ _ hj] at hq2
   exact hq2
  ·refine Ev.step (fun k => by simp only [spec_uses.l1];rw [if_pos (by omega),if_pos (by omega),rdN,getD_lt 0 hi,if_pos hx.1,if_pos hx.2,if_neg (show ¬ (((nd g list[i]).f2.length : Nat) : Int) < (((nd g list[i]).f2.length : Nat) : Int) by omega),w64s hi (by omega),List.take_length]) ?_
   rw [usesL_succ _ _ _ _ hi] at hq
   exact hq
 ·exact Ev.step (fun k => by simp only [spec_uses.l0];rw [if_neg (by omega)]) (Ev.at (Ev.now _) (by rw [List.take_length]))
theorem impl_uses_loop (u : List Int) (hu : u.length = g.length) (q : List Int) (hq : Ev (fun k => impl_SharedOf.l2 k [] (usesL g u list) (g.length : Int) 0 g r) q) : Ev (fun k => impl_SharedOf.l0 k u list (list.length : Int) 0 g r) q := by
 have h := ev_steps (L := fun k (b : List Int) i => impl_SharedOf.l0 k b list (list.length : Int) i g r) (n := list.length) (fun i => usesL g u (list.take i)) (r := q) (fun i hi q hq => ?_) ?_
 ·simpa [usesL] using h
 ·have hx := hin list[i] (List.getElem_mem hi)
  have hf := hk.few hx.1 hx.2
  refine Ev.step (fun k => by simp only [impl_SharedOf.l0];rw [if_pos (by omega),if_pos (by omega),if_pos (by omega),rdN,getD_lt 0 hi,if_pos hx.1,if_pos hx.2]) ?_
  have h2 := ev_steps (L := fun k (b : List Int) j => impl_SharedOf.l1 k b list (list.length : Int) (i : Int) (nd g list[i]).f2 ((nd g list[i]).f2.length : Int) j g r) (n := (nd g list[i]).f2.length) (fun j => bumpAll (usesL g u (list.take i)) ((nd g list[i]).f2.take j)) (r := q) (fun j hj q2 hq2 => ?_) ?_
  ·simpa [bumpAll] using h2
  ·have hm := hk.mem hx.1 hx.2 (List.getElem_mem hj)
   have hb : (bumpAll (usesL g u (list.take i)) ((nd g list[i]).f2.take j)).length = g.length := by rw [bumpAll_len,usesL_len,hu]
   refine Ev.step (fun k => by simp only [impl_SharedOf.l1];rw [if_pos (by omega),if_pos (by omega),if_pos (by omega),rdN,getD_lt 0 hj,if_pos hm.1,hb,if_pos hm.2,w64s hj (by omega),rdInt _ hm.1]) ?_
   rw [bumpAll_succ _ _ _ hj] at hq2
   exact hq2
  ·refine Ev.step (fun k => by simp only [impl_SharedOf.l1];rw [if_neg (by omega),w64s hi (by omega),List.take_length]) ?_
   rw [usesL_succ _ _ _ _ hi] at hq
   exact hq
 ·refine Ev.step (fun k => by simp only [impl_SharedOf.l0];rw [if_neg (by omega),List.take_length,usesL_len,hu]) hq
end
theorem spec_shared_loop (g : List Nd) (r : Int) (u : List Int) (hg : g.length ≤ 12) (hu : u.length = g.length) : Ev (fun k => spec_SharedOf.l0 k [] u 0 g r) (sharedL g u g.length) := by
 have h := ev_steps (L := fun k (b : List Int) i => spec_SharedOf.l0 k b u i g r) (n := g.length) (fun i => sharedL g u i) (r := sharedL g u g.length) (fun i hi q hq => ?_) ?_
 ·exact h
 ·have hs := sharedL_len g u i
  refine Ev.step (fun k => by simp only [spec_SharedOf.l0];rw [if_pos (by omega),if_pos (by omega),rdN]) ?_
  by_cases h1 : u.getD i 0 > 1
  ·refine Ev.ite_pos h1 (Ev.ite_pos (by omega) ?_)
   by_cases h2 : (nd g (i : Int)).f0 = 0
   ·refine Ev.ite_pos h2 ?_
    rw [w64s hi (by omega)]
    rw [sharedL_no (fun z => z.2 h2)] at hq
    exact hq
   ·refine Ev.ite_neg h2 (Ev.ite_pos (by omega) ?_)
    rw [w64s hi (by omega)]
    rw [sharedL_yes h1 h2] at hq
    exact hq
  ·refine Ev.ite_neg h1 ?_
   rw [w64s hi (by omega)]
   rw [sharedL_no (fun z => h1 z.1)] at hq
   exact hq
 ·exact Ev.step (fun k => by simp only [spec_SharedOf.l0];rw [if_neg (by omega)]) (Ev.now _)
theorem impl_shared_loop (g : List Nd) (r : Int) (u : List Int) (hg : g.length ≤ 12) (hu : u.length = g.length) : Ev (fun k => impl_SharedOf.l2 k [] u (g.length : Int) 0 g r) (sharedL g u g.length) := by
 have h := ev_steps (L := fun k (b : List Int) i => impl_SharedOf.l2 k b u (g.length : Int) i g r) (n := g.length) (fun i => sharedL g u i) (r := sharedL g u g.length) (fun i hi q hq => ?_) ?_
 ·exact h
 ·have hs := sharedL_len g u i
  refine Ev.step (fun k => by simp only [impl_SharedOf.l2];rw [if_pos (by omega),if_pos (by omega),if_pos (by omega),rdN]) ?_
  by_cases h1 : u.getD i 0 > 1
  ·refine Ev.ite_pos h1 (Ev.ite_pos (by omega) ?_)
   by_cases h2 : (nd g (i : Int)).f0 = 0
   ·refine Ev.ite_pos h2 ?_
    rw [w64s hi (by omega)]
    rw [sharedL_no (fun z => z.2 h2)] at hq
    exact hq
   ·refine Ev.ite_neg h2 (Ev.ite_pos (by omega) ?_)
    rw [w64s hi (by omega)]
    rw [sharedL_yes h1 h2] at hq
    exact hq
  ·refine Ev.ite_neg h1 ?_
   rw [w64s hi (by omega)]
   rw [sharedL_no (fun z => h1 z.1)] at hq
   exact hq
 ·exact Ev.step (fun k => by simp only [impl_SharedOf.l2];rw [if_neg (by omega)]) (Ev.now _)
theorem shared_both (g : List Nd) (r : Int) (hg : g.length ≤ 12) (hk : KidsIn g) (h0 : 0 ≤ r) (h1 : r < (g.length : Int)) :
  ∃ q : List Int,Ev (fun k => (spec_uses.f k g r).bind fun t => spec_SharedOf.l0 k [] t 0 g r) q ∧ Ev (fun k => (impl_reachOf.f k g r).bind fun t => impl_SharedOf.l0 k ((List.replicate g.length (0 : Int)).set r.toNat 1) t (t.length : Int) 0 g r) q ∧ q.length ≤ 12 := by
 obtain ⟨list,a1,a2,a3,a4,a5,a6,_⟩ := reach_root g r hg hk h0 h1
 have hu : ((List.replicate g.length (0 : Int)).set r.toNat 1).length = g.length := by simp
 have hu2 : (usesL g ((List.replicate g.length (0 : Int)).set r.toNat 1) list).length = g.length := by rw [usesL_len,hu]
 have hs := sharedL_len g (usesL g ((List.replicate g.length (0 : Int)).set r.toNat 1) list) g.length
 refine ⟨sharedL g (usesL g ((List.replicate g.length (0 : Int)).set r.toNat 1) list) g.length,?_,?_,by omega⟩
 ·refine Ev.bind (a := usesL g ((List.replicate g.length (0 : Int)).set r.toNat 1) list) ?_ (spec_shared_loop g r _ hg hu2)
  unfold spec_uses.f
  refine Ev.ite_pos (by omega) (Ev.ite_pos (by omega) (Ev.bind0 rfl (Ev.ite_pos h0 (Ev.ite_pos (by simp;omega) (Ev.bind a1 ?_)))))
  rw [Int.toNat_natCast]
  exact spec_uses_loop g r list hk a3 a5 _ hu
 ·exact Ev.bind a2 (impl_uses_loop g r list hk a3 a5 _ hu _ (impl_shared_loop g r _ hg hu2))
end Go.Proofs.Ytapaegcombfafaa.Q
