/- The code of a node: the reference's walk with the list of what was met, and the program's with its map, told at once. -/
import Derived.Test.YtfhakhbmbnbneaaHcircle
import Derived.Test.YtfhakhbmbnbneaaHtab
import Derived.Test.YtfhakhbmbnbneaaQ76
import Derived.Test.YtfhakhbmbnbneaaQ96
namespace Go.Proofs.Ytfhakhbmbnbneaa.Q
open Go.RowKit Go.Proofs.YtfhakhbmbnbneaaW.PrintWords
set_option linter.unusedVariables false
set_option linter.unusedSimpArgs false

/-- A map that holds the numbers of a list, each under its place. -/
def TabOf (met : List Int) (T : List (Int × Int)) : Prop := T.length = met.length ∧ ∀ i,T.lookup i = if i ∈ met then some (placeOf met i) else none
theorem placeOf_old {met : List Int} {i j : Int} (hj : j ∈ met) : placeOf (met ++ [i]) j = placeOf met j := by
 have h1 : met.idxOf j < met.length := List.idxOf_lt_length_iff.2 hj
 unfold placeOf
 rw [List.idxOf_append,if_pos hj,if_pos h1,if_pos (by rw [List.length_append];omega)]
theorem placeOf_new {met : List Int} {i : Int} (hi : i ∉ met) : placeOf (met ++ [i]) i = (met.length : Int) := by
 unfold placeOf
 rw [List.idxOf_append,if_neg hi]
 simp
theorem TabOf.nil : TabOf [] [] := ⟨rfl,fun i => by simp⟩
theorem TabOf.snoc {met : List Int} {T : List (Int × Int)} {i : Int} (h : TabOf met T) (hi : i ∉ met) : TabOf (met ++ [i]) (T ++ [(i,(T.length : Int))]) := by
 refine ⟨by simp [h.1],fun j => ?_⟩
 rw [lookup_snoc _ _ _ _ (by rw [h.2,if_neg hi])]
 by_cases hj : j = i
 ·subst hj
  rw [if_pos rfl,if_pos (by simp),placeOf_new hi,h.1]
 ·rw [if_neg hj,h.2]
  by_cases hm : j ∈ met
  ·rw [if_pos hm,if_pos (by simp [hm]),placeOf_old hm]
  ·rw [if_neg hm,if_neg (by simp [hm,hj])]

theorem copyInts_eq (l : List Int) (h : l.length < 17592186044416) : spec_copyInts.f l = some l := by
 unfold spec_copyInts.f
 rw [Option.bind_some,if_pos (by rw [List.length_nil];omega),List.nil_append]

def Leaf0 (g : List Nd) : Prop := ∀ i : Int,0 ≤ i → i < (g.length : Int) → (nd g i).f0 = 0 → (nd g i).f2 = []
theorem leaf0_of {g : List Nd} (h : ∀ i : Nat,i < g.length → nodeB g (nd g i) = true) : Leaf0 g := by
 intro i h0 h1 hz
 obtain ⟨n,rfl⟩ := Int.eq_ofNat_of_zero_le h0
 have := h n (by omega)
 unfold nodeB at this
 rw [if_pos hz] at this
 simp only [Bool.and_eq_true,decide_eq_true_eq] at this
 exact List.length_eq_zero_iff.1 this.2

/-- Both walks, from any node. -/
theorem code_both (g : List Nd) (root : Int) (hg : g.length ≤ 12) (hk : KidsIn g) (hl : Leaf0 g) : ∀ (d : Nat) (i : Int) (out met : List Int) (T : List (Int × Int)),free g.length met = d → 0 ≤ i → i < (g.length : Int) → TabOf met T → met.length + free g.length met ≤ 12 → out.length + 3 + 18 * free g.length met ≤ 1000000 →
  ∃ (r m : List Int) (T' : List (Int × Int)),Ev (fun k => spec_code.f k g root i out met) (r,m) ∧ Ev (fun k => impl_codesOf.walk k g i out T) (r,T') ∧ TabOf m T' ∧ free g.length m ≤ free g.length met ∧ m.length + free g.length m ≤ 12 ∧ r.length + 18 * free g.length m ≤ out.length + 3 + 18 * free g.length met := by
 intro d
 induction d using Nat.strongRecOn with
 | _ d ih =>
  intro i out met T hd h0 h1 hT hS hO
  have hkl := hk.few h0 h1
  by_cases hm : i ∈ met
  ·have hp := (placeOf_pos met i).2 hm
   refine ⟨out ++ [-1,placeOf met i],met,T,?_,?_,hT,Nat.le_refl _,hS,?_⟩
   ·refine Ev.step (fun k => by simp only [spec_code.f];rw [if_pos h0,if_pos h1]) ?_
    refine Ev.bind (placeIn_ev met i (by omega)) (Ev.ite_pos hp ?_)
    refine Ev.bind0 (copyInts_eq out (by omega)) ?_
    refine Ev.bind0 rfl (Ev.ite_pos ?_ (Ev.now _))
    simp only [List.length_cons,List.length_nil]
    omega
   ·refine Ev.step (fun k => by simp only [impl_codesOf.walk];rw [if_pos h0,if_pos h1,if_pos (by omega),hT.2,if_pos hm];simp only [Option.isSome_some,if_true,Option.getD_some]) (Ev.now _)
   ·simp only [List.length_append,List.length_cons,List.length_nil]
    omega
  ·have hf := free_add g.length met i h0 h1 hm
   have hp : ¬ placeOf met i ≥ 0 := fun z => hm ((placeOf_pos met i).1 z)
   have hnone : T.lookup i = none := by rw [hT.2,if_neg hm]
   have hTl := hT.1
   by_cases hz : (nd g i).f0 = 0
   ·have hkn := hl i h0 h1 hz
    refine ⟨out ++ [(nd g i).f0,(nd g i).f1,((nd g i).f2.length : Int)],met,T,?_,?_,hT,Nat.le_refl _,hS,?_⟩
    ·refine Ev.step (fun k => by simp only [spec_code.f];rw [if_pos h0,if_pos h1]) ?_
     refine Ev.bind (placeIn_ev met i (by omega)) (Ev.ite_neg hp ?_)
     refine Ev.bind0 (copyInts_eq out (by omega)) ?_
     refine Ev.bind0 rfl (Ev.ite_pos ?_ ?_)
     ·simp only [List.length_cons,List.length_nil]
      omega
     ·refine Ev.bind0 rfl (Ev.ite_pos hz ?_)
      refine Ev.step (fun k => by simp only [spec_code.l0];rw [if_neg (show ¬ (0 : Int) < (((nd g i).f2.length : Nat) : Int) by rw [hkn];exact Int.lt_irrefl 0)]) (Ev.now _)
    ·refine Ev.step (fun k => by simp only [impl_codesOf.walk];rw [if_pos h0,if_pos h1,if_pos (by omega),hnone]) (Ev.ite_neg (by simp) (Ev.ite_pos (by omega) (Ev.ite_pos hz ?_)))
     refine Ev.step (fun k => by simp only [impl_codesOf.kids];rw [if_neg (by rw [hkn];exact Int.lt_irrefl 0)]) (Ev.now _)
    ·simp only [List.length_append,List.length_cons,List.length_nil]
     omega
   ·have kids : ∀ (e j : Nat) (o2 m2 : List Int) (T2 : List (Int × Int)),(nd g i).f2.length - j = e → j ≤ (nd g i).f2.length → free g.length m2 < d → TabOf m2 T2 → m2.length + free g.length m2 ≤ 12 → o2.length + 3 * ((nd g i).f2.length - j) + 18 * free g.length m2 ≤ 1000000 →
      ∃ (r m : List Int) (T' : List (Int × Int)),Ev (fun k => spec_code.l0 k o2 m2 (j : Int) g root (nd g i).f0 (nd g i).f1 (nd g i).f2) (r,m) ∧ Ev (fun k => impl_codesOf.kids k g (nd g i).f2 (j : Int) o2 T2) (r,T') ∧ TabOf m T' ∧ free g.length m ≤ free g.length m2 ∧ m.length + free g.length m ≤ 12 ∧ r.length + 18 * free g.length m ≤ o2.length + 3 * ((nd g i).f2.length - j) + 18 * free g.length m2 := by
     intro e
     induction e with
     | zero =>
      intro j o2 m2 T2 he hj hm2 hT2 hS2 hO2
      obtain rfl : j = (nd g i).f2.length := by omega
      refine ⟨o2,m2,T2,?_,?_,hT2,Nat.le_refl _,hS2,by omega⟩
      ·exact Ev.step (fun k => by simp only [spec_code.l0];rw [if_neg (by omega)]) (Ev.now _)
      ·exact Ev.step (fun k => by simp only [impl_codesOf.kids];rw [if_neg (by omega)]) (Ev.now _)
     | succ e ihe =>
      intro j o2 m2 T2 he hj hm2 hT2 hS2 hO2
      have hjl : j < (nd g i).f2.length := by omega
      have hin := hk.mem h0 h1 (List.getElem_mem hjl)
      obtain ⟨r1,m1,T1,a1,a2,a3,a4,a5,a6⟩ := ih _ hm2 (nd g i).f2[j] o2 m2 T2 rfl hin.1 hin.2 hT2 hS2 (by omega)
      obtain ⟨r,m,T',b1,b2,b3,b4,b5,b6⟩ := ihe (j + 1) r1 m1 T1 (by omega) (by omega) (by omega) a3 a5 (by omega)
      refine ⟨r,m,T',?_,?_,b3,by omega,b5,by omega⟩
      ·refine Ev.step (fun k => by simp only [spec_code.l0];rw [if_pos (show (j : Int) < ((nd g i).f2.length : Int) by omega),if_pos (by omega),rdN,getD_lt 0 hjl,w64s hjl (by omega)]) ?_
       exact Ev.bind a1 b1
      ·refine Ev.step (fun k => by simp only [impl_codesOf.kids];rw [if_pos (by omega),if_pos (by omega),rdN,getD_lt 0 hjl,w64s hjl (by omega)]) ?_
       exact Ev.bind a2 b2
    have hlen : (met ++ [i]).length = met.length + 1 := by rw [List.length_append,List.length_singleton]
    have hout : (out ++ [(nd g i).f0,(nd g i).f1,((nd g i).f2.length : Int)]).length = out.length + 3 := by simp only [List.length_append,List.length_cons,List.length_nil]
    obtain ⟨r,m,T',b1,b2,b3,b4,b5,b6⟩ := kids _ 0 (out ++ [(nd g i).f0,(nd g i).f1,((nd g i).f2.length : Int)]) (met ++ [i]) (T ++ [(i,(T.length : Int))]) rfl (by omega) (by omega) (hT.snoc hm) (by omega) (by omega)
    refine ⟨r,m,T',?_,?_,b3,by omega,b5,by omega⟩
    ·refine Ev.step (fun k => by simp only [spec_code.f];rw [if_pos h0,if_pos h1]) ?_
     refine Ev.bind (placeIn_ev met i (by omega)) (Ev.ite_neg hp ?_)
     refine Ev.bind0 (copyInts_eq out (by omega)) ?_
     refine Ev.bind0 rfl (Ev.ite_pos ?_ ?_)
     ·simp only [List.length_cons,List.length_nil]
      omega
     ·refine Ev.bind0 rfl (Ev.ite_neg hz ?_)
      refine Ev.bind0 (copyInts_eq met (by omega)) (Ev.ite_pos (by omega) ?_)
      exact b1
    ·refine Ev.step (fun k => by simp only [impl_codesOf.walk];rw [if_pos h0,if_pos h1,if_pos (by omega),hnone]) (Ev.ite_neg (by simp) (Ev.ite_pos (by omega) (Ev.ite_neg hz ?_)))
     exact b2
end Go.Proofs.Ytfhakhbmbnbneaa.Q
