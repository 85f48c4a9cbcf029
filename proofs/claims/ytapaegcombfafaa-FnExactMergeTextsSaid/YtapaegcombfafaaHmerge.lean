/- Equal texts as one node: the reference's nodes and the program's. -/
import Derived.Test.YtapaegcombfafaaHcopy
import Derived.Test.YtapaegcombfafaaHmapped
import Derived.Test.YtapaegcombfafaaQ33
import Derived.Test.YtapaegcombfafaaQ34
import Derived.Test.YtapaegcombfafaaQ58
import Derived.Test.YtapaegcombfafaaQ61
namespace Go.Proofs.Ytapaegcombfafaa.Q
open Go.RowKit Go.Proofs.YtapaegcombfafaaW.PrintWords
set_option linter.unusedVariables false
set_option linter.unusedSimpArgs false

/-- Is node j a text equal to the text i? -/
def textB (g : List Nd) (i j : Nat) : Bool := decide ((nd g (j : Int)).f0 = 1) && decide ((nd g (j : Int)).f1 = (nd g (i : Int)).f1)
/-- The first text equal to node i, if that is a text; else i. -/
def firstT (g : List Nd) (i : Nat) : Nat := if (nd g (i : Int)).f0 = 1 then ((List.range i).find? (textB g i)).getD i else i
theorem firstT_hit {g : List Nd} {i k : Nat} (hi : (nd g (i : Int)).f0 = 1) (hk : k < i) (hs : textB g i k = true) (hb : ∀ j,j < k → textB g i j = false) : firstT g i = k := by
 have h : (List.range i).find? (textB g i) = some k := by
  rw [List.find?_eq_some_iff_getElem]
  exact ⟨hs,k,by rw [List.length_range];exact hk,by simp,fun j hj => by simp only [List.getElem_range,Bool.not_eq_true'];exact hb j hj⟩
 unfold firstT
 rw [if_pos hi,h]
 rfl
theorem firstT_none {g : List Nd} {i : Nat} (hi : (nd g (i : Int)).f0 = 1) (hb : ∀ j,j < i → textB g i j = false) : firstT g i = i := by
 have h : (List.range i).find? (textB g i) = none := by
  rw [List.find?_eq_none]
  intro j hj
  rw [hb j (List.mem_range.1 hj)]
  decide
 unfold firstT
 rw [if_pos hi,h]
 rfl
theorem firstT_le (g : List Nd) (i : Nat) : firstT g i ≤ i := by
 unfold firstT
 split
 ·cases h : (List.range i).find? (textB g i) with
  | none => exact Nat.le_refl _
  | some k =>
   have := List.mem_range.1 (List.mem_of_find?_eq_some h)
   show k ≤ i
   omega
 ·exact Nat.le_refl _
theorem firstText_ev (g : List Nd) (r : Int) (i : Nat) (hg : g.length ≤ 1000) (hi : i < g.length) : Ev (fun k => spec_firstText.f k g r (i : Int)) ((firstT g i : Nat) : Int) := by
 unfold spec_firstText.f
 refine Ev.ite_pos (by omega) (Ev.ite_pos (by omega) ?_)
 by_cases ht : (nd g (i : Int)).f0 = 1
 ·refine Ev.ite_pos ht ?_
  have key : ∀ d k,i - k = d → k ≤ i → (∀ j,j < k → textB g i j = false) → Ev (fun f => spec_firstText.l0 f (i : Int) (k : Int) g r) ((firstT g i : Nat) : Int) := by
   intro d
   induction d with
   | zero =>
    intro k hd hki hb
    obtain rfl : k = i := by omega
    refine Ev.step (fun f => by simp only [spec_firstText.l0];rw [if_neg (by omega)]) (Ev.at (Ev.now _) ?_)
    rw [firstT_none ht hb]
   | succ d ih =>
    intro k hd hki hb
    have hk : spec_sameKey.f (nd g k).f0 (nd g k).f1 (nd g k).f2 (nd g i).f0 (nd g i).f1 (nd g i).f2 = some (textB g i k) := by
     unfold spec_sameKey.f textB
     rw [ht]
     by_cases e0 : (nd g (k : Int)).f0 = 1
     ·rw [if_pos e0,decide_eq_true e0]
      rfl
     ·rw [if_neg e0,decide_eq_false e0]
      rfl
    refine Ev.step (fun f => by simp only [spec_firstText.l0];rw [if_pos (by omega),if_pos (by omega),if_pos (by omega),if_pos (by omega),if_pos (by omega)]) ?_
    refine Ev.bind0 hk ?_
    cases hs : textB g i k with
    | true => exact Ev.ite_pos rfl (Ev.at (Ev.now _) (by rw [firstT_hit ht (by omega) hs hb]))
    | false =>
     refine Ev.ite_neg (by decide) ?_
     rw [w64s (show k < g.length by omega) (by omega)]
     refine ih (k + 1) (by omega) (by omega) (fun j hj => ?_)
     rcases Nat.lt_or_ge j k with h | h
     ·exact hb j h
     ·obtain rfl : j = k := by omega
      exact hs
  exact key i 0 (by omega) (by omega) (fun j hj => by omega)
 ·refine Ev.ite_neg ht (Ev.at (Ev.now _) ?_)
  unfold firstT
  rw [if_neg ht]
theorem indexText_ev (g : List Nd) (i : Nat) (hg : g.length ≤ 1000) (hi : i < g.length) (ht : (nd g (i : Int)).f0 = 1) : Ev (fun k => impl_Node_63.f k g (nd g (i : Int)).f1) ((firstT g i : Nat) : Int) := by
 unfold impl_Node_63.f
 have lit : ∀ k : Nat,impl_MergeTexts_1.f (nd g k).f0 (nd g k).f1 (nd g k).f2 (nd g i).f1 = some (textB g i k) := by
  intro k
  unfold impl_MergeTexts_1.f textB
  by_cases e0 : (nd g (k : Int)).f0 = 1
  ·rw [if_pos e0,decide_eq_true e0]
   rfl
  ·rw [if_neg e0,decide_eq_false e0]
   rfl
 have hself : textB g i i = true := by
  unfold textB
  rw [decide_eq_true ht,decide_eq_true rfl]
  rfl
 have key : ∀ d k,i - k = d → k ≤ i → (∀ j,j < k → textB g i j = false) → Ev (fun f => impl_Node_63.l0 f g (nd g (i : Int)).f1 (g.length : Int) (k : Int)) ((firstT g i : Nat) : Int) := by
  intro d
  induction d with
  | zero =>
   intro k hd hki hb
   obtain rfl : k = i := by omega
   refine Ev.step (fun f => by simp only [impl_Node_63.l0];rw [if_pos (by omega),if_pos (by omega),if_pos (by omega)]) ?_
   refine Ev.bind0 (lit k) ?_
   rw [hself]
   exact Ev.ite_pos rfl (Ev.at (Ev.now _) (by rw [firstT_none ht hb]))
  | succ d ih =>
   intro k hd hki hb
   refine Ev.step (fun f => by simp only [impl_Node_63.l0];rw [if_pos (by omega),if_pos (by omega),if_pos (by omega)]) ?_
   refine Ev.bind0 (lit k) ?_
   cases hs : textB g i k with
   | true => exact Ev.ite_pos rfl (Ev.at (Ev.now _) (by rw [firstT_hit ht (by omega) hs hb]))
   | false =>
    refine Ev.ite_neg (by decide) ?_
    rw [w64s (show k < g.length by omega) (by omega)]
    refine ih (k + 1) (by omega) (by omega) (fun j hj => ?_)
    rcases Nat.lt_or_ge j k with h | h
    ·exact hb j h
    ·obtain rfl : j = k := by omega
     exact hs
 exact key i 0 (by omega) (by omega) (fun j hj => by omega)
def firstTL (g : List Nd) (n : Nat) : List Int := (List.range n).map (fun i => ((firstT g i : Nat) : Int))
theorem firstTL_len (g : List Nd) (n : Nat) : (firstTL g n).length = n := by simp [firstTL]
theorem firstTL_succ (g : List Nd) (n : Nat) : firstTL g (n + 1) = firstTL g n ++ [((firstT g n : Nat) : Int)] := by simp [firstTL,List.range_succ]
theorem firstTL_at {g : List Nd} {n : Nat} {k : Int} (h0 : 0 ≤ k) (h1 : k < (n : Int)) : (firstTL g n).getD k.toNat 0 = ((firstT g k.toNat : Nat) : Int) := by
 rw [getD_lt 0 (by rw [firstTL_len];omega)]
 simp [firstTL]
def mergedN (g : List Nd) (x : Nd) : Nd := mappedN (firstTL g g.length) x
theorem rdInt' (l : List Int) {x : Int} (h : 0 ≤ x) : rd l x = l.getD x.toNat 0 := by
 obtain ⟨n,rfl⟩ := Int.eq_ofNat_of_zero_le h
 rw [rdN,Int.toNat_natCast]
theorem impl_merge_ev (g : List Nd) (r : Int) (hg : g.length ≤ 12) (hk : KidsIn g) (h0 : 0 ≤ r) (h1 : r < (g.length : Int)) : Ev (fun k => impl_MergeTexts.l0 k [] g (g.length : Int) 0 g r) (g.map (mergedN g),((firstT g r.toNat : Nat) : Int)) := by
 have fin : Ev (fun k => impl_MergeTexts.l1 k (firstTL g g.length) g (g.length : Int) 0 [] ((firstT g r.toNat : Nat) : Int)) (g.map (mergedN g),((firstT g r.toNat : Nat) : Int)) := by
  have h := ev_steps (L := fun k (b : List Nd) i => impl_MergeTexts.l1 k (firstTL g g.length) g (g.length : Int) i b ((firstT g r.toNat : Nat) : Int)) (n := g.length) (fun i => (g.map (mergedN g)).take i) (r := (g.map (mergedN g),((firstT g r.toNat : Nat) : Int))) (fun i hi q hq => ?_) ?_
  ·simpa using h
  ·have hf := hk.few (i := (i : Int)) (by omega) (by omega)
   have hl : (g.map (mergedN g)).length = g.length := by simp
   refine Ev.step (fun k => by simp only [impl_MergeTexts.l1];rw [if_pos (by omega),if_pos (by omega),if_pos (by omega)]) ?_
   refine Ev.bind (mapped_ev (nd g i) (firstTL g g.length) (by omega) (fun k hk2 => by rw [firstTL_len];exact hk.mem (i := (i : Int)) (by omega) (by omega) hk2)) ?_
   refine Ev.ite_pos (by rw [List.length_take];omega) ?_
   rw [w64s hi (by omega)]
   refine Ev.congr (fun k => ?_) hq
   congr 1
   rw [take_getD zNd (by omega)]
   congr 2
   rw [getD_lt zNd (by omega),List.getElem_map]
   have e : nd g (i : Int) = g[i] := by
    show rd_T58 g (i : Int) = _
    rw [rdG,getD_lt zNd hi]
   rw [e]
   rfl
  ·refine Ev.step (fun k => by simp only [impl_MergeTexts.l1];rw [if_neg (by omega)]) (Ev.at (Ev.now _) ?_)
   rw [show g.length = (g.map (mergedN g)).length by simp,List.take_length]
 have h := ev_steps (L := fun k (b : List Int) i => impl_MergeTexts.l0 k b g (g.length : Int) i g r) (n := g.length) (fun i => firstTL g i) (r := (g.map (mergedN g),((firstT g r.toNat : Nat) : Int))) (fun i hi q hq => ?_) ?_
 ·exact h
 ·have hl := firstTL_len g i
  rw [firstTL_succ] at hq
  refine Ev.step (fun k => by simp only [impl_MergeTexts.l0];rw [if_pos (by omega),if_pos (by omega),if_pos (by omega)]) ?_
  by_cases ht : (nd g (i : Int)).f0 = 1
  ·refine Ev.ite_pos ht (Ev.bind (indexText_ev g i (by omega) hi ht) (Ev.ite_pos (by omega) ?_))
   rw [w64s hi (by omega)]
   exact hq
  ·refine Ev.ite_neg ht (Ev.ite_pos (by omega) ?_)
   rw [w64s hi (by omega)]
   have e : firstT g i = i := by
    unfold firstT
    rw [if_neg ht]
   rw [e] at hq
   exact hq
 ·refine Ev.step (fun k => by simp only [impl_MergeTexts.l0];rw [if_neg (by omega),if_pos h0,firstTL_len,if_pos h1,rdInt' _ h0,firstTL_at h0 h1]) fin
theorem spec_merge_ev (g : List Nd) (r : Int) (hg : g.length ≤ 12) (hk : KidsIn g) (h0 : 0 ≤ r) (h1 : r < (g.length : Int)) : Ev (fun k => spec_MergeTexts.l0 k 0 g r g r) (g.map (mergedN g),((firstT g r.toNat : Nat) : Int)) := by
 obtain ⟨rn,rfl⟩ := Int.eq_ofNat_of_zero_le h0
 have hmix : ∀ i : Nat,((g.map (mergedN g)).take i ++ g.drop i).length = g.length ∨ g.length < i := by
  intro i
  rcases Nat.lt_or_ge g.length i with h | h
  ·exact .inr h
  ·exact .inl (by simp;omega)
 have h := ev_steps (L := fun k (b : List Nd) i => spec_MergeTexts.l0 k i g (rn : Int) b (rn : Int)) (n := g.length) (fun i => (g.map (mergedN g)).take i ++ g.drop i) (r := (g.map (mergedN g),((firstT g ((rn : Nat) : Int).toNat : Nat) : Int))) (fun i hi q hq => ?_) ?_
 ·simpa using h
 ·have hl : ((g.map (mergedN g)).take i ++ g.drop i).length = g.length := (hmix i).resolve_right (by omega)
  have hf := hk.few (i := (i : Int)) (by omega) (by omega)
  refine Ev.step (fun k => by simp only [spec_MergeTexts.l0];rw [if_pos (by omega)]) ?_
  have e : nd g (i : Int) = g[i] := by
   show rd_T58 g (i : Int) = _
   rw [rdG,getD_lt zNd hi]
  have hm : (mergedN g g[i]).f2.length = g[i].f2.length := by simp [mergedN,mappedN]
  -- one row of kids: the first j of them told anew
  have mid : ∀ j : Nat,j ≤ g[i].f2.length → (((g.map (mergedN g)).take i ++ (⟨g[i].f0,g[i].f1,(mergedN g g[i]).f2.take j ++ g[i].f2.drop j⟩ : Nd) :: g.drop (i + 1)).length = g.length ∧ rd_T58 ((g.map (mergedN g)).take i ++ (⟨g[i].f0,g[i].f1,(mergedN g g[i]).f2.take j ++ g[i].f2.drop j⟩ : Nd) :: g.drop (i + 1)) (i : Int) = ⟨g[i].f0,g[i].f1,(mergedN g g[i]).f2.take j ++ g[i].f2.drop j⟩) := by
   intro j hj
   have ht : ((g.map (mergedN g)).take i).length = i := by simp;omega
   refine ⟨by rw [List.length_append,ht,List.length_cons,List.length_drop];omega,?_⟩
   rw [rdG,List.getD_eq_getElem?_getD,List.getElem?_append_right (by omega),ht,Nat.sub_self]
   rfl
  have h2 := ev_steps (L := fun k (b : List Int) j => spec_MergeTexts.l1 k (i : Int) j g (rn : Int) ((g.map (mergedN g)).take i ++ (⟨g[i].f0,g[i].f1,b⟩ : Nd) :: g.drop (i + 1)) (rn : Int)) (n := g[i].f2.length) (fun j => (mergedN g g[i]).f2.take j ++ g[i].f2.drop j) (r := q) (fun j hj q2 hq2 => ?_) ?_
  ·have e0 : (g.map (mergedN g)).take i ++ g.drop i = (g.map (mergedN g)).take i ++ (⟨g[i].f0,g[i].f1,g[i].f2⟩ : Nd) :: g.drop (i + 1) := by
    rw [List.drop_eq_getElem_cons hi]
   rw [e0]
   simpa using h2
  ·obtain ⟨m1,m2⟩ := mid j (by omega)
   have hrow : ((mergedN g g[i]).f2.take j ++ g[i].f2.drop j).length = g[i].f2.length := by simp;omega
   have hkid := hk.mem (i := (i : Int)) (by omega) (by omega) (x := g[i].f2[j]) (by rw [e];exact List.getElem_mem hj)
   obtain ⟨kn,hkn⟩ := Int.eq_ofNat_of_zero_le hkid.1
   have hat : rd ((mergedN g g[i]).f2.take j ++ g[i].f2.drop j) (j : Int) = (kn : Int) := by
    rw [rdN,List.getD_eq_getElem?_getD,List.getElem?_append_right (by simp;omega)]
    have : ((mergedN g g[i]).f2.take j).length = j := by simp;omega
    rw [this,Nat.sub_self,List.getElem?_drop,Nat.add_zero,List.getElem?_eq_getElem hj,Option.getD_some,hkn]
   refine Ev.step (fun k => by simp only [spec_MergeTexts.l1];rw [if_pos (by omega),m1,if_pos (by omega),m2]) ?_
   dsimp only
   rw [hrow,hat]
   refine Ev.ite_pos (by omega) (Ev.ite_pos (by omega) ?_)
   refine Ev.bind (firstText_ev g (rn : Int) kn (by omega) (by omega)) ?_
   rw [w64s hj (by rw [← e];omega)]
   refine Ev.congr (fun k => ?_) hq2
   congr 1
   have ht : ((g.map (mergedN g)).take i).length = i := by simp;omega
   rw [Int.toNat_natCast,List.set_append_right _ _ (by omega),ht,Nat.sub_self,List.set_cons_zero]
   congr 3
   have ht2 : ((mergedN g g[i]).f2.take j).length = j := by simp;omega
   rw [Int.toNat_natCast,List.set_append_right _ _ (by omega),ht2,Nat.sub_self,List.drop_eq_getElem_cons hj,List.set_cons_zero,take_getD 0 (by omega),getD_lt 0 (by omega),List.append_assoc,List.singleton_append]
   congr 2
   have : (mergedN g g[i]).f2[j]'(by omega) = (firstTL g g.length).getD (g[i].f2[j]).toNat 0 := by simp [mergedN,mappedN]
   rw [this,firstTL_at hkid.1 hkid.2,hkn,Int.toNat_natCast]
  ·obtain ⟨m1,m2⟩ := mid g[i].f2.length (Nat.le_refl _)
   have hrow : ((mergedN g g[i]).f2.take g[i].f2.length ++ g[i].f2.drop g[i].f2.length).length = g[i].f2.length := by simp;omega
   refine Ev.step (fun k => by simp only [spec_MergeTexts.l1];rw [if_pos (by omega),m1,if_pos (by omega),m2]) ?_
   dsimp only
   rw [hrow]
   refine Ev.ite_neg (by omega) ?_
   rw [w64s hi (by omega)]
   refine Ev.congr (fun k => ?_) hq
   congr 1
   rw [List.drop_length,List.append_nil,← hm,List.take_length,take_getD zNd (by simp;omega),getD_lt zNd (by simp;omega),List.getElem_map,List.append_assoc,List.singleton_append]
   rfl
 ·refine Ev.step (fun k => by simp only [spec_MergeTexts.l0];rw [if_neg (by rw [List.drop_length,List.append_nil,List.length_take,List.length_map];omega)]) ?_
  refine Ev.bind (firstText_ev g (rn : Int) rn (by omega) (by omega)) (Ev.at (Ev.now _) ?_)
  rw [List.drop_length,List.append_nil,show g.length = (g.map (mergedN g)).length by simp,List.take_length,Int.toNat_natCast]
end Go.Proofs.Ytapaegcombfafaa.Q
