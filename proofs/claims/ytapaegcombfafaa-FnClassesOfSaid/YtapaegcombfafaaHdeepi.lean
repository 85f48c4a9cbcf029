/- Two graphs' nodes put together, and graphs that are equal however deep: the program's. -/
import Derived.Test.YtapaegcombfafaaHclass
import Derived.Test.YtapaegcombfafaaHmapped
import Derived.Test.YtapaegcombfafaaQ26
namespace Go.Proofs.Ytapaegcombfafaa.Q
open Go.RowKit Go.Proofs.YtapaegcombfafaaW.PrintWords
set_option linter.unusedVariables false
set_option linter.unusedSimpArgs false

/-- The second graph's nodes behind the first one's. -/
def shiftN (n : Nat) (x : Nd) : Nd := ⟨x.f0,x.f1,x.f2.map (fun k => (n : Int) + k)⟩
def joinL (a b : List Nd) : List Nd := a ++ b.map (shiftN a.length)
theorem joinL_len (a b : List Nd) : (joinL a b).length = a.length + b.length := by simp [joinL]
theorem joinL_take {a b : List Nd} {i : Nat} (hi : i < b.length) : a ++ (b.take (i + 1)).map (shiftN a.length) = (a ++ (b.take i).map (shiftN a.length)) ++ [shiftN a.length b[i]] := by
 rw [List.take_succ_eq_append_getElem hi,List.map_append,List.append_assoc]
 rfl
theorem joinL_kids {a b : List Nd} (ha : KidsIn a) (hb : KidsIn b) : KidsIn (joinL a b) := by
 intro i h0 h1
 obtain ⟨n,rfl⟩ := Int.eq_ofNat_of_zero_le h0
 have hl := joinL_len a b
 rw [kidsOk_iff]
 by_cases h : n < a.length
 ·have e : nd (joinL a b) (n : Int) = nd a (n : Int) := by
   show rd_T58 _ _ = rd_T58 _ _
   rw [rdG,rdG,List.getD_eq_getElem?_getD,List.getD_eq_getElem?_getD]
   unfold joinL
   rw [List.getElem?_append_left h]
  rw [e]
  refine ⟨ha.few (by omega) (by omega),fun x hx => ?_⟩
  have := ha.mem (i := (n : Int)) (by omega) (by omega) hx
  omega
 ·have e : nd (joinL a b) (n : Int) = shiftN a.length (nd b ((n - a.length : Nat) : Int)) := by
   show rd_T58 _ _ = shiftN a.length (rd_T58 _ _)
   rw [rdG,rdG,List.getD_eq_getElem?_getD,List.getD_eq_getElem?_getD]
   unfold joinL
   have hb2 : n - a.length < b.length := by omega
   rw [List.getElem?_append_right (by omega),List.getElem?_map,List.getElem?_eq_getElem hb2]
   rfl
  rw [e]
  unfold shiftN
  dsimp only
  refine ⟨by rw [List.length_map];exact hb.few (by omega) (by omega),fun x hx => ?_⟩
  obtain ⟨y,hy,rfl⟩ := List.mem_map.1 hx
  have := hb.mem (i := ((n - a.length : Nat) : Int)) (by omega) (by omega) hy
  omega
/-- Where the second graph's nodes lie. -/
def orderB (n m : Nat) : List Int := (List.range m).map (fun (i : Nat) => (i : Int) + (n : Int))
theorem mapped_orderB (n m : Nat) (x : Nd) (hx : ∀ k ∈ x.f2,0 ≤ k ∧ k < (m : Int)) : mappedN (orderB n m) x = shiftN n x := by
 unfold mappedN shiftN
 congr 1
 refine List.map_congr_left (fun k hk => ?_)
 obtain ⟨h0,h1⟩ := hx k hk
 obtain ⟨j,rfl⟩ := Int.eq_ofNat_of_zero_le h0
 have hj : j < m := by omega
 rw [Int.toNat_natCast,getD_lt 0 (by simp [orderB];exact hj)]
 simp [orderB]
 omega
def deepB (a : List Nd) (r : Int) (b : List Nd) (s : Int) : Bool := (classesL (joinL a b)).getD r.toNat 0 == (classesL (joinL a b)).getD ((a.length : Int) + s).toNat 0
section
variable (a : List Nd) (r : Int) (b : List Nd) (s : Int) (ha : a.length ≤ 12) (hak : KidsIn a) (hb : b.length ≤ 12) (hbk : KidsIn b) (hr0 : 0 ≤ r) (hr1 : r < (a.length : Int)) (h0 : 0 ≤ s) (h1 : s < (b.length : Int))
include ha hak hb hbk hr0 hr1 h0 h1
theorem impl_deep_ev : Ev (fun k => impl_EqualDeep.j0 k false a r b s) (deepB a r b s) := by
 have hl := joinL_len a b
 have hc := classesL_len (joinL a b)
 refine Ev.step (fun k => by simp only [impl_EqualDeep.j0];rw [if_neg (by decide)]) ?_
 have fin : Ev (fun k => impl_EqualDeep.l1 k (orderB a.length b.length) a b (b.length : Int) 0 a r b s) (deepB a r b s) := by
  have h := ev_steps (L := fun k (c : List Nd) i => impl_EqualDeep.l1 k (orderB a.length b.length) c b (b.length : Int) i a r b s) (n := b.length) (fun i => a ++ (b.take i).map (shiftN a.length)) (r := deepB a r b s) (fun i hi q hq => ?_) ?_
  ·simpa using h
  ·have hf := hbk.few (i := (i : Int)) (by omega) (by omega)
   have hm : ∀ k ∈ (nd b i).f2,0 ≤ k ∧ k < (b.length : Int) := fun k hk => hbk.mem (i := (i : Int)) (by omega) (by omega) hk
   refine Ev.step (fun k => by simp only [impl_EqualDeep.l1];rw [if_pos (by omega),if_pos (by omega),if_pos (by omega)]) ?_
   refine Ev.bind (mapped_ev (nd b i) (orderB a.length b.length) (by omega) (fun k hk => by simp only [orderB,List.length_map,List.length_range];exact hm k hk)) ?_
   refine Ev.ite_pos (by rw [List.length_append,List.length_map,List.length_take];omega) ?_
   rw [w64s hi (by omega)]
   refine Ev.congr (fun k => ?_) hq
   congr 1
   rw [joinL_take hi]
   congr 2
   have e : nd b (i : Int) = b[i] := by
    show rd_T58 b (i : Int) = _
    rw [rdG,getD_lt zNd hi]
   rw [← e,← mapped_orderB a.length b.length (nd b i) hm]
   rfl
  ·refine Ev.step (fun k => by simp only [impl_EqualDeep.l1];rw [if_neg (by omega),List.take_length]) ?_
   rw [show a ++ List.map (shiftN a.length) b = joinL a b from rfl]
   refine Ev.bind (impl_classes_ev (joinL a b) (by omega) (joinL_kids hak hbk)) ?_
   rw [w64 (e := s + (a.length : Int)) (by omega)]
   refine Ev.ite_pos hr0 (Ev.ite_pos (by omega) (Ev.ite_pos (by omega) (Ev.ite_pos (by omega) (Ev.at (Ev.now _) ?_))))
   rw [rdNat _ hr0,rdNat _ (by omega),show s + (a.length : Int) = (a.length : Int) + s by omega]
   rfl
 have h := ev_steps (L := fun k (c : List Int) i => impl_EqualDeep.l0 k c (b.length : Int) i a r b s) (n := b.length) (fun i => (orderB a.length b.length).take i) (r := deepB a r b s) (fun i hi q hq => ?_) ?_
 ·simpa using h
 ·have hol : (orderB a.length b.length).length = b.length := by simp [orderB]
  refine Ev.step (fun k => by simp only [impl_EqualDeep.l0];rw [if_pos (by omega),if_pos (by rw [List.length_take];omega),w64s hi (by omega),w64 (by omega)]) ?_
  refine Ev.congr (fun k => ?_) hq
  congr 1
  rw [take_getD 0 (by omega),getD_lt 0 (by omega)]
  simp [orderB]
 ·have hol : (orderB a.length b.length).length = b.length := by simp [orderB]
  refine Ev.step (fun k => by simp only [impl_EqualDeep.l0];rw [if_neg (by omega)]) ?_
  refine Ev.bind0 (a := a) ?_ ?_
  ·simp only [impl_Node_55.f]
   first | rw [if_pos (by omega)] | (rw [Option.bind_some,if_pos (by rw [List.length_nil];omega),List.nil_append])
  ·rw [List.take_of_length_le (by omega)]
   exact fin
end
end Go.Proofs.Ytapaegcombfafaa.Q
