/- Bytes and frames: what both functions tell. -/
import Derived.Test.YtbokjhdhpmmpfaaHint
import Derived.Test.YtbokjhdhpmmpfaaQ20
import Derived.Test.YtbokjhdhpmmpfaaQ50
import Derived.Test.YtbokjhdhpmmpfaaQ62
import Derived.Test.YtbokjhdhpmmpfaaQ94
namespace Go.Proofs.Ytbokjhdhpmmpfaa.Q
open Go.RowKit Go.Proofs.YtbokjhdhpmmpfaaW.PrintWords
set_option linter.unusedVariables false
set_option linter.unusedSimpArgs false

/-- Are all of these bytes? -/
def allB (l : List Int) : Bool := l.all fun x => decide (0 ≤ x) && decide (x ≤ 255)
theorem allB_bad (l : List Int) : (!l.any impl_bytesOk.bad) = allB l := by
 unfold allB
 induction l with
 | nil => rfl
 | cons x l ih =>
  rw [List.any_cons,List.all_cons,Bool.not_or,ih]
  congr 1
  unfold impl_bytesOk.bad
  by_cases h1 : x < 0 <;> by_cases h2 : x > 255 <;> simp [h1,h2] <;> omega
theorem allB_getD {l : List Int} (h : allB l = true) (i : Nat) (hi : i < l.length) : 0 ≤ l.getD i 0 ∧ l.getD i 0 ≤ 255 := by
 rw [getD_lt _ hi]
 have := List.all_eq_true.1 h _ (List.getElem_mem hi)
 simpa using this
theorem bytesOk_eq (l : List Int) (m : Int) : impl_bytesOk.f l m = some (decide ((l.length : Int) ≤ m) && allB l) := by
 unfold impl_bytesOk.f
 rw [allB_bad]
theorem validBytes_ev (l : List Int) (hn : l.length ≤ 4611686018427387904) : Ev (fun k => spec_validBytes.f k l) (decide ((l.length : Int) ≤ 1000) && allB l) := by
 unfold spec_validBytes.f
 by_cases h : (l.length : Int) ≤ 1000
 ·rw [decide_eq_true h,Bool.true_and]
  exact Ev.ite_pos h (Ev.bind (allIn_ev l 0 255 hn) (Ev.now _))
 ·rw [decide_eq_false h,Bool.false_and]
  exact Ev.ite_neg h (Ev.now _)
theorem validFramed_ev (l : List Int) (hn : l.length ≤ 4611686018427387904) : Ev (fun k => spec_validFramed.f k l) (decide ((l.length : Int) ≤ 2000) && allB l) := by
 unfold spec_validFramed.f
 by_cases h : (l.length : Int) ≤ 2000
 ·rw [decide_eq_true h,Bool.true_and]
  exact Ev.ite_pos h (Ev.bind (allIn_ev l 0 255 hn) (Ev.now _))
 ·rw [decide_eq_false h,Bool.false_and]
  exact Ev.ite_neg h (Ev.now _)
theorem allB_seg {l acc : List Int} (hl : allB l = true) (ha : allB acc = true) (a b : Nat) : allB (acc ++ (l.take a).drop b) = true := by
 unfold allB at *
 rw [List.all_append,ha,Bool.true_and,List.all_eq_true]
 intro x hx
 exact List.all_eq_true.1 hl x (List.mem_of_mem_take (List.mem_of_mem_drop hx))
theorem unframe_both (l : List Int) (hn : l.length ≤ 1048576) : ∀ (d at_ : Nat) (acc : List Int),l.length - at_ ≤ d → at_ ≤ l.length → acc.length ≤ at_ →
  ∃ (r : List Int) (n : Nat),Ev (fun k => spec_unframe.l0 k l acc (at_ : Int)) (r,(n : Int)) ∧ Ev (fun k => impl_UnframeTorn.l0 k l acc (at_ : Int)) (r,(n : Int)) ∧ r.length ≤ n ∧ at_ ≤ n ∧ n ≤ l.length ∧ (allB l = true → allB acc = true → allB r = true) := by
 intro d
 induction d with
 | zero =>
  intro i acc hd hi ha
  obtain rfl : i = l.length := by omega
  refine ⟨acc,l.length,?_,?_,ha,Nat.le_refl _,Nat.le_refl _,fun _ z => z⟩
  ·refine Ev.step (fun k => by simp only [spec_unframe.l0];rw [if_neg (by omega)]) (Ev.now _)
  ·refine Ev.step (fun k => by simp only [impl_UnframeTorn.l0];rw [if_neg (by omega)]) (Ev.now _)
 | succ d ih =>
  intro i acc hd hi ha
  by_cases hlt : i < l.length
  ·by_cases hr : 1 ≤ l.getD i 0 ∧ l.getD i 0 ≤ 200
   ·by_cases hf : (i : Int) + l.getD i 0 < l.length
    ·obtain ⟨m,hm⟩ : ∃ m : Nat,l.getD i 0 = m := ⟨(l.getD i 0).toNat,by omega⟩
     have hd2 : (decide (1 ≤ (m : Int)) && decide ((m : Int) ≤ 200)) = true := by rw [Bool.and_eq_true,decide_eq_true_iff,decide_eq_true_iff];omega
     have hlen : ((l.take (i + 1 + m)).drop (i + 1)).length = m := by simp;omega
     obtain ⟨r,n,h1,h2,h3,h4,h5,h6⟩ := ih (i + 1 + m) (acc ++ (l.take (i + 1 + m)).drop (i + 1)) (by omega) (by omega) (by rw [List.length_append,hlen];omega)
     refine ⟨r,n,?_,?_,h3,by omega,h5,fun hl ha' => h6 hl (allB_seg hl ha' _ _)⟩
     ·refine Ev.step (fun k => by simp only [spec_unframe.l0];exact rfl) ?_
      refine Ev.ite_pos (by omega) (Ev.ite_pos (by omega) ?_)
      rw [rdN,hm]
      refine Ev.bind0 (by rw [inRange_eq,hd2]) (Ev.ite_pos rfl ?_)
      rw [w64n (e := (i : Int) + (m : Int)) (i + m) (by omega) (by omega),w64n (e := (i : Int) + 1) (i + 1) (by omega) (by omega),w64n (e := ((i + 1 : Nat) : Int) + (m : Int)) (i + 1 + m) (by omega) (by omega)]
      refine Ev.ite_pos (by omega) (Ev.ite_pos (by omega) (Ev.ite_pos (by omega) (Ev.ite_pos (by omega) ?_)))
      rw [Int.toNat_natCast,Int.toNat_natCast,hlen]
      exact Ev.ite_pos (by omega) h1
     ·refine Ev.step (fun k => by simp only [impl_UnframeTorn.l0];exact rfl) ?_
      refine Ev.ite_pos (by omega) (Ev.ite_pos (by omega) ?_)
      rw [rdN,hm]
      refine Ev.ite_pos (by omega) (Ev.ite_pos (by omega) ?_)
      rw [w64n (e := (i : Int) + 1) (i + 1) (by omega) (by omega),w64n (e := ((i + 1 : Nat) : Int) + (m : Int)) (i + 1 + m) (by omega) (by omega),w64n (e := 1 + (m : Int)) (1 + m) (by omega) (by omega),w64n (e := (i : Int) + ((1 + m : Nat) : Int)) (i + 1 + m) (by omega) (by omega)]
      refine Ev.ite_pos (by omega) (Ev.ite_pos (by omega) (Ev.ite_pos (by omega) ?_))
      rw [Int.toNat_natCast,Int.toNat_natCast,hlen]
      exact Ev.ite_pos (by omega) h2
    ·refine ⟨acc,i,?_,?_,ha,Nat.le_refl _,hi,fun _ z => z⟩
     ·refine Ev.step (fun k => by simp only [spec_unframe.l0];exact rfl) ?_
      refine Ev.ite_pos (by omega) (Ev.ite_pos (by omega) ?_)
      rw [rdN]
      refine Ev.bind0 (by rw [inRange_eq,decide_eq_true hr.1,decide_eq_true hr.2];rfl) (Ev.ite_pos rfl ?_)
      rw [w64 (e := (i : Int) + l.getD i 0) (by omega)]
      exact Ev.ite_neg hf (Ev.now _)
     ·refine Ev.step (fun k => by simp only [impl_UnframeTorn.l0];exact rfl) ?_
      refine Ev.ite_pos (by omega) (Ev.ite_pos (by omega) ?_)
      rw [rdN]
      refine Ev.ite_pos hr.1 (Ev.ite_pos hr.2 ?_)
      rw [w64 (e := (i : Int) + 1) (by omega),w64 (e := (i : Int) + 1 + l.getD i 0) (by omega)]
      exact Ev.ite_neg (by omega) (Ev.now _)
   ·refine ⟨acc,i,?_,?_,ha,Nat.le_refl _,hi,fun _ z => z⟩
    ·refine Ev.step (fun k => by simp only [spec_unframe.l0];exact rfl) ?_
     refine Ev.ite_pos (by omega) (Ev.ite_pos (by omega) ?_)
     rw [rdN]
     refine Ev.bind0 (a := false) (by rw [inRange_eq,show (decide (1 ≤ l.getD i 0) && decide (l.getD i 0 ≤ 200)) = false from by rw [Bool.eq_false_iff];intro z;rw [Bool.and_eq_true,decide_eq_true_iff,decide_eq_true_iff] at z;exact hr z]) ?_
     exact Ev.ite_neg (by decide) (Ev.now _)
    ·refine Ev.step (fun k => by simp only [impl_UnframeTorn.l0];exact rfl) ?_
     refine Ev.ite_pos (by omega) (Ev.ite_pos (by omega) ?_)
     rw [rdN]
     by_cases h1 : l.getD i 0 ≥ 1
     ·exact Ev.ite_pos h1 (Ev.ite_neg (fun z => hr ⟨h1,z⟩) (Ev.now _))
     ·exact Ev.ite_neg h1 (Ev.now _)
  ·obtain rfl : i = l.length := by omega
   refine ⟨acc,l.length,?_,?_,ha,Nat.le_refl _,Nat.le_refl _,fun _ z => z⟩
   ·refine Ev.step (fun k => by simp only [spec_unframe.l0];rw [if_neg (by omega)]) (Ev.now _)
   ·refine Ev.step (fun k => by simp only [impl_UnframeTorn.l0];rw [if_neg (by omega)]) (Ev.now _)
/-- The whole frames at the beginning: what both functions tell of them. -/
theorem unframe_all (l : List Int) (hn : l.length ≤ 1048576) : ∃ (r : List Int) (n : Nat),Ev (fun k => spec_unframe.f k l) (r,(n : Int)) ∧ Ev (fun k => impl_UnframeTorn.l0 k l [] 0) (r,(n : Int)) ∧ r.length ≤ l.length ∧ n ≤ l.length ∧ (allB l = true → allB r = true) := by
 obtain ⟨r,n,h1,h2,h3,_,h5,h6⟩ := unframe_both l hn l.length 0 [] (by omega) (by omega) (by simp)
 exact ⟨r,n,by unfold spec_unframe.f;exact h1,h2,by omega,h5,fun z => h6 z rfl⟩
theorem implTorn_ev (l : List Int) (hn : l.length ≤ 1048576) : ∃ (r : List Int) (n : Int),Ev (fun k => impl_UnframeTorn.f k l) (r,n) ∧ r.length ≤ l.length ∧
  (((decide ((l.length : Int) ≤ 2000) && allB l) = true ∧ Ev (fun k => spec_unframe.f k l) (r,n) ∧ 0 ≤ n) ∨ ((decide ((l.length : Int) ≤ 2000) && allB l) = false ∧ r = [] ∧ n = -1)) := by
 unfold impl_UnframeTorn.f
 rw [bytesOk_eq]
 cases hv : (decide ((l.length : Int) ≤ 2000) && allB l) with
 | false => exact ⟨[],-1,Ev.bind0 rfl (Ev.ite_neg (by simp) (Ev.now _)),by simp,.inr ⟨rfl,rfl,rfl⟩⟩
 | true =>
  obtain ⟨r,n,h1,h2,h3,h4,h5⟩ := unframe_all l hn
  exact ⟨r,n,Ev.bind0 rfl (Ev.ite_pos rfl h2),h3,.inl ⟨rfl,h1,by omega⟩⟩
theorem frame_both (l : List Int) (m : Nat) (hm : 1 ≤ m) (hm2 : m ≤ 200) (hn : l.length ≤ 1000) : ∀ (d i : Nat) (acc : List Int),l.length - i ≤ d → i < l.length + m → acc.length ≤ 2 * i →
  ∃ r : List Int,Ev (fun k => spec_FrameBytes.l0 k l (m : Int) acc (i : Int)) r ∧ Ev (fun k => impl_FrameBytes.l0 k (m : Int) acc (l.drop i)) r ∧ r.length ≤ 10000 := by
 intro d
 induction d with
 | zero =>
  intro i acc hd hi ha
  refine ⟨acc,?_,?_,by omega⟩
  ·refine Ev.step (fun k => by simp only [spec_FrameBytes.l0];rw [if_neg (by omega)]) (Ev.now _)
  ·refine Ev.step (fun k => by simp only [impl_FrameBytes.l0];rw [if_neg (by rw [List.drop_of_length_le (by omega)];simp)]) (Ev.now _)
 | succ d ih =>
  intro i acc hd hi ha
  by_cases hlt : i < l.length
  ·have emn : mn (m : Int) ((l.length - i : Nat) : Int) = ((min m (l.length - i) : Nat) : Int) := by unfold mn;split <;> omega
   obtain ⟨j,hj⟩ : ∃ j,j = min m (l.length - i) := ⟨_,rfl⟩
   have hj1 : 1 ≤ j := by omega
   have hj2 : j ≤ l.length - i := by omega
   have hdl : (l.drop i).length = l.length - i := by simp
   have htk : (l.take (i + j)).drop i = (l.drop i).take j := by rw [List.drop_take];congr 1;omega
   have htl : ((l.drop i).take j).length = j := by simp;omega
   have hdd : l.drop (i + m) = (l.drop i).drop j := by
    rw [List.drop_drop]
    by_cases h : m ≤ l.length - i
    ·congr 1;omega
    ·rw [List.drop_of_length_le (by omega),List.drop_of_length_le (by omega)]
   obtain ⟨r,h1,h2,h3⟩ := ih (i + m) ((acc ++ [(j : Int)]) ++ (l.drop i).take j) (by omega) (by omega) (by simp;omega)
   refine ⟨r,?_,?_,h3⟩
   ·refine Ev.step (fun k => by simp only [spec_FrameBytes.l0];exact rfl) ?_
    refine Ev.ite_pos (by omega) (Ev.ite_pos (by omega) (Ev.bind0 rfl (Ev.ite_pos (by omega) ?_)))
    rw [w64n (e := (l.length : Int) - (i : Int)) (l.length - i) (by omega) (by omega),emn,← hj,w64n (e := (i : Int) + (j : Int)) (i + j) (by omega) (by omega),w64n (e := (i : Int) + (m : Int)) (i + m) (by omega) (by omega)]
    refine Ev.ite_pos (by omega) (Ev.ite_pos (by omega) ?_)
    rw [Int.toNat_natCast,Int.toNat_natCast,htk]
    exact Ev.ite_pos (by rw [htl];simp;omega) h1
   ·rw [hdd] at h2
    refine Ev.step (fun k => by simp only [impl_FrameBytes.l0];exact rfl) ?_
    rw [hdl,emn,← hj]
    refine Ev.ite_pos (by omega) (Ev.ite_pos (by omega) (Ev.bind0 rfl (Ev.ite_pos (by omega) (Ev.ite_pos (by omega) (Ev.bind0 rfl ?_)))))
    rw [Int.toNat_natCast]
    exact Ev.ite_pos (by rw [htl];simp;omega) h2
  ·refine ⟨acc,?_,?_,by omega⟩
   ·refine Ev.step (fun k => by simp only [spec_FrameBytes.l0];rw [if_neg (by omega)]) (Ev.now _)
   ·refine Ev.step (fun k => by simp only [impl_FrameBytes.l0];rw [if_neg (by rw [List.drop_of_length_le (by omega)];simp)]) (Ev.now _)
end Go.Proofs.Ytbokjhdhpmmpfaa.Q
