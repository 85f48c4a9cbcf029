/- The program's RecoverStream returns what the reference's returns: for every list of numbers, without a condition. -/
import Derived.Test.YtbokjhdhpmmpfaaHenc
import Derived.Test.YtbokjhdhpmmpfaaHframe
import Derived.Test.YtbokjhdhpmmpfaaQ88
import Derived.Test.YtbokjhdhpmmpfaaQ90
import Derived.Test.YtbokjhdhpmmpfaaQ12
import Derived.Test.YtbokjhdhpmmpfaaQ3
namespace Go.Proofs.Ytbokjhdhpmmpfaa.Q
open Go.RowKit Go.Proofs.YtbokjhdhpmmpfaaW.PrintWords
set_option linter.unusedVariables false
set_option linter.unusedSimpArgs false

/-- The order that stands at a place of bytes, and how many bytes it has. -/
def rdStep (l : List Int) (i : Nat) : Option (Op × Nat) :=
 if l.length ≤ i then none else
 if hasArg (l.getD i 0) then
  if l.length ≤ i + 1 then none else
  if l.getD (i + 1) 0 < 128 then (if okOp ⟨l.getD i 0,l.getD (i + 1) 0⟩ then some (⟨l.getD i 0,l.getD (i + 1) 0⟩,2) else none)
  else if l.length ≤ i + 2 then none else
  if l.getD (i + 2) 0 = 0 then none else
  if okOp ⟨l.getD i 0,l.getD (i + 1) 0 - 128 + 128 * l.getD (i + 2) 0⟩ then some (⟨l.getD i 0,l.getD (i + 1) 0 - 128 + 128 * l.getD (i + 2) 0⟩,3) else none
 else if okOp ⟨l.getD i 0,0⟩ then some (⟨l.getD i 0,0⟩,1) else none
theorem rdStep_len {l : List Int} {i : Nat} {o : Op} {n : Nat} (h : rdStep l i = some (o,n)) : 1 ≤ n ∧ n ≤ 3 ∧ i + n ≤ l.length := by
 unfold rdStep at h
 repeat' split at h
 all_goals first | (cases h;done) | (injection h with h;injection h with h1 h2;omega)
theorem rdStep_ok {l : List Int} {i : Nat} {o : Op} {n : Nat} (h : rdStep l i = some (o,n)) : okOp o = true := by
 unfold rdStep at h
 repeat' split at h
 all_goals first | (cases h;done) | (injection h with h;injection h with h1 h2;rw [← h1];assumption)
def told : Option (Op × Nat) → Int × Int × Int
 | some (o,n) => (o.f0,o.f1,(n : Int))
 | none => (0,0,0)

theorem j0_ev (n : Nat) (c a : Int) : Ev (fun k => spec_readOp.j0 k (n : Int) c a) (if okOp ⟨c,a⟩ = true ∧ (encOp ⟨c,a⟩).length = n then (c,a,(n : Int)) else (0,0,0)) := by
 refine Ev.step (fun k => by simp only [spec_readOp.j0];exact rfl) ?_
 refine Ev.bind0 (validOp_eq c a) ?_
 by_cases h : okOp ⟨c,a⟩ = true
 ·refine Ev.ite_pos h (Ev.bind0 (bytesOf_eq ⟨c,a⟩) ?_)
  by_cases h2 : (encOp ⟨c,a⟩).length = n
  ·refine Ev.ite_pos (by omega) ?_
   rw [if_pos ⟨h,h2⟩]
   exact Ev.now _
  ·refine Ev.ite_neg (by omega) ?_
   rw [if_neg (fun z => h2 z.2)]
   exact Ev.now _
 ·refine Ev.ite_neg h ?_
  rw [if_neg (fun z => h z.1)]
  exact Ev.now _
theorem encLen1 {c : Int} (h : ¬ hasArg c) : (encOp ⟨c,0⟩).length = 1 := by unfold encOp;rw [if_neg h];rfl
theorem encLen2 {c a : Int} (h : hasArg c) (h2 : a < 128) : (encOp ⟨c,a⟩).length = 2 := by unfold encOp;rw [if_pos h,if_pos h2];rfl
theorem encLen3 {c a : Int} (h : hasArg c) (h2 : ¬ a < 128) : (encOp ⟨c,a⟩).length = 3 := by unfold encOp;rw [if_pos h,if_neg h2];rfl

theorem readOp_ev (l : List Int) (i : Nat) (hb : allB l = true) (hi : i ≤ l.length) : Ev (fun k => spec_readOp.f k (l.drop i)) (told (rdStep l i)) := by
 have hlen : (l.drop i).length = l.length - i := List.length_drop
 have hrd : ∀ j : Nat,rd (l.drop i) (j : Int) = l.getD (i + j) 0 := fun j => by
  rw [rdN,List.getD_eq_getElem?_getD,List.getD_eq_getElem?_getD,List.getElem?_drop]
 have h0 : rd (l.drop i) 0 = l.getD i 0 := hrd 0
 have h1 : rd (l.drop i) 1 = l.getD (i + 1) 0 := hrd 1
 have h2 : rd (l.drop i) 2 = l.getD (i + 2) 0 := hrd 2
 unfold spec_readOp.f rdStep
 rw [hlen,h0,h1,h2]
 by_cases c0 : l.length ≤ i
 ·rw [if_pos c0]
  exact Ev.ite_pos (by omega) (Ev.now _)
 rw [if_neg c0]
 refine Ev.ite_neg (by omega) (Ev.ite_pos (by omega) (Ev.bind0 (argOf_eq _) ?_))
 by_cases ha : hasArg (l.getD i 0)
 ·rw [if_pos ha]
  refine Ev.ite_pos (by unfold hasArg at ha;rw [if_pos ha];exact (most_le _).1) ?_
  by_cases c1 : l.length ≤ i + 1
  ·rw [if_pos c1]
   exact Ev.ite_pos (by omega) (Ev.now _)
  rw [if_neg c1]
  have b1 := allB_getD hb (i + 1) (by omega)
  refine Ev.ite_neg (by omega) (Ev.ite_pos (by omega) ?_)
  by_cases c2 : l.getD (i + 1) 0 < 128
  ·rw [if_pos c2]
   refine Ev.ite_neg (by omega) (Ev.at (j0_ev 2 _ _) ?_)
   rw [encLen2 ha c2]
   by_cases hk : okOp ⟨l.getD i 0,l.getD (i + 1) 0⟩ = true
   ·rw [if_pos ⟨hk,rfl⟩,if_pos hk]
    rfl
   ·rw [if_neg (fun z => hk z.1),if_neg hk]
    rfl
  ·rw [if_neg c2]
   refine Ev.ite_pos (by omega) ?_
   by_cases c3 : l.length ≤ i + 2
   ·rw [if_pos c3]
    exact Ev.ite_pos (by omega) (Ev.now _)
   rw [if_neg c3]
   have b2 := allB_getD hb (i + 2) (by omega)
   refine Ev.ite_neg (by omega) (Ev.ite_pos (by omega) (Ev.at (j0_ev 3 _ _) ?_))
   rw [w64 (e := l.getD (i + 1) 0 - 128) (by omega),w64 (e := 128 * l.getD (i + 2) 0) (by omega),w64 (by omega)]
   by_cases c4 : l.getD (i + 2) 0 = 0
   ·rw [if_pos c4,if_neg]
    ·rfl
    ·intro z
     have z2 := z.2
     rw [encLen2 ha (by omega)] at z2
     omega
   ·rw [if_neg c4,encLen3 ha (by omega)]
    by_cases hk : okOp ⟨l.getD i 0,l.getD (i + 1) 0 - 128 + 128 * l.getD (i + 2) 0⟩ = true
    ·rw [if_pos ⟨hk,rfl⟩,if_pos hk]
     rfl
    ·rw [if_neg (fun z => hk z.1),if_neg hk]
     rfl
 ·rw [if_neg ha]
  refine Ev.ite_neg (by unfold hasArg at ha;rw [if_neg ha];omega) (Ev.at (j0_ev 1 _ _) ?_)
  rw [encLen1 ha]
  by_cases hk : okOp ⟨l.getD i 0,0⟩ = true
  ·rw [if_pos ⟨hk,rfl⟩,if_pos hk]
   rfl
  ·rw [if_neg (fun z => hk z.1),if_neg hk]
   rfl

set_option maxRecDepth 100000 in
/-- One round of the program's loop. -/
theorem decoded_step (l : List Int) (i : Nat) (acc : List Op) (hb : allB l = true) (hn : l.length ≤ 1048576) (hi : i ≤ l.length) (ha : acc.length < 300) (r : List Op × Int)
  (hs : ∀ o n,rdStep l i = some (o,n) → Ev (fun k => impl_decoded.l0 k l (acc ++ [o]) ((i + n : Nat) : Int)) r) (he : rdStep l i = none → r = (acc,(i : Int))) :
  Ev (fun k => impl_decoded.l0 k l acc (i : Int)) r := by
 refine Ev.step (fun k => by unfold impl_decoded.l0;rw [if_pos (by omega)]) ?_
 refine Ev.step (fun k => by simp only [impl_decoded.j1];exact rfl) ?_
 by_cases c0 : l.length ≤ i
 ·have e : rdStep l i = none := by unfold rdStep;rw [if_pos c0]
  refine Ev.ite_neg (fun z => ?_) (Ev.at (Ev.now _) (he e).symm)
  have := of_decide_eq_true z
  omega
 refine Ev.ite_pos (decide_eq_true (by omega)) (Ev.ite_pos (by omega) (Ev.ite_pos (by omega) ?_))
 rw [rdN]
 have stop : ∀ (o : Op) (n : Nat),(okOp o = true → rdStep l i = some (o,n)) → (¬ okOp o = true → rdStep l i = none) → (1 ≤ n ∧ n ≤ 3) →
   Ev (fun k => (impl_opOk.f o.f0 o.f1).bind fun t => (if t = true then (if acc.length < 8796093022208 then (impl_decoded.l0 k l (acc ++ [(⟨o.f0,o.f1⟩ : Op)]) ((i + n : Nat) : Int)) else none) else some (acc,(i : Int)))) r := by
  intro o n h1 h2 h3
  refine Ev.bind0 (opOk_eq _ _) ?_
  by_cases hk : okOp o = true
  ·exact Ev.ite_pos hk (Ev.ite_pos (by omega) (hs o n (h1 hk)))
  ·exact Ev.ite_neg hk (Ev.at (Ev.now _) (he (h2 hk)).symm)
 have hplain : ¬ hasArg (l.getD i 0) → Ev (fun k => impl_decoded.j2 k l acc (i : Int) 1 false (l.getD i 0) 0) r := by
  intro hna
  refine Ev.step (fun k => by simp only [impl_decoded.j2];rw [if_neg (by decide)]) ?_
  rw [show wrap64 ((i : Int) + 1) = ((i + 1 : Nat) : Int) by rw [w64 (by omega)];omega]
  exact stop ⟨l.getD i 0,0⟩ 1 (fun z => by unfold rdStep;rw [if_neg c0,if_neg hna,if_pos z]) (fun z => by unfold rdStep;rw [if_neg c0,if_neg hna,if_neg z]) (by omega)
 by_cases h19 : l.getD i 0 ≤ 19
 ·refine Ev.ite_pos h19 (Ev.bind0 (mostArg_eq _) ?_)
  by_cases ha : hasArg (l.getD i 0)
  ·have hp := most_pos ha
   refine Ev.step (fun k => by simp only [impl_decoded.j2];rw [if_pos (decide_eq_true (show most (l.getD i 0) > 0 by omega))]) ?_
   rw [show wrap64 ((i : Int) + 1) = ((i + 1 : Nat) : Int) by rw [w64 (by omega)];omega,show wrap64 ((i : Int) + 2) = ((i + 2 : Nat) : Int) by rw [w64 (by omega)];omega,rdN,rdN]
   by_cases c1 : l.length ≤ i + 1
   ·exact Ev.ite_pos (by omega) (Ev.at (Ev.now _) (he (by unfold rdStep;rw [if_neg c0,if_pos ha,if_pos c1])).symm)
   have b1 := allB_getD hb (i + 1) (by omega)
   refine Ev.ite_neg (by omega) (Ev.ite_pos (by omega) (Ev.ite_pos (by omega) ?_))
   by_cases c2 : l.getD (i + 1) 0 < 128
   ·refine Ev.ite_neg (by omega) ?_
    exact stop ⟨l.getD i 0,l.getD (i + 1) 0⟩ 2 (fun z => by unfold rdStep;rw [if_neg c0,if_pos ha,if_neg c1,if_pos c2,if_pos z]) (fun z => by unfold rdStep;rw [if_neg c0,if_pos ha,if_neg c1,if_pos c2,if_neg z]) (by omega)
   ·refine Ev.ite_pos (by omega) ?_
    by_cases c3 : l.length ≤ i + 2
    ·refine Ev.ite_pos (by omega) (Ev.step (fun k => by simp only [impl_decoded.j3];exact rfl) ?_)
     exact Ev.ite_pos trivial (Ev.at (Ev.now _) (he (by unfold rdStep;rw [if_neg c0,if_pos ha,if_neg c1,if_neg c2,if_pos c3])).symm)
    ·have b2 := allB_getD hb (i + 2) (by omega)
     refine Ev.ite_neg (by omega) (Ev.ite_pos (by omega) (Ev.ite_pos (by omega) ?_))
     by_cases c4 : l.getD (i + 2) 0 = 0
     ·refine Ev.step (fun k => by simp only [impl_decoded.j3];exact rfl) ?_
      exact Ev.ite_pos (beq_iff_eq.2 c4) (Ev.at (Ev.now _) (he (by unfold rdStep;rw [if_neg c0,if_pos ha,if_neg c1,if_neg c2,if_neg c3,if_pos c4])).symm)
     ·refine Ev.step (fun k => by simp only [impl_decoded.j3];exact rfl) ?_
      refine Ev.ite_neg (fun z => c4 (beq_iff_eq.1 z)) ?_
      rw [show wrap64 ((i : Int) + 2) = ((i + 2 : Nat) : Int) by rw [w64 (by omega)];omega,show wrap64 ((i : Int) + 3) = ((i + 3 : Nat) : Int) by rw [w64 (by omega)];omega,rdN,w64 (e := l.getD (i + 1) 0 - 128) (by omega),w64 (e := 128 * l.getD (i + 2) 0) (by omega),w64 (e := l.getD (i + 1) 0 - 128 + 128 * l.getD (i + 2) 0) (by omega)]
      refine Ev.ite_pos (by omega) (Ev.ite_pos (by omega) ?_)
      exact stop ⟨l.getD i 0,l.getD (i + 1) 0 - 128 + 128 * l.getD (i + 2) 0⟩ 3 (fun z => by unfold rdStep;rw [if_neg c0,if_pos ha,if_neg c1,if_neg c2,if_neg c3,if_neg c4,if_pos z]) (fun z => by unfold rdStep;rw [if_neg c0,if_pos ha,if_neg c1,if_neg c2,if_neg c3,if_neg c4,if_neg z]) (by omega)
  ·rw [most_zero ha]
   exact hplain ha
 ·exact Ev.ite_neg h19 (hplain (by unfold hasArg;omega))

set_option maxRecDepth 100000 in
theorem decode_both (l : List Int) (hb : allB l = true) (hn : l.length ≤ 1048576) : ∀ (d i : Nat) (acc : List Op),300 - acc.length = d → i ≤ l.length → acc.length ≤ 300 → acc.all okOp = true →
  ∃ (r : List Op) (n : Nat),Ev (fun k => spec_readOps.l0 k l acc (i : Int)) (r,(n : Int)) ∧ Ev (fun k => impl_decoded.l0 k l acc (i : Int)) (r,(n : Int)) ∧ r.length ≤ 300 ∧ n ≤ l.length ∧ r.all okOp = true := by
 intro d
 induction d with
 | zero =>
  intro i acc hd hi ha hk
  refine ⟨acc,i,?_,?_,ha,hi,hk⟩
  ·exact Ev.step (fun k => by unfold spec_readOps.l0;rw [if_neg (by omega)]) (Ev.now _)
  ·refine Ev.step (fun k => by unfold impl_decoded.l0;rw [if_neg (by omega)]) ?_
   refine Ev.step (fun k => by simp only [impl_decoded.j1];exact rfl) ?_
   exact Ev.ite_neg (by decide) (Ev.now _)
 | succ d ih =>
  intro i acc hd hi ha hk
  have hr := readOp_ev l i hb hi
  cases hst : rdStep l i with
  | none =>
   rw [hst] at hr
   refine ⟨acc,i,?_,?_,ha,hi,hk⟩
   ·refine Ev.step (fun k => by unfold spec_readOps.l0;rw [if_pos (by omega),if_pos (by omega),if_pos (by omega),Int.toNat_natCast]) ?_
    exact Ev.bind hr (Ev.ite_pos rfl (Ev.now _))
   ·exact decoded_step l i acc hb hn hi (by omega) _ (fun o n z => by rw [hst] at z;cases z) (fun _ => rfl)
  | some p =>
   obtain ⟨o,n⟩ := p
   rw [hst] at hr
   have hl := rdStep_len hst
   obtain ⟨r,m,h1,h2,h3⟩ := ih (i + n) (acc ++ [o]) (by rw [List.length_append,List.length_singleton];omega) hl.2.2 (by rw [List.length_append,List.length_singleton];omega) (by rw [List.all_append,hk];simpa using rdStep_ok hst)
   refine ⟨r,m,?_,?_,h3⟩
   ·refine Ev.step (fun k => by unfold spec_readOps.l0;rw [if_pos (by omega),if_pos (by omega),if_pos (by omega),Int.toNat_natCast]) ?_
    refine Ev.bind hr (Ev.ite_neg (show ¬ (n : Int) = 0 by omega) (Ev.ite_pos (by omega) ?_))
    rw [show wrap64 ((i : Int) + (told (some (o,n))).2.2) = ((i + n : Nat) : Int) by show wrap64 ((i : Int) + (n : Int)) = _;rw [w64 (by omega)];omega]
    exact h1
   ·refine decoded_step l i acc hb hn hi (by omega) _ (fun o' n' z => ?_) (fun z => by rw [hst] at z;cases z)
    rw [hst] at z
    obtain ⟨rfl,rfl⟩ := Prod.mk.inj (Option.some.inj z)
    exact h2
theorem decode_all (l : List Int) (hb : allB l = true) (hn : l.length ≤ 1048576) : ∃ (r : List Op) (n : Nat),Ev (fun k => spec_readOps.f k l) (r,(n : Int)) ∧ Ev (fun k => impl_decoded.f k l) (r,(n : Int)) ∧ r.length ≤ 300 ∧ n ≤ l.length ∧ r.all okOp = true := by
 unfold spec_readOps.f impl_decoded.f
 exact decode_both l hb hn 300 0 [] rfl (by omega) (by decide) rfl
end Go.Proofs.Ytbokjhdhpmmpfaa.Q

namespace Go.Proofs.Ytbokjhdhpmmpfaa.Pure
open Go.RowKit Go.Proofs.Ytbokjhdhpmmpfaa.Q Go.Proofs.YtbokjhdhpmmpfaaW.PrintWords
set_option linter.unusedVariables false
set_option linter.unusedSimpArgs false

/-- How many of the first i orders there are up to the last stop. -/
def endAt (l : List Q.Op) : Nat → Nat
 | 0 => 0
 | i + 1 => if (l.getD i zOp).f0 = 19 then i + 1 else endAt l i
theorem endAt_le (l : List Q.Op) (i : Nat) : endAt l i ≤ i := by
 induction i with
 | zero => exact Nat.le_refl _
 | succ i ih => rw [endAt];split <;> omega
theorem spec_end (l : List Q.Op) (hn : l.length ≤ 300) : ∀ (d i : Nat),l.length - i = d → i ≤ l.length → Ev (fun k => spec_RecoverStream.l0 k l (endAt l i : Int) (i : Int)) (l.take (endAt l l.length)) := by
 intro d
 induction d with
 | zero =>
  intro i hd hi
  obtain rfl : i = l.length := by omega
  have h := endAt_le l l.length
  refine Ev.step (fun k => by unfold spec_RecoverStream.l0;rw [if_neg (by omega)]) ?_
  refine Ev.bind0 rfl (Ev.ite_pos (by omega) (Ev.ite_pos (by omega) (Ev.bind0 rfl (Ev.ite_pos ?_ ?_))))
  ·rw [Int.toNat_natCast,List.length_take,List.length_nil];omega
  ·rw [Int.toNat_natCast,List.nil_append];exact Ev.now _
 | succ d ih =>
  intro i hd hi
  have hlt : i < l.length := by omega
  have h := ih (i + 1) (by omega) (by omega)
  rw [endAt] at h
  refine Ev.step (fun k => by unfold spec_RecoverStream.l0;rw [if_pos (by omega),if_pos (by omega),rdO,w64s hlt (by omega)]) ?_
  by_cases h9 : (l.getD i zOp).f0 = 19
  ·rw [if_pos h9] at h
   exact Ev.ite_pos h9 h
  ·rw [if_neg h9] at h
   exact Ev.ite_neg h9 h
theorem impl_cut (l : List Q.Op) (hn : l.length ≤ 300) (m : Nat) (hm : m ≤ l.length) : Ev (fun k => impl_recovered.l0 k (l.take m)) (l.take (endAt l m),true) := by
 induction m with
 | zero => exact Ev.step (fun k => by unfold impl_recovered.l0;rw [if_neg (by simp)];rfl) (Ev.now ([],true))
 | succ m ih =>
  have hl : (l.take (m + 1)).length = m + 1 := by rw [List.length_take];omega
  have hg : (l.take (m + 1)).getD m zOp = l.getD m zOp := by rw [List.getD_eq_getElem?_getD,List.getD_eq_getElem?_getD,List.getElem?_take_of_lt (by omega)]
  have ht : (l.take (m + 1)).take m = l.take m := by rw [List.take_take];congr 1;omega
  refine Ev.step (fun k => by unfold impl_recovered.l0;rw [hl,w64n (e := ((m + 1 : Nat) : Int) - 1) m (by omega) (by omega),if_pos (by omega),if_pos (by omega),if_pos (by omega),rdO,hg,Int.toNat_natCast,ht]) ?_
  rw [endAt]
  by_cases h9 : (l.getD m zOp).f0 = 19
  ·rw [if_pos h9]
   exact Ev.ite_pos h9 (Ev.now _)
  ·rw [if_neg h9]
   exact Ev.ite_neg h9 (Ev.ite_pos (by omega) (ih (by omega)))
theorem both (l : List Int) (hn : l.length ≤ 1048576) : ∃ r : List Q.Op,Ev (fun k => spec_RecoverStream.f k l) r ∧ Ev (fun k => impl_RecoverStream.f k l) r ∧ r.length ≤ 300 := by
 unfold spec_RecoverStream.f impl_RecoverStream.f impl_recovered.f
 have hv := validFramed_ev l (by omega)
 by_cases hval : (decide ((l.length : Int) ≤ 2000) && allB l) = true
 ·obtain ⟨b,n,h1,h2,h3,h4,h5⟩ := unframe_all l hn
  have hb := h5 (by rw [Bool.and_eq_true] at hval;exact hval.2)
  have hT : Ev (fun k => impl_UnframeTorn.f k l) (b,(n : Int)) := by
   unfold impl_UnframeTorn.f
   rw [bytesOk_eq,hval]
   exact Ev.bind0 rfl (Ev.ite_pos rfl h2)
  rw [hval] at hv
  by_cases hl : (b.length : Int) > 1000
  ·refine ⟨[],Ev.bind hv (Ev.ite_pos rfl (Ev.bind h1 (Ev.ite_pos hl (Ev.now _)))),?_,by simp⟩
   have h : Ev (fun k => impl_recovered.j0 k b (decide ((b.length : Int) > 1000))) (([] : List Q.Op),false) := by
    refine Ev.step (fun k => by simp only [impl_recovered.j0];exact rfl) ?_
    exact Ev.ite_pos (decide_eq_true hl) (Ev.now _)
   exact Ev.bind (Ev.bind hT (Ev.ite_neg (by omega) h)) (Ev.ite_neg (by simp) (Ev.now _))
  ·obtain ⟨o,m,d1,d2,d3,d4,d5⟩ := decode_all b hb (by omega)
   have he := endAt_le o o.length
   have hs := spec_end o d3 o.length 0 (by omega) (by omega)
   have hi := impl_cut o d3 o.length (Nat.le_refl _)
   rw [List.take_length] at hi
   have h : Ev (fun k => impl_recovered.j0 k b (decide ((b.length : Int) > 1000))) (o.take (endAt o o.length),true) := by
    refine Ev.step (fun k => by simp only [impl_recovered.j0];exact rfl) ?_
    exact Ev.ite_neg (by rw [decide_eq_false hl];decide) (Ev.bind d2 hi)
   exact ⟨o.take (endAt o o.length),Ev.bind hv (Ev.ite_pos rfl (Ev.bind h1 (Ev.ite_neg hl (Ev.bind d1 hs)))),Ev.bind (Ev.bind hT (Ev.ite_neg (by omega) h)) (Ev.ite_pos rfl (Ev.now _)),by rw [List.length_take];omega⟩
 ·have hval' := Bool.eq_false_iff.mpr hval
  have hT : Ev (fun k => impl_UnframeTorn.f k l) (([] : List Int),(-1 : Int)) := by
   unfold impl_UnframeTorn.f
   rw [bytesOk_eq,hval']
   exact Ev.bind0 rfl (Ev.ite_neg (by simp) (Ev.now _))
  rw [hval'] at hv
  have h : Ev (fun k => impl_recovered.j0 k ([] : List Int) true) (([] : List Q.Op),false) := by
   refine Ev.step (fun k => by simp only [impl_recovered.j0];exact rfl) ?_
   first | exact Ev.ite_pos rfl (Ev.now _) | exact Ev.now _
  exact ⟨[],Ev.bind hv (Ev.ite_neg (by simp) (Ev.now _)),Ev.bind (Ev.bind hT (Ev.ite_pos (show (-1 : Int) < 0 by omega) h)) (Ev.ite_neg (by simp) (Ev.now _)),by simp⟩

theorem FnExactRecoverStream : laws_FnExactRecoverStream.Pure := by
 intro l hm hm8 hv
 apply Ev.rounds
 unfold laws_FnExactRecoverStream.f
 by_cases h : (l.length : Int) > 1048576
 ·exact Ev.ite_pos h (Ev.now _)
 ·refine Ev.ite_neg h ?_
  have ht := toIntS_ev l (by omega)
  obtain ⟨r,hs,hi,hb⟩ := both l (by omega)
  have heq := eqOpS_same r (by omega)
  have hheld := heldOpS_ev r.length 1 (by omega) (by omega)
  refine Ev.bind ht (Ev.bind hs (Ev.bind ht (Ev.bind hi (Ev.bind heq (Ev.ite_pos rfl ?_)))))
  refine Ev.bind ht (Ev.bind (eqIntS_same l (by omega)) (Ev.ite_pos rfl ?_))
  refine Ev.bind (markIntS_ev l 1 (by omega) (by omega)) (Ev.ite_neg (by omega) (Ev.bind heq ?_))
  refine Ev.step (fun k => by simp only [laws_FnExactRecoverStream.j0];exact rfl) ?_
  refine Ev.ite_neg (by decide) (Ev.bind (markOpS_ev r 1 (by omega) (by omega)) (Ev.bind hheld (Ev.ite_neg (by omega) (Ev.ite_pos rfl ?_))))
  exact Ev.bind ht (Ev.bind hi (Ev.bind heq (Ev.ite_pos rfl (Ev.bind hheld (Ev.ite_neg (by omega) (Ev.ite_pos rfl (Ev.now _)))))))
end Go.Proofs.Ytbokjhdhpmmpfaa.Pure
