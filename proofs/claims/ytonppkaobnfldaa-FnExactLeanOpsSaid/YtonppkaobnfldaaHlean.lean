/- Programs without idle orders and with new places: the reference's two loops and the program's one. -/
import Derived.Test.YtonppkaobnfldaaHidle
import Derived.Test.YtonppkaobnfldaaHtab
import Derived.Test.YtonppkaobnfldaaQ49
import Derived.Test.YtonppkaobnfldaaQ50
import Derived.Test.YtonppkaobnfldaaQ70
import Derived.Test.YtonppkaobnfldaaQ71
namespace Go.Proofs.Ytonppkaobnfldaa.Q
open Go.RowKit Go.Proofs.YtonppkaobnfldaaW.PrintWords
set_option linter.unusedVariables false
set_option linter.unusedSimpArgs false

/-- Was something put at a place in the first orders? -/
def putB (l : List Op) (i : Nat) (x : Int) : Bool := (l.take i).any (fun o => decide (o.f0 = 15) && decide (o.f1 = x))
theorem putB_succ {l : List Op} {i : Nat} (hi : i < l.length) (x : Int) : putB l (i + 1) x = (putB l i x || (decide ((l.getD i zOp).f0 = 15) && decide ((l.getD i zOp).f1 = x))) := by
 unfold putB
 rw [take_getD zOp hi,List.any_append]
 simp
def okGet (l : List Op) (i : Nat) : Bool := !decide ((l.getD i zOp).f0 = 16) || putB l i (l.getD i zOp).f1
def restOk (l : List Op) (i : Nat) : Nat → Bool
 | 0 => true
 | d + 1 => okGet l i && restOk l (i + 1) d
/-- What is told of the first orders: the new places, and the orders. -/
def leanL (l : List Op) : Nat → List (Int × Int) × List Op
 | 0 => ([],[])
 | i + 1 => if idleAt l i = true then leanL l i else if (l.getD i zOp).f0 = 15 then (if ((leanL l i).1.lookup (l.getD i zOp).f1).isSome = true then ((leanL l i).1,(leanL l i).2 ++ [⟨(l.getD i zOp).f0,((leanL l i).1.lookup (l.getD i zOp).f1).getD 0⟩]) else ((leanL l i).1 ++ [((l.getD i zOp).f1,((leanL l i).1.length : Int))],(leanL l i).2 ++ [⟨(l.getD i zOp).f0,((leanL l i).1.length : Int)⟩])) else if (l.getD i zOp).f0 = 16 then ((leanL l i).1,(leanL l i).2 ++ [⟨(l.getD i zOp).f0,((leanL l i).1.lookup (l.getD i zOp).f1).getD 0⟩]) else ((leanL l i).1,(leanL l i).2 ++ [⟨(l.getD i zOp).f0,(l.getD i zOp).f1⟩])
theorem leanL_len (l : List Op) : ∀ i,(leanL l i).1.length ≤ i ∧ (leanL l i).2.length ≤ i
 | 0 => ⟨Nat.le_refl _,Nat.le_refl _⟩
 | i + 1 => by
  have ih := leanL_len l i
  unfold leanL
  repeat' split
  all_goals (try simp only [List.length_append,List.length_singleton])
  all_goals omega
theorem leanL_pos (l : List Op) : ∀ i x v,(leanL l i).1.lookup x = some v → 0 ≤ v
 | 0,x,v,h => by simp [leanL] at h
 | i + 1,x,v,h => by
  have ih := leanL_pos l i x v
  unfold leanL at h
  split at h
  ·exact ih h
  ·split at h
   ·split at h
    ·exact ih h
    ·rename_i hn
     have hn2 : (leanL l i).1.lookup (l.getD i zOp).f1 = none := by
      cases hq : (leanL l i).1.lookup (l.getD i zOp).f1 with
      | none => rfl
      | some n => exact absurd (by rw [hq];rfl) hn
     simp only at h
     rw [lookup_snoc _ _ _ _ hn2] at h
     split at h
     ·have := Option.some.inj h
      omega
     ·exact ih h
   ·split at h
    ·exact ih h
    ·exact ih h
theorem none_of {T : List (Int × Int)} {x : Int} (h : ¬ (T.lookup x).isSome = true) : T.lookup x = none := by
 cases hq : T.lookup x with
 | none => rfl
 | some n => exact absurd (by rw [hq];rfl) h
/-- What was put and is got next has its place. -/
theorem leanL_key (l : List Op) : ∀ i,i ≤ l.length → ∀ x,putB l i x = true → idleIn x (l.drop i) = false → ((leanL l i).1.lookup x).isSome = true
 | 0,_,x,h,_ => by simp [putB] at h
 | i + 1,hi,x,h,hid => by
  have hlt : i < l.length := by omega
  have ih := leanL_key l i (by omega) x
  have e : l.drop i = l.getD i zOp :: l.drop (i + 1) := by rw [List.drop_eq_getElem_cons hlt,getD_lt _ hlt]
  rw [e] at ih
  rw [putB_succ hlt] at h
  by_cases hp : (l.getD i zOp).f0 = 15
  ·by_cases hx : (l.getD i zOp).f1 = x
   ·have hnot : idleAt l i = false := by
     unfold idleAt
     rw [hx,hid,Bool.and_false]
    unfold leanL
    rw [if_neg (by rw [hnot];decide),if_pos hp]
    by_cases hs : ((leanL l i).1.lookup (l.getD i zOp).f1).isSome = true
    ·rw [if_pos hs]
     rw [hx] at hs
     exact hs
    ·rw [if_neg hs]
     simp only
     rw [lookup_snoc _ _ _ _ (none_of hs),if_pos hx.symm]
     rfl
   ·have h2 : putB l i x = true := by
     rw [decide_eq_false hx,Bool.and_false,Bool.or_false] at h
     exact h
    have h3 := ih h2 (by rw [idleIn,if_neg (fun z => hx z.1),if_neg (fun z => hx z.1)];exact hid)
    unfold leanL
    by_cases hid2 : idleAt l i = true
    ·rw [if_pos hid2]
     exact h3
    ·rw [if_neg hid2,if_pos hp]
     by_cases hs : ((leanL l i).1.lookup (l.getD i zOp).f1).isSome = true
     ·rw [if_pos hs]
      exact h3
     ·rw [if_neg hs]
      simp only
      rw [lookup_snoc _ _ _ _ (none_of hs),if_neg (fun z => hx z.symm)]
      exact h3
  ·have h2 : putB l i x = true := by
    rw [decide_eq_false hp,Bool.false_and,Bool.or_false] at h
    exact h
   have hnot : idleAt l i = false := by
    unfold idleAt
    rw [decide_eq_false hp,Bool.false_and]
   have h3 : ((leanL l i).1.lookup x).isSome = true := by
    refine ih h2 ?_
    by_cases hg : (l.getD i zOp).f1 = x ∧ (l.getD i zOp).f0 = 16
    ·rw [idleIn,if_pos hg]
    ·rw [idleIn,if_neg hg,if_neg (fun z => hp z.2)]
     exact hid
   unfold leanL
   rw [if_neg (by rw [hnot];decide),if_neg hp]
   split
   ·exact h3
   ·exact h3
theorem idles_mem (l : List Op) (n i : Nat) : ((i : Int) ∈ idles l n) ↔ i < n ∧ idleAt l i = true := by
 unfold idles
 simp only [List.mem_map,List.mem_filter,List.mem_range]
 constructor
 ·rintro ⟨j,hj,e⟩
  have : j = i := by omega
  subst this
  exact hj
 ·exact fun h => ⟨i,h,rfl⟩
theorem okOp_arg {o : Op} (h : okOp o = true) (h0 : o.f0 = 15 ∨ o.f0 = 16) : 0 ≤ o.f1 ∧ o.f1 < 20 := by
 have := (okOp_iff o).1 h
 unfold most at this
 rcases h0 with h0 | h0 <;> rw [h0] at this <;> simp at this <;> omega

section
variable (l : List Op) (hv : vOps l = true)
include hv
/-- A list of 20 that tells what was put. -/
def PutIs (l : List Op) (i : Nat) (P : List Bool) : Prop := P.length = 20 ∧ ∀ x : Int,0 ≤ x → x < 20 → P.getD x.toNat false = putB l i x
omit hv in
theorem PutIs.set {l : List Op} {i : Nat} {P : List Bool} (h : PutIs l i P) (hi : i < l.length) (hp : (l.getD i zOp).f0 = 15) (ha : 0 ≤ (l.getD i zOp).f1 ∧ (l.getD i zOp).f1 < 20) : PutIs l (i + 1) (P.set ((l.getD i zOp).f1).toNat true) := by
 refine ⟨by rw [List.length_set];exact h.1,fun x h0 h1 => ?_⟩
 have hl := h.1
 rw [putB_succ hi,← h.2 x h0 h1,decide_eq_true hp,Bool.true_and]
 generalize l.getD i zOp = o at *
 rw [List.getD_eq_getElem?_getD,List.getD_eq_getElem?_getD]
 by_cases hx : o.f1 = x
 ·rw [hx,List.getElem?_set_self (by omega),decide_eq_true rfl,Bool.or_true]
  rfl
 ·rw [List.getElem?_set_ne (by omega),decide_eq_false hx,Bool.or_false]
omit hv in
theorem PutIs.on {l : List Op} {i : Nat} {P : List Bool} (h : PutIs l i P) (hi : i < l.length) (hp : ¬ (l.getD i zOp).f0 = 15) : PutIs l (i + 1) P :=
 ⟨h.1,fun x h0 h1 => by rw [putB_succ hi,← h.2 x h0 h1,decide_eq_false hp,Bool.false_and,Bool.or_false]⟩
theorem orderly_ev : ∀ (d i : Nat) (P : List Bool),l.length - i = d → i ≤ l.length → PutIs l i P → Ev (fun k => spec_orderly.l0 k l P (i : Int)) (restOk l i d)
 | 0,i,P,hd,hi,hP => Ev.at (Ev.step (f := fun _ => some true) (fun k => by simp only [spec_orderly.l0];rw [if_neg (by omega)]) (Ev.now _)) rfl
 | d + 1,i,P,hd,hi,hP => by
  have hlt : i < l.length := by omega
  have hl := vOps_len hv
  have hok := vOps_getD hv i hlt
  have hPl := hP.1
  have ih := fun P2 h2 => orderly_ev d (i + 1) P2 (by omega) (by omega) h2
  by_cases hp : (l.getD i zOp).f0 = 15
  ·have ha := okOp_arg hok (.inl hp)
   have hg : ¬ (l.getD i zOp).f0 = 16 := by omega
   have hok2 : okGet l i = true := by unfold okGet;rw [decide_eq_false hg];rfl
   refine Ev.step (fun k => by simp only [spec_orderly.l0];rw [if_pos (by omega),if_pos (by omega),rdO,if_pos hp,if_pos ha.1,if_pos (by omega),Option.bind_some,if_neg hg,w64s hlt (by omega)]) (Ev.at (ih _ (hP.set hlt hp ha)) ?_)
   show _ = (okGet l i && restOk l (i + 1) d)
   rw [hok2,Bool.true_and]
  ·by_cases hg : (l.getD i zOp).f0 = 16
   ·have ha := okOp_arg hok (.inr hg)
    have hq := hP.2 _ ha.1 ha.2
    have e : okGet l i = putB l i (l.getD i zOp).f1 := by unfold okGet;rw [decide_eq_true hg];rfl
    cases hb : putB l i (l.getD i zOp).f1 with
    | true =>
     rw [hb] at hq e
     refine Ev.step (fun k => by simp only [spec_orderly.l0];rw [if_pos (by omega),if_pos (by omega),rdO,if_neg hp,if_pos hg,if_pos ha.1,if_pos (by omega),show rdOf false P (l.getD i zOp).f1 = true from hq,if_pos rfl,w64s hlt (by omega)]) (Ev.at (ih _ (hP.on hlt hp)) ?_)
     show _ = (okGet l i && restOk l (i + 1) d)
     rw [e,Bool.true_and]
    | false =>
     rw [hb] at hq e
     refine Ev.at (Ev.step (f := fun _ => some false) (fun k => by simp only [spec_orderly.l0];rw [if_pos (by omega),if_pos (by omega),rdO,if_neg hp,if_pos hg,if_pos ha.1,if_pos (by omega),show rdOf false P (l.getD i zOp).f1 = false from hq,if_neg (by decide)]) (Ev.now _)) ?_
     show _ = (okGet l i && restOk l (i + 1) d)
     rw [e,Bool.false_and]
   ·have hok2 : okGet l i = true := by unfold okGet;rw [decide_eq_false hg];rfl
    refine Ev.step (fun k => by simp only [spec_orderly.l0];rw [if_pos (by omega),if_pos (by omega),rdO,if_neg hp,if_neg hg,w64s hlt (by omega)]) (Ev.at (ih _ (hP.on hlt hp)) ?_)
    show _ = (okGet l i && restOk l (i + 1) d)
    rw [hok2,Bool.true_and]
theorem implLean_ev : ∀ (d i : Nat) (P : List Bool),l.length - i = d → i ≤ l.length → PutIs l i P → Ev (fun k => impl_LeanOps.l0 k (idles l l.length) (leanL l i).2 l (i : Int) P (leanL l i).1) (if restOk l i d = true then (leanL l l.length).2 else [])
 | 0,i,P,hd,hi,hP => by
  obtain rfl : i = l.length := by omega
  refine Ev.at (Ev.step (f := fun _ => some (leanL l l.length).2) (fun k => by simp only [impl_LeanOps.l0];rw [if_neg (by omega)]) (Ev.now _)) (if_pos (show restOk l l.length 0 = true from rfl)).symm
 | d + 1,i,P,hd,hi,hP => by
  have hlt : i < l.length := by omega
  have hl := vOps_len hv
  have hok := vOps_getD hv i hlt
  have hPl := hP.1
  have hll := leanL_len l i
  have hil := idles_len l l.length
  have ih := fun P2 h2 => implLean_ev d (i + 1) P2 (by omega) (by omega) h2
  have hc := contains_ev (idles l l.length) (i : Int) (by omega)
  rw [decide_eq_decide.2 (idles_mem l l.length i)] at hc
  by_cases hp : (l.getD i zOp).f0 = 15
  ·have ha := okOp_arg hok (.inl hp)
   have hg : ¬ (l.getD i zOp).f0 = 16 := by omega
   have hok2 : okGet l i = true := by unfold okGet;rw [decide_eq_false hg];rfl
   have hih := ih _ (hP.set hlt hp ha)
   rw [show restOk l i (d + 1) = (okGet l i && restOk l (i + 1) d) from rfl,hok2,Bool.true_and]
   refine Ev.step (fun k => by simp only [impl_LeanOps.l0];rw [if_pos (by omega),if_pos (by omega),rdO,if_pos hp,if_pos ha.1,if_pos ha.2,w64s hlt (by omega)]) ?_
   refine Ev.bind hc ?_
   by_cases hid : idleAt l i = true
   ·rw [decide_eq_true (show i < l.length ∧ idleAt l i = true from ⟨hlt,hid⟩)]
    have e : leanL l (i + 1) = leanL l i := by rw [leanL,if_pos hid]
    rw [e] at hih
    exact Ev.ite_pos rfl hih
   ·rw [decide_eq_false (fun z : i < l.length ∧ idleAt l i = true => hid z.2)]
    refine Ev.ite_neg (by decide) ?_
    by_cases hs : ((leanL l i).1.lookup (l.getD i zOp).f1).isSome = true
    ·have e : leanL l (i + 1) = ((leanL l i).1,(leanL l i).2 ++ [⟨(l.getD i zOp).f0,((leanL l i).1.lookup (l.getD i zOp).f1).getD 0⟩]) := by rw [leanL,if_neg hid,if_pos hp,if_pos hs]
     rw [e] at hih
     exact Ev.ite_pos hs (Ev.ite_pos (by omega) hih)
    ·have e : leanL l (i + 1) = ((leanL l i).1 ++ [((l.getD i zOp).f1,((leanL l i).1.length : Int))],(leanL l i).2 ++ [⟨(l.getD i zOp).f0,((leanL l i).1.length : Int)⟩]) := by rw [leanL,if_neg hid,if_pos hp,if_neg hs]
     rw [e] at hih
     exact Ev.ite_neg hs (Ev.ite_pos (by omega) (Ev.ite_pos (by omega) hih))
  ·have hid : idleAt l i = false := by unfold idleAt;rw [decide_eq_false hp,Bool.false_and]
   have hih := ih _ (hP.on hlt hp)
   by_cases hg : (l.getD i zOp).f0 = 16
   ·have ha := okOp_arg hok (.inr hg)
    have hq := hP.2 _ ha.1 ha.2
    have e0 : okGet l i = putB l i (l.getD i zOp).f1 := by unfold okGet;rw [decide_eq_true hg];rfl
    rw [show restOk l i (d + 1) = (okGet l i && restOk l (i + 1) d) from rfl,e0]
    refine Ev.step (fun k => by simp only [impl_LeanOps.l0];rw [if_pos (by omega),if_pos (by omega),rdO,if_neg hp,if_pos hg,if_pos ha.1,if_pos ha.2,hq,w64s hlt (by omega)]) ?_
    cases hb : putB l i (l.getD i zOp).f1 with
    | true =>
     have e : leanL l (i + 1) = ((leanL l i).1,(leanL l i).2 ++ [⟨(l.getD i zOp).f0,((leanL l i).1.lookup (l.getD i zOp).f1).getD 0⟩]) := by rw [leanL,if_neg (by rw [hid];decide),if_neg hp,if_pos hg]
     rw [e] at hih
     rw [Bool.true_and]
     exact Ev.ite_pos rfl (Ev.ite_pos (by omega) hih)
    | false =>
     rw [Bool.false_and]
     exact Ev.at (Ev.ite_neg (by decide) (Ev.now _)) (by rw [if_neg (by decide)])
   ·have hok2 : okGet l i = true := by unfold okGet;rw [decide_eq_false hg];rfl
    have e : leanL l (i + 1) = ((leanL l i).1,(leanL l i).2 ++ [⟨(l.getD i zOp).f0,(l.getD i zOp).f1⟩]) := by rw [leanL,if_neg (by rw [hid];decide),if_neg hp,if_neg hg]
    rw [show restOk l i (d + 1) = (okGet l i && restOk l (i + 1) d) from rfl,hok2,Bool.true_and]
    rw [e] at hih
    refine Ev.step (fun k => by simp only [impl_LeanOps.l0];rw [if_pos (by omega),if_pos (by omega),rdO,if_neg hp,if_neg hg,w64s hlt (by omega)]) (Ev.ite_pos (by omega) hih)
/-- A list of 20 that tells the places. -/
def PlaceIs (l : List Op) (i : Nat) (P : List Int) : Prop := P.length = 20 ∧ ∀ x : Int,0 ≤ x → x < 20 → P.getD x.toNat 0 = ((leanL l i).1.lookup x).getD (-1)
theorem specLean_ev : ∀ (d i : Nat) (P : List Int),l.length - i = d → i ≤ l.length → restOk l i d = true → PlaceIs l i P → Ev (fun k => spec_lean.l1 k l (leanL l i).2 P ((leanL l i).1.length : Int) (i : Int)) (leanL l l.length).2
 | 0,i,P,hd,hi,hr,hP => by
  obtain rfl : i = l.length := by omega
  exact Ev.step (fun k => by simp only [spec_lean.l1];rw [if_neg (by omega)]) (Ev.now _)
 | d + 1,i,P,hd,hi,hr,hP => by
  have hlt : i < l.length := by omega
  have hl := vOps_len hv
  have hok := vOps_getD hv i hlt
  have hPl := hP.1
  have hll := leanL_len l i
  have hr2 : okGet l i = true ∧ restOk l (i + 1) d = true := by
   have : (okGet l i && restOk l (i + 1) d) = true := hr
   rwa [Bool.and_eq_true] at this
  have ih := fun P2 h2 => specLean_ev d (i + 1) P2 (by omega) (by omega) hr2.2 h2
  have hsi := specIdle_ev l i hlt (by omega)
  have e0 : l.drop i = l.getD i zOp :: l.drop (i + 1) := by rw [List.drop_eq_getElem_cons hlt,getD_lt _ hlt]
  refine Ev.step (fun k => by simp only [spec_lean.l1];rw [if_pos (by omega),if_pos (by omega),rdO,w64s hlt (by omega)]) ?_
  refine Ev.bind hsi ?_
  by_cases hid : idleAt l i = true
  ·rw [hid]
   have e : leanL l (i + 1) = leanL l i := by rw [leanL,if_pos hid]
   have hih := ih P (by unfold PlaceIs;rw [e];exact hP)
   rw [e] at hih
   exact Ev.ite_pos rfl hih
  ·have hidf : idleAt l i = false := by simpa using hid
   rw [hidf]
   refine Ev.ite_neg (by decide) ?_
   by_cases hp : (l.getD i zOp).f0 = 15
   ·have ha := okOp_arg hok (.inl hp)
    have hq := hP.2 _ ha.1 ha.2
    have hrd : rd P (l.getD i zOp).f1 = ((leanL l i).1.lookup (l.getD i zOp).f1).getD (-1) := hq
    refine Ev.ite_pos hp (Ev.ite_pos ha.1 (Ev.ite_pos (by omega) ?_))
    by_cases hs : ((leanL l i).1.lookup (l.getD i zOp).f1).isSome = true
    ·obtain ⟨v,hvv⟩ := Option.isSome_iff_exists.1 hs
     have hpos := leanL_pos l i _ v hvv
     rw [hvv,Option.getD_some] at hrd
     have e : leanL l (i + 1) = ((leanL l i).1,(leanL l i).2 ++ [⟨(l.getD i zOp).f0,v⟩]) := by rw [leanL,if_neg hid,if_pos hp,if_pos hs,hvv,Option.getD_some]
     have hih := ih P (by unfold PlaceIs;rw [e];exact hP)
     rw [e] at hih
     rw [hrd,decide_eq_false (show ¬ v < 0 by omega)]
     refine Ev.step (fun k => by simp only [spec_lean.j2];rw [if_neg (by decide),if_pos hp,if_pos ha.1,if_pos (by omega),hrd,if_pos (by omega),if_pos (by omega),w64s hlt (by omega)]) hih
    ·have hn := none_of hs
     rw [hn,Option.getD_none] at hrd
     have e : leanL l (i + 1) = ((leanL l i).1 ++ [((l.getD i zOp).f1,((leanL l i).1.length : Int))],(leanL l i).2 ++ [⟨(l.getD i zOp).f0,((leanL l i).1.length : Int)⟩]) := by rw [leanL,if_neg hid,if_pos hp,if_neg hs]
     have hset : rd (P.set ((l.getD i zOp).f1).toNat ((leanL l i).1.length : Int)) (l.getD i zOp).f1 = ((leanL l i).1.length : Int) := by
      unfold rd
      rw [List.getD_eq_getElem?_getD,List.getElem?_set_self (by omega)]
      rfl
     have hih := ih (P.set ((l.getD i zOp).f1).toNat ((leanL l i).1.length : Int)) (by
      refine ⟨by rw [List.length_set];exact hP.1,fun x h0 h1 => ?_⟩
      rw [e]
      simp only
      rw [lookup_snoc _ _ _ _ hn,List.getD_eq_getElem?_getD]
      by_cases hx : x = (l.getD i zOp).f1
      ·rw [hx,List.getElem?_set_self (by omega),if_pos rfl]
       rfl
      ·rw [List.getElem?_set_ne (by omega),if_neg hx,← List.getD_eq_getElem?_getD]
       exact hP.2 x h0 h1)
     rw [e] at hih
     simp only [List.length_append,List.length_singleton] at hih
     rw [hrd,decide_eq_true (show (-1 : Int) < 0 by omega)]
     refine Ev.step (fun k => by simp only [spec_lean.j2];rw [if_pos trivial,if_pos ha.1,if_pos (by omega),Option.bind_some,if_pos hp,hset,if_pos (by omega),if_pos (by omega),w64s hlt (by omega),w64 (e := ((leanL l i).1.length : Int) + 1) (by omega)]) (Ev.congr (fun k => ?_) hih)
     congr 1
   ·refine Ev.ite_neg hp ?_
    by_cases hg : (l.getD i zOp).f0 = 16
    ·have ha := okOp_arg hok (.inr hg)
     have hq := hP.2 _ ha.1 ha.2
     have hrd : rd P (l.getD i zOp).f1 = ((leanL l i).1.lookup (l.getD i zOp).f1).getD (-1) := hq
     have hput : putB l i (l.getD i zOp).f1 = true := by
      have := hr2.1
      unfold okGet at this
      rwa [decide_eq_true hg,Bool.not_true,Bool.false_or] at this
     have hs := leanL_key l i hi _ hput (by rw [e0,idleIn,if_pos ⟨rfl,hg⟩])
     obtain ⟨v,hvv⟩ := Option.isSome_iff_exists.1 hs
     have hpos := leanL_pos l i _ v hvv
     rw [hvv,Option.getD_some] at hrd
     have e : leanL l (i + 1) = ((leanL l i).1,(leanL l i).2 ++ [⟨(l.getD i zOp).f0,v⟩]) := by rw [leanL,if_neg hid,if_neg hp,if_pos hg,hvv,Option.getD_some]
     have hih := ih P (by unfold PlaceIs;rw [e];exact hP)
     rw [e] at hih
     refine Ev.step (fun k => by simp only [spec_lean.j2];rw [if_neg (by decide),if_neg hp,if_pos hg,if_pos ha.1,if_pos (by omega),hrd,if_pos (by omega),if_pos (by omega),w64s hlt (by omega)]) hih
    ·have e : leanL l (i + 1) = ((leanL l i).1,(leanL l i).2 ++ [⟨(l.getD i zOp).f0,(l.getD i zOp).f1⟩]) := by rw [leanL,if_neg hid,if_neg hp,if_neg hg]
     have hih := ih P (by unfold PlaceIs;rw [e];exact hP)
     rw [e] at hih
     refine Ev.step (fun k => by simp only [spec_lean.j2];rw [if_neg (by decide),if_neg hp,if_neg hg,if_pos (by omega),w64s hlt (by omega)]) hih
theorem lean_ev (hr : restOk l 0 l.length = true) : Ev (fun k => spec_lean.f k l) (leanL l l.length).2 := by
 unfold spec_lean.f
 have h := ev_steps (L := fun k (b : List Int) i => spec_lean.l0 k l [] b i) (n := 20) (fun i => List.replicate i (-1)) (r := (leanL l l.length).2) (fun i hi q hq => ?_) ?_
 ·exact h
 ·refine Ev.step (fun k => by simp only [spec_lean.l0];rw [if_pos (by omega),if_pos (by rw [List.length_replicate];omega),w64s hi (by omega)]) ?_
  rw [← List.replicate_succ']
  exact hq
 ·refine Ev.step (fun k => by simp only [spec_lean.l0];rw [if_neg (by omega)]) ?_
  refine specLean_ev l hv l.length 0 _ (by omega) (by omega) hr ⟨List.length_replicate,fun x h0 h1 => ?_⟩
  rw [getD_lt 0 (by rw [List.length_replicate];omega),List.getElem_replicate]
  simp [leanL]
end
/-- Both, of all lists. -/
theorem leanOps_both (l : List Op) (hn : l.length ≤ 1048576) : ∃ r : List Op,Ev (fun k => spec_LeanOps.f k l) r ∧ Ev (fun k => impl_LeanOps.f k l) r ∧ r.length ≤ 1048576 := by
 unfold spec_LeanOps.f impl_LeanOps.f
 have hs := validOps_ev l (by omega)
 have hi := implValidOps_ev l (by omega)
 cases hv : vOps l with
 | false =>
  rw [hv] at hs hi
  exact ⟨[],Ev.bind hs (Ev.ite_neg (by decide) (Ev.now _)),Ev.bind hi (Ev.ite_neg (by decide) (Ev.now _)),by simp⟩
 | true =>
  rw [hv] at hs hi
  have hput : PutIs l 0 (List.replicate 20 false) := ⟨List.length_replicate,fun x h0 h1 => by rw [getD_lt false (by rw [List.length_replicate];omega),List.getElem_replicate];simp [putB]⟩
  have ho : Ev (fun k => spec_orderly.f k l) (restOk l 0 l.length) := by
   unfold spec_orderly.f
   exact Ev.ite_pos (by decide) (orderly_ev l hv l.length 0 _ (by omega) (by omega) hput)
  have hil := implLean_ev l hv l.length 0 _ (by omega) (by omega) hput
  have hid := implIdles_ev l hn
  have hll := leanL_len l l.length
  cases hr : restOk l 0 l.length with
  | false =>
   rw [hr] at ho hil
   rw [if_neg (by decide)] at hil
   exact ⟨[],Ev.bind hs (Ev.ite_pos rfl (Ev.bind ho (Ev.ite_neg (by decide) (Ev.now _)))),Ev.bind hi (Ev.ite_pos rfl (Ev.bind hid hil)),by simp⟩
  | true =>
   rw [hr] at ho hil
   rw [if_pos rfl] at hil
   exact ⟨(leanL l l.length).2,Ev.bind hs (Ev.ite_pos rfl (Ev.bind ho (Ev.ite_pos rfl (Ev.bind (lean_ev l hv hr) (Ev.now _))))),Ev.bind hi (Ev.ite_pos rfl (Ev.bind hid hil)),by omega⟩
end Go.Proofs.Ytonppkaobnfldaa.Q
