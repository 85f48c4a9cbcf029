/- Orders that put what is never got: what both functions tell. -/
import Derived.Test.YtonppkaobnfldaaHop
import Derived.Test.YtonppkaobnfldaaQ42
import Derived.Test.YtonppkaobnfldaaQ64
namespace Go.Proofs.Ytonppkaobnfldaa.Q
open Go.RowKit Go.Proofs.YtonppkaobnfldaaW.PrintWords
set_option linter.unusedVariables false
set_option linter.unusedSimpArgs false

/-- Is what was put at this place never got in these orders? -/
def idleIn (a : Int) : List Op → Bool
 | [] => true
 | o :: r => if o.f1 = a ∧ o.f0 = 16 then false else if o.f1 = a ∧ o.f0 = 15 then true else idleIn a r
def idleAt (l : List Op) (i : Nat) : Bool := decide ((l.getD i zOp).f0 = 15) && idleIn (l.getD i zOp).f1 (l.drop (i + 1))
def idles (l : List Op) (n : Nat) : List Int := ((List.range n).filter (idleAt l)).map fun (j : Nat) => (j : Int)
theorem idles_len (l : List Op) (n : Nat) : (idles l n).length ≤ n := by
 have := List.length_filter_le (idleAt l) (List.range n)
 simp [idles] at this ⊢
 exact this
theorem idles_succ (l : List Op) (i : Nat) : idles l (i + 1) = if idleAt l i then idles l i ++ [(i : Int)] else idles l i := by
 unfold idles
 rw [List.range_succ,List.filter_append,List.map_append]
 cases h : idleAt l i <;> simp [h]

theorem specIdle_ev (l : List Op) (i : Nat) (hi : i < l.length) (hn : l.length ≤ 4611686018427387904) : Ev (fun k => spec_idle.f k l (i : Int)) (idleAt l i) := by
 unfold spec_idle.f
 refine Ev.ite_pos (by omega) (Ev.ite_pos (by omega) ?_)
 rw [rdO]
 unfold idleAt
 by_cases hc : (l.getD i zOp).f0 = 15
 ·refine Ev.ite_pos hc ?_
  rw [hc,w64s hi hn]
  simp only [decide_true,Bool.true_and]
  have key : ∀ d j,l.length - j = d → j ≤ l.length → Ev (fun k => spec_idle.l0 k l (i : Int) (j : Int)) (idleIn (l.getD i zOp).f1 (l.drop j)) := by
   intro d
   induction d with
   | zero =>
    intro j hd hj
    obtain rfl : j = l.length := by omega
    refine Ev.step (f := fun _ => some true) (fun k => ?_) (by rw [List.drop_length];exact Ev.now _)
    simp only [spec_idle.l0]
    rw [if_neg (by omega)]
   | succ d ih =>
    intro j hd hj
    have hlt : j < l.length := by omega
    have e : l.drop j = l.getD j zOp :: l.drop (j + 1) := by rw [List.drop_eq_getElem_cons hlt,getD_lt _ hlt]
    have h := ih (j + 1) (by omega) (by omega)
    rw [e]
    by_cases ha : (l.getD j zOp).f1 = (l.getD i zOp).f1
    ·refine Ev.step (f := fun k => spec_idle.j1 k l (i : Int) (j : Int) ((l.getD j zOp).f0 == 16)) (fun k => ?_) ?_
     ·simp only [spec_idle.l0]
      rw [if_pos (by omega),if_pos (by omega),if_pos (by omega),if_pos (by omega),rdO,rdO,if_pos ha]
     ·by_cases hg : (l.getD j zOp).f0 = 16
      ·refine Ev.step (f := fun _ => some false) (fun k => ?_) (Ev.at (Ev.now _) ?_)
       ·simp only [spec_idle.j1]
        rw [if_pos (beq_iff_eq.2 hg)]
       ·rw [idleIn,if_pos ⟨ha,hg⟩]
      ·by_cases hp : (l.getD j zOp).f0 = 15
       ·refine Ev.step (f := fun _ => some true) (fun k => ?_) (Ev.at (Ev.now _) ?_)
        ·simp only [spec_idle.j1]
         rw [if_neg (fun z => hg (beq_iff_eq.1 z)),if_pos (by omega),if_pos (by omega),if_pos (by omega),if_pos (by omega),rdO,rdO,if_pos ha,if_pos hp]
        ·rw [idleIn,if_neg (fun z => hg z.2),if_pos ⟨ha,hp⟩]
       ·refine Ev.step (f := fun k => spec_idle.l0 k l (i : Int) ((j + 1 : Nat) : Int)) (fun k => ?_) (Ev.at h ?_)
        ·simp only [spec_idle.j1]
         rw [if_neg (fun z => hg (beq_iff_eq.1 z)),if_pos (by omega),if_pos (by omega),if_pos (by omega),if_pos (by omega),rdO,rdO,if_pos ha,if_neg hp,w64s hlt hn]
        ·rw [idleIn,if_neg (fun z => hg z.2),if_neg (fun z => hp z.2)]
    ·refine Ev.step (f := fun k => spec_idle.j1 k l (i : Int) (j : Int) false) (fun k => ?_) ?_
     ·simp only [spec_idle.l0]
      rw [if_pos (by omega),if_pos (by omega),if_pos (by omega),if_pos (by omega),rdO,rdO,if_neg ha]
     ·refine Ev.step (f := fun k => spec_idle.l0 k l (i : Int) ((j + 1 : Nat) : Int)) (fun k => ?_) (Ev.at h ?_)
      ·simp only [spec_idle.j1]
       rw [if_neg (by simp),if_pos (by omega),if_pos (by omega),if_pos (by omega),if_pos (by omega),rdO,rdO,if_neg ha,w64s hlt hn]
      ·rw [idleIn,if_neg (fun z => ha z.1),if_neg (fun z => ha z.1)]
  exact key _ (i + 1) rfl (by omega)
 ·refine Ev.at (Ev.ite_neg hc (Ev.now _)) ?_
  simp only [hc,decide_false,Bool.false_and]

theorem implIdles_ev (l : List Op) (hn : l.length ≤ 1048576) : Ev (fun k => impl_idlePuts.f k l) (idles l l.length) := by
 have hn' : l.length ≤ 4611686018427387904 := by omega
 unfold impl_idlePuts.f
 have h := ev_steps (L := fun k b i => impl_idlePuts.l0 k l b l (l.length : Int) i) (n := l.length) (fun i => idles l i) (r := idles l l.length) (fun i hi r hr => ?_) ?_
 ·simpa [idles] using h
 ·have hl := idles_len l i
  by_cases hc : (l.getD i zOp).f0 = 15
  ·have hdl : (l.drop (i + 1)).length = l.length - (i + 1) := by simp
   -- the inner loop
   have key : ∀ d j,(l.drop (i + 1)).length - j = d → j ≤ (l.drop (i + 1)).length → idleIn (l.getD i zOp).f1 ((l.drop (i + 1)).drop j) = idleAt l i →
     Ev (fun k => impl_idlePuts.l1 k l (idles l i) (i : Int) true l (l.length : Int) (i : Int) (l.drop (i + 1)) ((l.drop (i + 1)).length : Int) (j : Int) (l.getD i zOp).f0 (l.getD i zOp).f1) r := by
    intro d
    induction d with
    | zero =>
     intro j hd hj hid
     obtain rfl : j = (l.drop (i + 1)).length := by omega
     rw [List.drop_length,idleIn] at hid
     refine Ev.step (f := fun k => impl_idlePuts.l0 k l (idles l (i + 1)) l (l.length : Int) ((i + 1 : Nat) : Int)) (fun k => ?_) hr
     simp only [impl_idlePuts.l1]
     rw [if_neg (by omega),if_pos trivial,if_pos (by omega),w64s hi hn',idles_succ,← hid,if_pos rfl]
    | succ d ih =>
     intro j hd hj hid
     have hlt : j < (l.drop (i + 1)).length := by omega
     have e : (l.drop (i + 1)).drop j = (l.drop (i + 1)).getD j zOp :: (l.drop (i + 1)).drop (j + 1) := by rw [List.drop_eq_getElem_cons hlt,getD_lt _ hlt]
     rw [e,idleIn] at hid
     have hjn : j < (l.drop (i + 1)).length := hlt
     have w : wrap64 ((j : Int) + 1) = ((j + 1 : Nat) : Int) := w64s hlt (by omega)
     by_cases ha : ((l.drop (i + 1)).getD j zOp).f1 = (l.getD i zOp).f1
     ·by_cases hp : ((l.drop (i + 1)).getD j zOp).f0 = 15
      ·rw [if_neg (fun z => by omega),if_pos ⟨ha,hp⟩] at hid
       refine Ev.step (f := fun k => impl_idlePuts.l0 k l (idles l (i + 1)) l (l.length : Int) ((i + 1 : Nat) : Int)) (fun k => ?_) hr
       simp only [impl_idlePuts.l1]
       rw [if_pos (by omega),if_pos (by omega),if_pos (by omega),rdO,if_pos ha,if_pos hp,if_pos (by omega),w64s hi hn',idles_succ,← hid,if_pos rfl]
      ·by_cases hg : ((l.drop (i + 1)).getD j zOp).f0 = 16
       ·rw [if_pos ⟨ha,hg⟩] at hid
        refine Ev.step (f := fun k => impl_idlePuts.l0 k l (idles l (i + 1)) l (l.length : Int) ((i + 1 : Nat) : Int)) (fun k => ?_) hr
        simp only [impl_idlePuts.l1]
        rw [if_pos (by omega),if_pos (by omega),if_pos (by omega),rdO,if_pos ha,if_neg hp,if_pos hg,w64s hi hn',idles_succ,← hid,if_neg (by simp)]
       ·rw [if_neg (fun z => hg z.2),if_neg (fun z => hp z.2)] at hid
        refine Ev.step (f := fun k => impl_idlePuts.l1 k l (idles l i) (i : Int) true l (l.length : Int) (i : Int) (l.drop (i + 1)) ((l.drop (i + 1)).length : Int) ((j + 1 : Nat) : Int) (l.getD i zOp).f0 (l.getD i zOp).f1) (fun k => ?_) (ih (j + 1) (by omega) (by omega) hid)
        simp only [impl_idlePuts.l1]
        rw [if_pos (by omega),if_pos (by omega),if_pos (by omega),rdO,if_pos ha,if_neg hp,if_neg hg,w]
     ·rw [if_neg (fun z => ha z.1),if_neg (fun z => ha z.1)] at hid
      refine Ev.step (f := fun k => impl_idlePuts.l1 k l (idles l i) (i : Int) true l (l.length : Int) (i : Int) (l.drop (i + 1)) ((l.drop (i + 1)).length : Int) ((j + 1 : Nat) : Int) (l.getD i zOp).f0 (l.getD i zOp).f1) (fun k => ?_) (ih (j + 1) (by omega) (by omega) hid)
      simp only [impl_idlePuts.l1]
      rw [if_pos (by omega),if_pos (by omega),if_pos (by omega),rdO,if_neg ha,w]
   refine Ev.step (f := fun k => impl_idlePuts.l1 k l (idles l i) (i : Int) true l (l.length : Int) (i : Int) (l.drop (i + 1)) ((l.drop (i + 1)).length : Int) 0 (l.getD i zOp).f0 (l.getD i zOp).f1) (fun k => ?_) ?_
   ·simp only [impl_idlePuts.l0]
    rw [if_pos (by omega),if_pos (by omega),if_pos (by omega),rdO,if_pos hc,w64s hi hn',if_pos (by omega),if_pos (by omega)]
    simp only [Option.bind_some,Int.toNat_natCast]
   ·have := key _ 0 rfl (by omega) (by rw [List.drop_zero,idleAt,hc];simp)
    simpa using this
  ·refine Ev.step (f := fun k => impl_idlePuts.l0 k l (idles l (i + 1)) l (l.length : Int) ((i + 1 : Nat) : Int)) (fun k => ?_) hr
   simp only [impl_idlePuts.l0]
   rw [if_pos (by omega),if_pos (by omega),if_pos (by omega),rdO,if_neg hc,w64s hi hn',idles_succ,if_neg (by unfold idleAt;rw [decide_eq_false hc];simp)]
 ·refine Ev.step (f := fun _ => some (idles l l.length)) (fun k => ?_) (Ev.now _)
  simp only [impl_idlePuts.l0]
  rw [if_neg (by omega)]
theorem specIdlePuts_ev (l : List Op) (hn : l.length ≤ 4611686018427387904) : Ev (fun k => spec_IdlePuts.f k l) (if vOps l then idles l l.length else []) := by
 unfold spec_IdlePuts.f
 refine Ev.bind (validOps_ev l hn) ?_
 cases hv : vOps l with
 | false => exact Ev.ite_neg (by simp) (Ev.now _)
 | true =>
  refine Ev.ite_pos rfl ?_
  have hl := vOps_len hv
  have h := ev_steps (L := fun k b i => spec_IdlePuts.l0 k l b i) (n := l.length) (fun i => idles l i) (r := idles l l.length) (fun i hi r hr => ?_) ?_
  ·simpa [idles] using h
  ·have h1 := idles_len l i
   refine Ev.step (fun k => by simp only [spec_IdlePuts.l0];rw [if_pos (by omega)]) (Ev.bind (specIdle_ev l i hi hn) ?_)
   rw [idles_succ] at hr
   rw [w64s hi hn]
   cases hid : idleAt l i with
   | true =>
    rw [hid,if_pos rfl] at hr
    exact Ev.ite_pos rfl (Ev.ite_pos (by omega) hr)
   | false =>
    rw [hid,if_neg (by simp)] at hr
    exact Ev.ite_neg (by simp) hr
  ·refine Ev.step (f := fun _ => some (idles l l.length)) (fun k => ?_) (Ev.now _)
   simp only [spec_IdlePuts.l0]
   rw [if_neg (by omega)]
theorem implIdlePuts_ev (l : List Op) (hn : l.length ≤ 4611686018427387904) : Ev (fun k => impl_IdlePuts.f k l) (if vOps l then idles l l.length else []) := by
 unfold impl_IdlePuts.f
 refine Ev.bind (implValidOps_ev l hn) ?_
 cases hv : vOps l with
 | false => exact Ev.ite_neg (by simp) (Ev.now _)
 | true =>
  have hl := vOps_len hv
  exact Ev.ite_pos rfl (Ev.bind (implIdles_ev l (by omega)) (Ev.now _))
theorem implIdlePuts_ev_len (l : List Op) : (if vOps l then idles l l.length else []).length ≤ 300 := by
 cases hv : vOps l with
 | false => simp
 | true =>
  have h1 := idles_len l l.length
  have h2 := vOps_len hv
  simp
  omega
end Go.Proofs.Ytonppkaobnfldaa.Q
