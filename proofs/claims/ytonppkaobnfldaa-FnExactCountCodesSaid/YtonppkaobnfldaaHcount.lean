/- How many orders of each code: what both functions tell. -/
import Derived.Test.YtonppkaobnfldaaHop
import Derived.Test.YtonppkaobnfldaaQ5
namespace Go.Proofs.Ytonppkaobnfldaa.Q
open Go.RowKit Go.Proofs.YtonppkaobnfldaaW.PrintWords
set_option linter.unusedVariables false

def cntStep (acc : List Int) (o : Op) : List Int := acc.set o.f0.toNat (wrap64 (rd acc o.f0 + 1))
def cnt (l : List Op) : List Int := l.foldl cntStep (List.replicate 20 0)
theorem cntStep_len (acc : List Int) (o : Op) : (cntStep acc o).length = acc.length := by simp [cntStep]
theorem cnt_len (l : List Op) : (cnt l).length = 20 := by
  have key : ∀ (l : List Op) (acc : List Int), (l.foldl cntStep acc).length = acc.length := by
    intro l
    induction l with
    | nil => intro acc; rfl
    | cons o l ih => intro acc; rw [List.foldl_cons, ih, cntStep_len]
  rw [cnt, key]; simp
theorem cnt_snoc (l : List Op) (i : Nat) (h : i < l.length) : cnt (l.take (i + 1)) = cntStep (cnt (l.take i)) (l.getD i zOp) := by
  rw [take_getD zOp h, cnt, List.foldl_append]; rfl

theorem specCount_ev (l : List Op) (hn : l.length ≤ 4611686018427387904) : Ev (fun k => spec_CountCodes.f k l) (if vOps l then cnt l else []) := by
  unfold spec_CountCodes.f
  refine Ev.bind (validOps_ev l hn) ?_
  cases hv : vOps l with
  | false => exact Ev.ite_neg (by simp) (Ev.now _)
  | true =>
    refine Ev.ite_pos rfl (Ev.ite_pos (by omega) ?_)
    have h := ev_steps (L := fun k b i => spec_CountCodes.l0 k l b i) (n := l.length) (fun i => cnt (l.take i)) (r := cnt l) (fun i hi r hr => ?_) ?_
    · simpa [cnt] using h
    · refine Ev.step (f := fun k => spec_CountCodes.l0 k l (cnt (l.take (i + 1))) ((i + 1 : Nat) : Int)) (fun k => ?_) hr
      have hok := (okOp_iff _).1 (vOps_getD hv i hi)
      simp only [spec_CountCodes.l0]
      rw [if_pos (by omega), if_pos (by omega), rdO, cnt_len, if_pos (by omega), if_pos (by omega), w64s hi hn, cnt_snoc l i hi]
      rfl
    · refine Ev.step (f := fun _ => some (cnt l)) (fun k => ?_) (Ev.now _)
      simp only [spec_CountCodes.l0]
      rw [if_neg (by omega), List.take_length]
theorem implCount_ev (l : List Op) (hn : l.length ≤ 4611686018427387904) : Ev (fun k => impl_CountCodes.f k l) (if vOps l then cnt l else []) := by
  unfold impl_CountCodes.f
  refine Ev.bind (implValidOps_ev l hn) ?_
  cases hv : vOps l with
  | false => exact Ev.ite_neg (by simp) (Ev.now _)
  | true =>
    refine Ev.ite_pos rfl (Ev.ite_pos (by omega) ?_)
    have h := ev_steps (L := fun k b i => impl_CountCodes.l0 k b l (l.length : Int) i) (n := l.length) (fun i => cnt (l.take i)) (r := cnt l) (fun i hi r hr => ?_) ?_
    · simpa [cnt] using h
    · refine Ev.step (f := fun k => impl_CountCodes.l0 k (cnt (l.take (i + 1))) l (l.length : Int) ((i + 1 : Nat) : Int)) (fun k => ?_) hr
      have hok := (okOp_iff _).1 (vOps_getD hv i hi)
      simp only [impl_CountCodes.l0]
      rw [if_pos (by omega), if_pos (by omega), if_pos (by omega), rdO, cnt_len, if_pos (by omega), if_pos (by omega), w64s hi hn, cnt_snoc l i hi]
      rfl
    · refine Ev.step (f := fun _ => some (cnt l)) (fun k => ?_) (Ev.now _)
      simp only [impl_CountCodes.l0]
      rw [if_neg (by omega), List.take_length]
theorem implCount_ev_len (l : List Op) : (if vOps l then cnt l else []).length ≤ 20 := by
  split
  · rw [cnt_len]; omega
  · simp
end Go.Proofs.Ytonppkaobnfldaa.Q
