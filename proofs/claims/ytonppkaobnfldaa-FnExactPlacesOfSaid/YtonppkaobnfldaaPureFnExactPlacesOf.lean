/- The program's PlacesOf returns what the reference's returns: for every list of orders, without a condition. -/
import Derived.Test.YtonppkaobnfldaaHop
import Derived.Test.YtonppkaobnfldaaHmap
import Derived.Test.YtonppkaobnfldaaQ60
namespace Go.Proofs.Ytonppkaobnfldaa.Pure
open Go.RowKit Go.Proofs.Ytonppkaobnfldaa.Q Go.Proofs.YtonppkaobnfldaaW.PrintWords
set_option linter.unusedVariables false
set_option linter.unusedSimpArgs false

def placesAt (l : List Q.Op) (i : Nat) : List Int := impl_PlacesOf.places (l.take i)
theorem placesAt_len (l : List Q.Op) (i : Nat) : (placesAt l i).length ≤ l.length := by
  have h := impl_PlacesOf.len_le (l.take i) []
  unfold placesAt impl_PlacesOf.places
  simp at h
  omega

theorem specPlaces_ev (l : List Q.Op) (hl : l.length ≤ 1048576) : Ev (fun k => spec_PlacesOf.f k l) (if vOps l then ((impl_PlacesOf.places l).length : Int) else -1) := by
  unfold spec_PlacesOf.f
  refine Ev.bind (validOps_ev l (by omega)) ?_
  cases vOps l with
  | false => exact Ev.ite_neg (by decide) (Ev.now _)
  | true =>
    refine Ev.ite_pos rfl ?_
    rw [if_pos rfl]
    refine ev_steps (L := fun k S i => spec_PlacesOf.l0 k l S i) (n := l.length) (placesAt l) (fun i hi r hr => ?_) ?_
    · have hn := impl_PlacesOf.places_next l i hi
      have hlen := placesAt_len l i
      have hs : Ev (fun k => spec_PlacesOf.l0 k l (placesAt l (i + 1)) (wrap64 ((i : Int) + 1))) r := by rw [w64s hi (by omega)]; exact hr
      have hn' : placesAt l (i + 1) = impl_PlacesOf.add (placesAt l i) (l.getD i zOp) := by unfold placesAt; rw [hn, rdO]
      refine Ev.step (fun k => by simp only [spec_PlacesOf.l0]; rw [if_pos (by omega), if_pos (by omega), rdO]) ?_
      by_cases hc : (l.getD i zOp).f0 = 15
      · refine Ev.ite_pos hc (Ev.bind (placeIn_ev (placesAt l i) _ (by omega)) ?_)
        by_cases hm : (l.getD i zOp).f1 ∈ placesAt l i
        · have hp := (placeOf_pos (placesAt l i) (l.getD i zOp).f1).2 hm
          refine Ev.ite_neg (fun z => absurd hp (Int.not_le.2 z)) ?_
          have e : placesAt l (i + 1) = placesAt l i := by rw [hn']; unfold impl_PlacesOf.add addTo; rw [if_pos hc, if_pos hm]
          rw [e] at hs
          exact hs
        · have hp := mt (placeOf_pos (placesAt l i) (l.getD i zOp).f1).1 hm
          refine Ev.ite_pos (Int.not_le.1 hp) (Ev.ite_pos (by omega) ?_)
          have e : placesAt l (i + 1) = placesAt l i ++ [(l.getD i zOp).f1] := by rw [hn']; unfold impl_PlacesOf.add addTo; rw [if_pos hc, if_neg hm]
          rw [e] at hs
          exact hs
      · refine Ev.ite_neg hc ?_
        have e : placesAt l (i + 1) = placesAt l i := by rw [hn']; unfold impl_PlacesOf.add; rw [if_neg hc]
        rw [e] at hs
        exact hs
    · refine Ev.step (fun k => by simp only [spec_PlacesOf.l0]; rw [if_neg (by omega)]) (Ev.at (Ev.now _) ?_)
      unfold placesAt
      rw [List.take_length]

theorem implPlaces_ev (l : List Q.Op) (hl : l.length ≤ 1048576) (hw : ∀ o ∈ l, (Lit.int .i64 o.f1).wf = true) : Ev (fun k => impl_PlacesOf.f k l) (if vOps l then ((impl_PlacesOf.places l).length : Int) else -1) := by
  unfold impl_PlacesOf.f
  refine Ev.bind (implValidOps_ev l (by omega)) ?_
  cases vOps l with
  | false => exact Ev.ite_neg (by decide) (Ev.now _)
  | true => exact Ev.ite_pos rfl (Ev.ite_pos (List.all_eq_true.2 hw) (Ev.now _))

theorem FnExactPlacesOf : laws_FnExactPlacesOf.Pure := by
  intro l ⟨hm, hg⟩
  apply Ev.rounds
  unfold laws_FnExactPlacesOf.f
  refine Ev.bind0 (szOpS_eq l 1048576 (by omega) (by omega) hm) ?_
  by_cases h : (1048576 : Int) < l.length
  · rw [if_pos h]
    exact Ev.ite_pos (by omega) (Ev.now _)
  · rw [if_neg h]
    refine Ev.ite_neg (by omega) ?_
    have ht := toOpS_ev l (by omega)
    have hl : (l.map toOp).length ≤ 1048576 := by simp; omega
    have hw : ∀ o ∈ l.map toOp, (Lit.int .i64 o.f1).wf = true := by
      intro o ho
      obtain ⟨x, hx, rfl⟩ := List.mem_map.1 ho
      exact (hg x hx).2
    refine Ev.bind ht (Ev.bind (specPlaces_ev _ hl) (Ev.bind ht (Ev.bind (implPlaces_ev _ hl hw) ?_)))
    exact Ev.ite_pos rfl (Ev.bind ht (Ev.bind (eqOpS_same _ (by omega)) (Ev.ite_pos rfl (Ev.now _))))
end Go.Proofs.Ytonppkaobnfldaa.Pure
