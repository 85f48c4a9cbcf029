-- Written by wip/tools/qprint.py (a program of this claim's author) by means of the kit's printer.
import Derived.Test.YtonppkaobnfldaaQ0
import Derived.Test.YtonppkaobnfldaaQ64
namespace Go.Proofs.Ytonppkaobnfldaa.Q
open Go.RowKit Go.Proofs.YtonppkaobnfldaaW.PrintWords Go.Proofs.YtonppkaobnfldaaW.PrintLast Go.Proofs.YtonppkaobnfldaaW.PrintMore
attribute [local go_sem] max2_int min2_int max_two min_two max_three min_three max_four min_four   -- for this text's walks alone
set_option linter.unusedVariables false
set_option linter.unusedSimpArgs false

/-! ### spec_lean: function 71 -/
mutual
def spec_lean.l0 : Nat → List (S49) → List (S49) → List Int → Int → Option ((List (S49)))
  | 0, _, _, _, _ => none
  | k + 1, x0, x3, x4, x5 => if x5 < 20 then (if x4.length < 17592186044416 then (spec_lean.l0 k x0 x3 (x4 ++ [(-1)]) (wrap64 (x5 + 1))) else (none)) else (spec_lean.l1 k x0 x3 x4 0 0)
def spec_lean.l1 : Nat → List (S49) → List (S49) → List Int → Int → Int → Option ((List (S49)))
  | 0, _, _, _, _, _ => none
  | k + 1, x0, x3, x4, x6, x7 => if x7 < (x0.length : Int) then (if 0 ≤ x7 then ((spec_idle.f k x0 x7).bind fun t683 => (if t683 = true then (spec_lean.l1 k x0 x3 x4 x6 (wrap64 (x7 + 1))) else (if ((rd_T49 x0 x7).f0) = 15 then (if 0 ≤ ((rd_T49 x0 x7).f1) then (if ((rd_T49 x0 x7).f1) < (x4.length : Int) then (spec_lean.j2 k x0 x3 x4 x6 x7 (decide ((rd x4 ((rd_T49 x0 x7).f1)) < 0)) ((rd_T49 x0 x7).f0) ((rd_T49 x0 x7).f1)) else (none)) else (none)) else (spec_lean.j2 k x0 x3 x4 x6 x7 false ((rd_T49 x0 x7).f0) ((rd_T49 x0 x7).f1))))) else (none)) else (some x3)
def spec_lean.j2 : Nat → List (S49) → List (S49) → List Int → Int → Int → Bool → Int → Int → Option ((List (S49)))
  | 0, _, _, _, _, _, _, _, _ => none
  | k + 1, x0, x3, x4, x6, x7, x41, x683000, x683001 => if x41 = true then (if 0 ≤ x683001 then (if x683001 < (x4.length : Int) then ((some (x4.set (x683001 : Int).toNat x6 : List Int)).bind fun y685 => (if x683000 = 15 then (if (rd y685 x683001) ≥ 0 then (if x3.length < 8796093022208 then (spec_lean.l1 k x0 (x3 ++ [(⟨x683000, rd y685 x683001⟩ : S49)]) y685 (wrap64 (x6 + 1)) (wrap64 (x7 + 1))) else (none)) else (if x3.length < 8796093022208 then (spec_lean.l1 k x0 (x3 ++ [(⟨x683000, x683001⟩ : S49)]) y685 (wrap64 (x6 + 1)) (wrap64 (x7 + 1))) else (none))) else (if x683000 = 16 then (if (rd y685 x683001) ≥ 0 then (if x3.length < 8796093022208 then (spec_lean.l1 k x0 (x3 ++ [(⟨x683000, rd y685 x683001⟩ : S49)]) y685 (wrap64 (x6 + 1)) (wrap64 (x7 + 1))) else (none)) else (if x3.length < 8796093022208 then (spec_lean.l1 k x0 (x3 ++ [(⟨x683000, x683001⟩ : S49)]) y685 (wrap64 (x6 + 1)) (wrap64 (x7 + 1))) else (none))) else (if x3.length < 8796093022208 then (spec_lean.l1 k x0 (x3 ++ [(⟨x683000, x683001⟩ : S49)]) y685 (wrap64 (x6 + 1)) (wrap64 (x7 + 1))) else (none))))) else (none)) else (none)) else (if x683000 = 15 then (if 0 ≤ x683001 then (if x683001 < (x4.length : Int) then (if (rd x4 x683001) ≥ 0 then (if x3.length < 8796093022208 then (spec_lean.l1 k x0 (x3 ++ [(⟨x683000, rd x4 x683001⟩ : S49)]) x4 x6 (wrap64 (x7 + 1))) else (none)) else (if x3.length < 8796093022208 then (spec_lean.l1 k x0 (x3 ++ [(⟨x683000, x683001⟩ : S49)]) x4 x6 (wrap64 (x7 + 1))) else (none))) else (none)) else (none)) else (if x683000 = 16 then (if 0 ≤ x683001 then (if x683001 < (x4.length : Int) then (if (rd x4 x683001) ≥ 0 then (if x3.length < 8796093022208 then (spec_lean.l1 k x0 (x3 ++ [(⟨x683000, rd x4 x683001⟩ : S49)]) x4 x6 (wrap64 (x7 + 1))) else (none)) else (if x3.length < 8796093022208 then (spec_lean.l1 k x0 (x3 ++ [(⟨x683000, x683001⟩ : S49)]) x4 x6 (wrap64 (x7 + 1))) else (none))) else (none)) else (none)) else (if x3.length < 8796093022208 then (spec_lean.l1 k x0 (x3 ++ [(⟨x683000, x683001⟩ : S49)]) x4 x6 (wrap64 (x7 + 1))) else (none))))
end
def spec_lean.f (k : Nat) (l0 : List (S49)) : Option ((List (S49))) := spec_lean.l0 k l0 (([] : List (S49))) (([] : List Int)) 0
set_option maxRecDepth 100000 in
theorem spec_lean.mono_l : ∀ k, (∀ y0 y1 y2 y3, LeO (spec_lean.l0 k y0 y1 y2 y3) (spec_lean.l0 (k + 1) y0 y1 y2 y3)) ∧ (∀ y0 y1 y2 y3 y4, LeO (spec_lean.l1 k y0 y1 y2 y3 y4) (spec_lean.l1 (k + 1) y0 y1 y2 y3 y4)) ∧ (∀ y0 y1 y2 y3 y4 y5 y6 y7, LeO (spec_lean.j2 k y0 y1 y2 y3 y4 y5 y6 y7) (spec_lean.j2 (k + 1) y0 y1 y2 y3 y4 y5 y6 y7))
  | 0 => ⟨fun _ _ _ _ r h => (by cases h), fun _ _ _ _ _ r h => (by cases h), fun _ _ _ _ _ _ _ _ r h => (by cases h)⟩
  | k + 1 => by
    obtain ⟨ih0, ih1, ih2⟩ := spec_lean.mono_l k
    refine ⟨?_, ?_, ?_⟩
    · intro y0 y1 y2 y3
      unfold spec_lean.l0
      repeat' first
      | (with_reducible exact ih0 _ _ _ _)
      | (with_reducible exact ih1 _ _ _ _ _)
      | (with_reducible exact ih2 _ _ _ _ _ _ _ _)
      | (with_reducible exact spec_idle.mono _ _ _)
      | (with_reducible exact LeO.refl _)
      | (with_reducible exact LeO.none _)
      | (with_reducible refine LeO.ite ?_ ?_)
      | (with_reducible refine LeO.bind ?_ (fun _ => ?_))
      | exact ih0 _ _ _ _
      | exact ih1 _ _ _ _ _
      | exact ih2 _ _ _ _ _ _ _ _
      | exact spec_idle.mono _ _ _
      | exact LeO.none _
      | refine LeO.ite ?_ ?_
      | refine LeO.bind ?_ (fun _ => ?_)
    · intro y0 y1 y2 y3 y4
      unfold spec_lean.l1
      repeat' first
      | (with_reducible exact ih0 _ _ _ _)
      | (with_reducible exact ih1 _ _ _ _ _)
      | (with_reducible exact ih2 _ _ _ _ _ _ _ _)
      | (with_reducible exact spec_idle.mono _ _ _)
      | (with_reducible exact LeO.refl _)
      | (with_reducible exact LeO.none _)
      | (with_reducible refine LeO.ite ?_ ?_)
      | (with_reducible refine LeO.bind ?_ (fun _ => ?_))
      | exact ih0 _ _ _ _
      | exact ih1 _ _ _ _ _
      | exact ih2 _ _ _ _ _ _ _ _
      | exact spec_idle.mono _ _ _
      | exact LeO.none _
      | refine LeO.ite ?_ ?_
      | refine LeO.bind ?_ (fun _ => ?_)
    · intro y0 y1 y2 y3 y4 y5 y6 y7
      unfold spec_lean.j2
      repeat' first
      | (with_reducible exact ih0 _ _ _ _)
      | (with_reducible exact ih1 _ _ _ _ _)
      | (with_reducible exact ih2 _ _ _ _ _ _ _ _)
      | (with_reducible exact spec_idle.mono _ _ _)
      | (with_reducible exact LeO.refl _)
      | (with_reducible exact LeO.none _)
      | (with_reducible refine LeO.ite ?_ ?_)
      | (with_reducible refine LeO.bind ?_ (fun _ => ?_))
      | exact ih0 _ _ _ _
      | exact ih1 _ _ _ _ _
      | exact ih2 _ _ _ _ _ _ _ _
      | exact spec_idle.mono _ _ _
      | exact LeO.none _
      | refine LeO.ite ?_ ?_
      | refine LeO.bind ?_ (fun _ => ?_)
set_option maxRecDepth 100000 in
theorem spec_lean.mono : ∀ a0 k, LeO (spec_lean.f k a0) (spec_lean.f (k + 1) a0) := by
  intro a0 k
  obtain ⟨ih0, ih1, ih2⟩ := spec_lean.mono_l k
  unfold spec_lean.f
  repeat' first
      | (with_reducible exact ih0 _ _ _ _)
      | (with_reducible exact ih1 _ _ _ _ _)
      | (with_reducible exact ih2 _ _ _ _ _ _ _ _)
      | (with_reducible exact spec_idle.mono _ _ _)
      | (with_reducible exact LeO.refl _)
      | (with_reducible exact LeO.none _)
      | (with_reducible refine LeO.ite ?_ ?_)
      | (with_reducible refine LeO.bind ?_ (fun _ => ?_))
      | exact ih0 _ _ _ _
      | exact ih1 _ _ _ _ _
      | exact ih2 _ _ _ _ _ _ _ _
      | exact spec_idle.mono _ _ _
      | exact LeO.none _
      | refine LeO.ite ?_ ?_
      | refine LeO.bind ?_ (fun _ => ?_)
set_option maxHeartbeats 8000000 in
set_option maxRecDepth 100000 in
theorem spec_lean.calls (k : Nat) (A0 : Option Addr) (c0 : Nat) (l0 : List (S49)) (r : List (S49)) (w : World) (hr0 : Kd.C k49 w A0 l0.length l0) (hc0 : l0.length ≤ c0) (h : spec_lean.f k l0 = some r) :
    Calls Try.prog 71 #[.slice A0 l0.length c0] w fun e w' => ∃ v0_ : Value, e = .returned (v0_) ∧ Kd.R k49 49 w' w.heap.size (fun _ => True) v0_ r ∧ Below w.heap.size w w' := by
  have hu49 := Try.underlying49
  have HR0 := Aside0.mk hr0
  have HC0 := Aside0.mk hc0
  clear hr0 hc0
  have HB := Aside0.mk (Below.refl w.heap.size w)
  have H : (spec_lean.l0 k l0 (([] : List (S49))) (([] : List Int)) 0) = some r := h
  clear h
  obtain ⟨y672, hy672⟩ : ∃ y_ : List (S49), y_ = (([] : List (S49))) := ⟨_, rfl⟩
  replace H : (spec_lean.l0 k l0 y672 (([] : List Int)) 0) = some r := by first | (rw [hy672]; with_reducible exact H) | (have H2_ := (Option.bind_some _ _).symm.trans H; rw [hy672]; with_reducible exact H2_) | (have H2_ := (Option.bind_some _ _).symm.trans H; with_reducible exact H2_) | with_reducible exact H | (rw [hy672]; exact H) | exact H
  have Ny672 := Aside0.mk hy672
  clear hy672
  obtain ⟨y675, hy675⟩ : ∃ y_ : List Int, y_ = (([] : List Int)) := ⟨_, rfl⟩
  replace H : (spec_lean.l0 k l0 y672 y675 0) = some r := by first | (rw [hy675]; with_reducible exact H) | (have H2_ := (Option.bind_some _ _).symm.trans H; rw [hy675]; with_reducible exact H2_) | (have H2_ := (Option.bind_some _ _).symm.trans H; with_reducible exact H2_) | with_reducible exact H | (rw [hy675]; exact H) | exact H
  have Ny675 := Aside0.mk hy675
  clear hy675
  have H' := Aside0.mk H
  clear H
  go_enter Try.func71, Try.ntmps71
  go_wp2_with (first | ((with_reducible refine gate_dst (N := 9) rfl ?_); refine Kd.R_lit k49 _ 49 ?hg (N := 9) ?hd (xs := ([] : List (S49))) (inner := []) (ok := fun _ => True) (okp := fun _ => True) ?hr ?hp (fun _ hk => hk) trivial (Below.refl _ _) (Nat.le_refl _) (by simp) ?_; (case hd => rfl); (case hg => rfl); (case hr => first | (go_simp; done) | (go_simp; rfl)); (case hp => exact (Reps.none _ _)); intro v673 w2 ho3 hb hg_ hnew_; clear hg_ hnew_; (first | rw [← Ny672.out] at ho3 | (simp only [Int.reduceToNat] at ho3; rw [← Ny672.out] at ho3)); have n0_ := Aside0.mk (Kd.R_lower ho3 (below_size (by repeat (first | (with_reducible first | exact HB.out | apply below_alloc | apply pw_below_drewN | apply below_drew1) | exact HB.out)))); have n1_ := Aside0.mk (below_step (by repeat (first | (with_reducible first | exact HB.out | apply below_alloc | apply pw_below_drewN | apply below_drew1) | exact HB.out)) hb); clear HB; have HO674 := n0_; have HB := n1_; clear n0_ n1_; clear hb ho3) | ((with_reducible refine gate_dst (N := 10) rfl ?_); refine Kd.R_lit (Kd.int .i64) _ 3 ?hg (N := 10) ?hd (xs := ([] : List Int)) (inner := []) (ok := fun _ => True) (okp := fun _ => True) ?hr ?hp (fun _ hk => hk) trivial (Below.refl _ _) (Nat.le_refl _) (by simp) ?_; (case hd => rfl); (case hg => rfl); (case hr => first | (go_simp; done) | (go_simp; rfl)); (case hp => exact (Reps.none _ _)); intro v676 w4 ho5 hb hg_ hnew_; clear hg_ hnew_; (first | rw [← Ny675.out] at ho5 | (simp only [Int.reduceToNat] at ho5; rw [← Ny675.out] at ho5)); have n0_ := Aside0.mk (Kd.R_below (by (with_reducible repeat (first | apply Kd.R_alloc | apply Kd.R_drewN | apply Kd.R_drew)); exact HO674.out) hb); have n1_ := Aside0.mk (Kd.R_lower ho5 (below_size (by repeat (first | (with_reducible first | exact HB.out | apply below_alloc | apply pw_below_drewN | apply below_drew1) | exact HB.out)))); have n2_ := Aside0.mk (below_step (by repeat (first | (with_reducible first | exact HB.out | apply below_alloc | apply pw_below_drewN | apply below_drew1) | exact HB.out)) hb); clear HO674; clear HB; have HO674 := n0_; have HO677 := n1_; have HB := n2_; clear n0_ n1_ n2_; clear hb ho5))
  go_loopg [4, 5] k (fun kq v4 v5 w' => ∃ (x4_1 : List Int) (x5_1 : Int), v5 = .int .i64 x5_1 ∧ Aside0 (spec_lean.l0 kq l0 y672 x4_1 x5_1 = some r) ∧ Aside0 (kq ≤ k) ∧ Aside0 (Kd.R k49 49 w' w.heap.size (fun _ => True) v673 y672) ∧ Aside0 (Kd.R (Kd.int .i64) 3 w' w.heap.size (fun _ => True) v4 x4_1) ∧ Aside0 (Below w.heap.size w w'))
  case atStart => exact ⟨(y675), (0), (by first | rfl | (simp; done) | (simp [*]; done)), H', ⟨Nat.le_refl _⟩, ⟨by (with_reducible repeat (first | apply Kd.R_alloc | apply Kd.R_drewN | apply Kd.R_drew)); exact HO674.out⟩, ⟨by (with_reducible repeat (first | apply Kd.R_alloc | apply Kd.R_drewN | apply Kd.R_drew)); exact HO677.out⟩, ⟨by repeat (first | (with_reducible first | exact HB.out | apply below_alloc | apply pw_below_drewN | apply below_drew1) | exact HB.out)⟩⟩
  case round =>
    clear H'
    try clear p2
    obtain ⟨x4_1, x5_1, rfl, HA, HK1, HO_3, HO_4, HB⟩ := hrel
    cases gk with
    | zero => exact absurd HA.out (fun h_ => (by cases h_))
    | succ k1 =>
      have H := HA.out
      clear HA
      simp only [spec_lean.l0] at H
      by_cases c6 : x5_1 < 20
      · rw [if_pos c6] at H
        have c6b0 : decide (x5_1 < 20) = true := decide_eq_true c6
        clear c6
        by_cases c7 : x4_1.length < 17592186044416
        · rw [if_pos c7] at H
          have LMc7 := Aside0.mk c7
          clear c7
          obtain ⟨y678, hy678⟩ : ∃ y_ : List Int, y_ = (x4_1 ++ [(-1)]) := ⟨_, rfl⟩
          replace H : (spec_lean.l0 k1 l0 y672 y678 (wrap64 (x5_1 + 1))) = some r := by first | (rw [hy678]; with_reducible exact H) | (have H2_ := (Option.bind_some _ _).symm.trans H; rw [hy678]; with_reducible exact H2_) | (have H2_ := (Option.bind_some _ _).symm.trans H; with_reducible exact H2_) | with_reducible exact H | (rw [hy678]; exact H) | exact H
          have Ny678 := Aside0.mk hy678
          clear hy678
          have H' := Aside0.mk H
          clear H
          go_wp2_with (first | ((with_reducible refine gate_builtin (b := .append) (xs := #[.tmp 15, .tmp 16]) rfl ?_); at_builtin; refine Kd.R_append (Kd.int .i64) (w0 := w) w.heap.size rfl (.tmp 15) (.tmp 16) 29 3 (.int .i64 0) 8 rfl Try.underlying29 info3 rfl (by decide) (by omega) u4 x4_1 (-1) [.int .i64 (-1)] (fun _ => True) (fun _ => False) rfl rfl ?aP (fun _ hk => hk.elim) ?aF ?aO ?aB ?aS ?aL ?_; (case aP => exact rfl); (case aB => exact (by repeat (first | (with_reducible first | exact HB.out | apply below_alloc | apply pw_below_drewN | apply below_drew1) | exact HB.out))); (case aF => exact (fun _ _ => trivial)); (case aO => exact (by (with_reducible repeat (first | apply Kd.R_alloc | apply Kd.R_drewN | apply Kd.R_drew)); exact HO_4.out)); (case aS => exact (below_size (by repeat (first | (with_reducible first | exact HB.out | apply below_alloc | apply pw_below_drewN | apply below_drew1) | exact HB.out)))); (case aL => have := LMc7.out; omega); intro v679 w8 ho hb hg hat; rw [← Ny678.out] at ho; have n0_ := Aside0.mk (Kd.R_over' (by (with_reducible repeat (first | apply Kd.R_alloc | apply Kd.R_drewN | apply Kd.R_drew)); exact HO_3.out) (Kd.R_typed (by (with_reducible repeat (first | apply Kd.R_alloc | apply Kd.R_drewN | apply Kd.R_drew)); exact HO_4.out)) (by decide) hg); have n1_ := Aside0.mk (hb); have n2_ := Aside0.mk (ho); clear HO_3; clear HB; clear HO_4; have HO_3 := n0_; have HB := n1_; have HO680 := n2_; clear n0_ n1_ n2_; clear ho hb hg hat))
          go_roundg k1
          case measure => have := HK1.out; omega
          case rel => exact ⟨(y678), (wrap64 (x5_1 + 1)), (by first | rfl | (simp; done) | (simp [*]; done)), H', ⟨by have := HK1.out; omega⟩, ⟨by (with_reducible repeat (first | apply Kd.R_alloc | apply Kd.R_drewN | apply Kd.R_drew)); exact HO_3.out⟩, ⟨by (with_reducible repeat (first | apply Kd.R_alloc | apply Kd.R_drewN | apply Kd.R_drew)); exact HO680.out⟩, ⟨by repeat (first | (with_reducible first | exact HB.out | apply below_alloc | apply pw_below_drewN | apply below_drew1) | exact HB.out)⟩⟩
        · rw [if_neg c7] at H
          exact absurd H (by simp)
      · rw [if_neg c6] at H
        have c6b0 : decide (x5_1 < 20) = false := decide_eq_false c6
        clear c6
        have H' := Aside0.mk H
        clear H
        go_wp2
        go_loopg [3, 6, 7] k1 (fun kq v3 v6 v7 w' => ∃ (x3_2 : List (S49)) (x4_2 : List Int) (x6_2 : Int) (x7_2 : Int), v6 = .int .i64 x6_2 ∧ v7 = .int .i64 x7_2 ∧ Aside0 (spec_lean.l1 kq l0 x3_2 x4_2 x6_2 x7_2 = some r) ∧ Aside0 (kq ≤ k1) ∧ Aside0 (Kd.R k49 49 w' w.heap.size (fun _ => True) v3 x3_2) ∧ Aside0 (Kd.R (Kd.int .i64) 3 w' w.heap.size (fun _ => True) u4 x4_2) ∧ Aside0 (Below w.heap.size w w'))
        case atStart => exact ⟨(y672), (x4_1), (0), (0), (by first | rfl | (simp; done) | (simp [*]; done)), (by first | rfl | (simp; done) | (simp [*]; done)), H', ⟨Nat.le_refl _⟩, ⟨by (with_reducible repeat (first | apply Kd.R_alloc | apply Kd.R_drewN | apply Kd.R_drew)); exact HO_3.out⟩, ⟨by (with_reducible repeat (first | apply Kd.R_alloc | apply Kd.R_drewN | apply Kd.R_drew)); exact HO_4.out⟩, ⟨by repeat (first | (with_reducible first | exact HB.out | apply below_alloc | apply pw_below_drewN | apply below_drew1) | exact HB.out)⟩⟩
        case round =>
          clear H'
          try clear p2
          try clear c6
          try clear c6b0
          try clear p6
          try clear c7
          try clear p2
          obtain ⟨x3_2, x4_2, x6_2, x7_2, rfl, rfl, HA, HK2, HO_3, HO_4, HB⟩ := hrel
          cases gk with
          | zero => exact absurd HA.out (fun h_ => (by cases h_))
          | succ k2 =>
            have H := HA.out
            clear HA
            simp only [spec_lean.l1] at H
            by_cases c9 : x7_2 < (l0.length : Int)
            · rw [if_pos c9] at H
              have c9b0 : decide (x7_2 < (l0.length : Int)) = true := decide_eq_true c9
              clear c9
              by_cases c10 : 0 ≤ x7_2
              · rw [if_pos c10] at H
                have c10b0 : decide (0 ≤ x7_2) = true := decide_eq_true c10
                clear c10
                replace H := Option.bind_eq_some_iff.mp H
                obtain ⟨t683, A110, H⟩ := H
                replace H : (if t683 = true then (spec_lean.l1 k2 l0 x3_2 x4_2 x6_2 (wrap64 (x7_2 + 1))) else (if ((rd_T49 l0 x7_2).f0) = 15 then (if 0 ≤ ((rd_T49 l0 x7_2).f1) then (if ((rd_T49 l0 x7_2).f1) < (x4_2.length : Int) then (spec_lean.j2 k2 l0 x3_2 x4_2 x6_2 x7_2 (decide ((rd x4_2 ((rd_T49 l0 x7_2).f1)) < 0)) ((rd_T49 l0 x7_2).f0) ((rd_T49 l0 x7_2).f1)) else (none)) else (none)) else (spec_lean.j2 k2 l0 x3_2 x4_2 x6_2 x7_2 false ((rd_T49 l0 x7_2).f0) ((rd_T49 l0 x7_2).f1)))) = some r := H
                have A11 := Aside0.mk A110
                clear A110
                by_cases c12 : t683 = true
                · subst c12
                  have H1 : (spec_lean.l1 k2 l0 x3_2 x4_2 x6_2 (wrap64 (x7_2 + 1))) = some r := by rw [if_pos rfl] at H; exact H
                  clear H
                  have H := H1
                  clear H1
                  have H' := Aside0.mk H
                  clear H
                  have p681 : 0 ≤ (x7_2 : Int) := of_decide_eq_true (by first | (with_reducible assumption) | assumption)
                  have q681 : x7_2 < (l0.length : Int) := of_decide_eq_true (by first | (with_reducible assumption) | assumption)
                  obtain ⟨ad681, e681, hx681_0, hx681_1⟩ := at_T49 HR0.out x7_2 p681 q681
                  cases e681
                  replace hx681_0 := (HB.out.cell (World.block_lt_of_cell? w _ hx681_0)).trans hx681_0
                  replace hx681_1 := (HB.out.cell (World.block_lt_of_cell? w _ hx681_1)).trans hx681_1
                  replace p681 := eq_true p681
                  replace q681 := eq_true q681
                  go_wp2_with (first | ((with_reducible refine gate_dst (N := 8) rfl ?_); refine box_event ?hg (N := 8) ?hd (cs := #[.int .i64 0, .int .i64 0]) (t := 49) ?hr ?_; (case hd => rfl); (case hg => rfl); (case hr => first | (go_simp; done) | (go_simp; rfl)); intro gb682 hg w13 hbox hb; have n0_ := Aside0.mk (Kd.R_below (Kd.R_elderB (by (with_reducible repeat (first | apply Kd.R_alloc | apply Kd.R_drewN | apply Kd.R_drew)); exact HO_3.out) gb682 (Nat.le_of_eq hg.symm)) hb); have n1_ := Aside0.mk (Kd.R_below (by (with_reducible repeat (first | apply Kd.R_alloc | apply Kd.R_drewN | apply Kd.R_drew)); exact HO_4.out) hb); have n2_ := Aside0.mk (below_step (by repeat (first | (with_reducible first | exact HB.out | apply below_alloc | apply pw_below_drewN | apply below_drew1) | exact HB.out)) hb); have n3_ := Aside0.mk (hbox); have n4_ := Aside0.mk ((by rw [hg]; exact (below_size (by repeat (first | (with_reducible first | exact HB.out | apply below_alloc | apply pw_below_drewN | apply below_drew1) | exact HB.out))) : w.heap.size ≤ gb682)); have n5_ := Aside0.mk ((by rw [hg]; exact (below_size (by repeat (first | (with_reducible first | exact HB.out | apply below_alloc | apply pw_below_drewN | apply below_drew1) | exact HB.out))) : w.heap.size ≤ gb682)); clear HO_3; clear HO_4; clear HB; have HO_3 := n0_; have HO_4 := n1_; have HB := n2_; have BK682 := n3_; have GW682 := n4_; have GE682 := n5_; clear n0_ n1_ n2_ n3_ n4_ n5_; clear hb hbox hg; have hcz14_0 : w13.cell? ⟨gb682, 0, none⟩ = some (.int .i64 0) := (blk_cell BK682.out 0).trans rfl; have hcz14_1 : w13.cell? ⟨gb682, 1, none⟩ = some (.int .i64 0) := (blk_cell BK682.out 1).trans rfl; have hfz14_0 := blk_frozen BK682.out 0; have hfz14_1 := blk_frozen BK682.out 1) | ((with_reducible refine gate_callee (f := 64) rfl ?_); refine goesL_ (some 30) rfl rfl Try.func64 (by kernel_rfl) rfl #[.slice (some ad681) l0.length c0, .int .i64 x7_2] rfl (by (try simp only [List.map_toArray, List.map_cons, List.map_nil]); first | done | rfl | (simp only [List.length_drop, List.length_take]; rfl)) ?_; (with_reducible refine (spec_idle.calls k2 _ _ l0 x7_2 true _ ?side1 ?side2 A11.out).mono ?_); (case side1 => exact Kd.C_below HR0.out (by repeat (first | (with_reducible first | exact HB.out | apply below_alloc | apply pw_below_drewN | apply below_drew1 | refine below_set ?_ GE682.out) | exact HB.out))); (case side2 => exact HC0.out); rintro e w' ⟨rfl, ⟨nd, rfl⟩⟩; refine ⟨_, rfl, ?_⟩))
                  go_roundg k2
                  case measure => have := HK1.out; have := HK2.out; omega
                  case rel => exact ⟨(x3_2), (x4_2), (x6_2), (wrap64 (x7_2 + 1)), (by first | rfl | (simp; done) | (simp [*]; done)), (by first | rfl | (simp; done) | (simp [*]; done)), H', ⟨by have := HK1.out; have := HK2.out; omega⟩, ⟨by (with_reducible repeat (first | apply Kd.R_alloc | apply Kd.R_drewN | apply Kd.R_drew)); exact Kd.R_mono (Kd.R_far (p := ⟨gb682, 1, none⟩) (Kd.R_far (p := ⟨gb682, 0, none⟩) (Kd.R_mono HO_3.out (fun k_ hk => (⟨hk, hk.2⟩ : _ ∧ k_ ≠ gb682))) (fun _ hk => hk.2) (.int .i64 ((rd_T49 l0 x7_2).f0))) (fun _ hk => hk.2) (.int .i64 ((rd_T49 l0 x7_2).f1))) (fun _ hk => trivial)⟩, ⟨by (with_reducible repeat (first | apply Kd.R_alloc | apply Kd.R_drewN | apply Kd.R_drew)); exact Kd.R_mono (Kd.R_far (p := ⟨gb682, 1, none⟩) (Kd.R_far (p := ⟨gb682, 0, none⟩) (Kd.R_types HO_4.out BK682.out (by decide)) (fun _ hk => hk.2) (.int .i64 ((rd_T49 l0 x7_2).f0))) (fun _ hk => hk.2) (.int .i64 ((rd_T49 l0 x7_2).f1))) (fun _ hk => trivial)⟩, ⟨by repeat (first | (with_reducible first | exact HB.out | apply below_alloc | apply pw_below_drewN | apply below_drew1 | refine below_set ?_ GE682.out) | exact HB.out)⟩⟩
                · replace c12 := Bool.eq_false_iff.mpr c12
                  subst c12
                  have H1 : (if ((rd_T49 l0 x7_2).f0) = 15 then (if 0 ≤ ((rd_T49 l0 x7_2).f1) then (if ((rd_T49 l0 x7_2).f1) < (x4_2.length : Int) then (spec_lean.j2 k2 l0 x3_2 x4_2 x6_2 x7_2 (decide ((rd x4_2 ((rd_T49 l0 x7_2).f1)) < 0)) ((rd_T49 l0 x7_2).f0) ((rd_T49 l0 x7_2).f1)) else (none)) else (none)) else (spec_lean.j2 k2 l0 x3_2 x4_2 x6_2 x7_2 false ((rd_T49 l0 x7_2).f0) ((rd_T49 l0 x7_2).f1))) = some r := by rw [if_neg (show ¬ (false = true) by decide)] at H; exact H
                  clear H
                  have H := H1
                  clear H1
                  have HC15 := Aside0.mk H
                  clear H
                  have p681 : 0 ≤ (x7_2 : Int) := of_decide_eq_true (by first | (with_reducible assumption) | assumption)
                  have q681 : x7_2 < (l0.length : Int) := of_decide_eq_true (by first | (with_reducible assumption) | assumption)
                  obtain ⟨ad681, e681, hx681_0, hx681_1⟩ := at_T49 HR0.out x7_2 p681 q681
                  cases e681
                  replace hx681_0 := (HB.out.cell (World.block_lt_of_cell? w _ hx681_0)).trans hx681_0
                  replace hx681_1 := (HB.out.cell (World.block_lt_of_cell? w _ hx681_1)).trans hx681_1
                  replace p681 := eq_true p681
                  replace q681 := eq_true q681
                  go_upto_region 13 with (first | ((with_reducible refine gate_dst (N := 8) rfl ?_); refine box_event ?hg (N := 8) ?hd (cs := #[.int .i64 0, .int .i64 0]) (t := 49) ?hr ?_; (case hd => rfl); (case hg => rfl); (case hr => first | (go_simp; done) | (go_simp; rfl)); intro gb682 hg w16 hbox hb; have n0_ := Aside0.mk (Kd.R_below (Kd.R_elderB (by (with_reducible repeat (first | apply Kd.R_alloc | apply Kd.R_drewN | apply Kd.R_drew)); exact HO_3.out) gb682 (Nat.le_of_eq hg.symm)) hb); have n1_ := Aside0.mk (Kd.R_below (by (with_reducible repeat (first | apply Kd.R_alloc | apply Kd.R_drewN | apply Kd.R_drew)); exact HO_4.out) hb); have n2_ := Aside0.mk (below_step (by repeat (first | (with_reducible first | exact HB.out | apply below_alloc | apply pw_below_drewN | apply below_drew1) | exact HB.out)) hb); have n3_ := Aside0.mk (hbox); have n4_ := Aside0.mk ((by rw [hg]; exact (below_size (by repeat (first | (with_reducible first | exact HB.out | apply below_alloc | apply pw_below_drewN | apply below_drew1) | exact HB.out))) : w.heap.size ≤ gb682)); have n5_ := Aside0.mk ((by rw [hg]; exact (below_size (by repeat (first | (with_reducible first | exact HB.out | apply below_alloc | apply pw_below_drewN | apply below_drew1) | exact HB.out))) : w.heap.size ≤ gb682)); clear HO_3; clear HO_4; clear HB; have HO_3 := n0_; have HO_4 := n1_; have HB := n2_; have BK682 := n3_; have GW682 := n4_; have GE682 := n5_; clear n0_ n1_ n2_ n3_ n4_ n5_; clear hb hbox hg; have hcz17_0 : w16.cell? ⟨gb682, 0, none⟩ = some (.int .i64 0) := (blk_cell BK682.out 0).trans rfl; have hcz17_1 : w16.cell? ⟨gb682, 1, none⟩ = some (.int .i64 0) := (blk_cell BK682.out 1).trans rfl; have hfz17_0 := blk_frozen BK682.out 0; have hfz17_1 := blk_frozen BK682.out 1) | ((with_reducible refine gate_callee (f := 64) rfl ?_); refine goesL_ (some 30) rfl rfl Try.func64 (by kernel_rfl) rfl #[.slice (some ad681) l0.length c0, .int .i64 x7_2] rfl (by (try simp only [List.map_toArray, List.map_cons, List.map_nil]); first | done | rfl | (simp only [List.length_drop, List.length_take]; rfl)) ?_; (with_reducible refine (spec_idle.calls k2 _ _ l0 x7_2 false _ ?side1 ?side2 A11.out).mono ?_); (case side1 => exact Kd.C_below HR0.out (by repeat (first | (with_reducible first | exact HB.out | apply below_alloc | apply pw_below_drewN | apply below_drew1 | refine below_set ?_ GE682.out) | exact HB.out))); (case side2 => exact HC0.out); rintro e w' ⟨rfl, ⟨nd, rfl⟩⟩; refine ⟨_, rfl, ?_⟩))
                  (try simp only [Act.put, List.setIfInBounds_toArray, List.set_cons_zero, List.set_cons_succ])
                  go_cut [41] (fun v41 wc => ∃ (kq : Nat) (x41_14 : Bool), v41 = .bool x41_14 ∧ Aside0 (spec_lean.j2 kq l0 x3_2 x4_2 x6_2 x7_2 x41_14 ((rd_T49 l0 x7_2).f0) ((rd_T49 l0 x7_2).f1) = some r) ∧ Aside0 (kq ≤ k2) ∧ Aside0 (Kd.R k49 49 wc w.heap.size (fun k_ => k_ ≠ gb682) u3 x3_2) ∧ Aside0 (Kd.R (Kd.int .i64) 3 wc w.heap.size (fun _ => True) u4 x4_2) ∧ Aside0 (wc.heap[gb682]? = some (.cells #[.int .i64 ((rd_T49 l0 x7_2).f0), .int .i64 ((rd_T49 l0 x7_2).f1)] 49 (0, 0))) ∧ Aside0 (Below w.heap.size w wc))
                  case first =>
                    have H := HC15.out
                    clear HC15
                    by_cases c18 : ((rd_T49 l0 x7_2).f0) = 15
                    · rw [if_pos c18] at H
                      have c18b0 : (((rd_T49 l0 x7_2).f0) == 15) = true := beq_iff_eq.mpr c18
                      have c18b1 : (((rd_T49 l0 x7_2).f0) != 15) = false := bne_eq_false_iff_eq.mpr c18
                      clear c18
                      (first | rw [c18b0] | (simp only [i64_w, i32_w]; rw [c18b0]) | skip)
                      by_cases c19 : 0 ≤ ((rd_T49 l0 x7_2).f1)
                      · rw [if_pos c19] at H
                        have c19b0 : decide (0 ≤ ((rd_T49 l0 x7_2).f1)) = true := decide_eq_true c19
                        clear c19
                        by_cases c20 : ((rd_T49 l0 x7_2).f1) < (x4_2.length : Int)
                        · rw [if_pos c20] at H
                          have c20b0 : decide (((rd_T49 l0 x7_2).f1) < (x4_2.length : Int)) = true := decide_eq_true c20
                          clear c20
                          have H' := Aside0.mk H
                          clear H
                          have hcz21_0 : w16.cell? ⟨gb682, 0, none⟩ = some (.int .i64 0) := (blk_cell BK682.out 0).trans rfl
                          have hcz21_1 : w16.cell? ⟨gb682, 1, none⟩ = some (.int .i64 0) := (blk_cell BK682.out 1).trans rfl
                          have hfz21_0 := blk_frozen BK682.out 0
                          have hfz21_1 := blk_frozen BK682.out 1
                          obtain ⟨Ao22, co22, eo22⟩ := Kd.R_slice HO_4.out
                          subst eo22
                          have p684 : 0 ≤ (((rd_T49 l0 x7_2).f1) : Int) := of_decide_eq_true (by first | (with_reducible assumption) | assumption)
                          have q684 : ((rd_T49 l0 x7_2).f1) < (x4_2.length : Int) := of_decide_eq_true (by first | (with_reducible assumption) | assumption)
                          obtain ⟨ad684, e684, hx684_0⟩ := Kd.at_int (Kd.R_reads' HO_4.out).2.2 ((rd_T49 l0 x7_2).f1) p684 q684
                          cases e684
                          have hn684_0 : ad684.block ≠ gb682 := Kd.own_blk (Kd.R_ne HO_4.out BK682.out (by decide))
                          have hn684_1 : ad684.block ≠ gb682 := Kd.own_blk (Kd.R_ne HO_4.out BK682.out (by decide))
                          replace hx684_0 := (cell_far (p := ⟨gb682, 0, none⟩) (by first | (rw [add_block]; exact hn684_0) | (show (Addr.add _ _).block ≠ _; rw [add_block]; exact hn684_0) | exact hn684_0) (.int .i64 ((rd_T49 l0 x7_2).f0))).trans hx684_0
                          replace hx684_0 := (cell_far (p := ⟨gb682, 1, none⟩) (by first | (rw [add_block]; exact hn684_1) | (show (Addr.add _ _).block ≠ _; rw [add_block]; exact hn684_1) | exact hn684_1) (.int .i64 ((rd_T49 l0 x7_2).f1))).trans hx684_0
                          clear hn684_0
                          clear hn684_1
                          replace p684 := eq_true p684
                          replace q684 := eq_true q684
                          go_wp2
                          go_meet
                          case rel => exact ⟨_, (decide ((rd x4_2 ((rd_T49 l0 x7_2).f1)) < 0)), (by first | rfl | (simp; done) | (simp [*]; done)), H', ⟨by have := HK1.out; have := HK2.out; first | omega | exact Nat.le_refl _⟩, ⟨by (with_reducible repeat (first | apply Kd.R_alloc | apply Kd.R_drewN | apply Kd.R_drew)); exact Kd.R_mono (Kd.R_far (p := ⟨gb682, 1, none⟩) (Kd.R_far (p := ⟨gb682, 0, none⟩) (Kd.R_mono HO_3.out (fun k_ hk => (⟨hk, hk.2⟩ : _ ∧ k_ ≠ gb682))) (fun _ hk => hk.2) (.int .i64 ((rd_T49 l0 x7_2).f0))) (fun _ hk => hk.2) (.int .i64 ((rd_T49 l0 x7_2).f1))) (fun _ hk => hk.1.2)⟩, ⟨by (with_reducible repeat (first | apply Kd.R_alloc | apply Kd.R_drewN | apply Kd.R_drew)); exact Kd.R_mono (Kd.R_far (p := ⟨gb682, 1, none⟩) (Kd.R_far (p := ⟨gb682, 0, none⟩) (Kd.R_types HO_4.out BK682.out (by decide)) (fun _ hk => hk.2) (.int .i64 ((rd_T49 l0 x7_2).f0))) (fun _ hk => hk.2) (.int .i64 ((rd_T49 l0 x7_2).f1))) (fun _ hk => trivial)⟩, ⟨by (with_reducible repeat (first | refine blk_drewN ?_ _ | refine blk_drew ?_ | refine blk_alloc ?_ _)); refine blk_put (cs := #[.int .i64 ((rd_T49 l0 x7_2).f0), .int .i64 0]) ?_ 1 _ rfl; (with_reducible repeat (first | refine blk_drewN ?_ _ | refine blk_drew ?_ | refine blk_alloc ?_ _)); refine blk_put (cs := #[.int .i64 0, .int .i64 0]) ?_ 0 _ rfl; (with_reducible repeat (first | refine blk_drewN ?_ _ | refine blk_drew ?_ | refine blk_alloc ?_ _)); exact BK682.out⟩, ⟨by repeat (first | (with_reducible first | exact HB.out | apply below_alloc | apply pw_below_drewN | apply below_drew1 | refine below_set ?_ GE682.out) | exact HB.out)⟩⟩
                        · rw [if_neg c20] at H
                          exact absurd H (by simp)
                      · rw [if_neg c19] at H
                        exact absurd H (by simp)
                    · rw [if_neg c18] at H
                      have c18b0 : (((rd_T49 l0 x7_2).f0) == 15) = false := beq_eq_false_iff_ne.mpr c18
                      have c18b1 : (((rd_T49 l0 x7_2).f0) != 15) = true := bne_iff_ne.mpr c18
                      (first | rw [c18b0] | (simp only [i64_w, i32_w]; rw [c18b0]) | skip)
                      have H' := Aside0.mk H
                      clear H
                      have hcz23_0 : w16.cell? ⟨gb682, 0, none⟩ = some (.int .i64 0) := (blk_cell BK682.out 0).trans rfl
                      have hcz23_1 : w16.cell? ⟨gb682, 1, none⟩ = some (.int .i64 0) := (blk_cell BK682.out 1).trans rfl
                      have hfz23_0 := blk_frozen BK682.out 0
                      have hfz23_1 := blk_frozen BK682.out 1
                      go_wp2
                      go_meet
                      case rel => exact ⟨_, (false), (by first | rfl | (simp; done) | (simp [*]; done)), H', ⟨by have := HK1.out; have := HK2.out; first | omega | exact Nat.le_refl _⟩, ⟨by (with_reducible repeat (first | apply Kd.R_alloc | apply Kd.R_drewN | apply Kd.R_drew)); exact Kd.R_mono (Kd.R_far (p := ⟨gb682, 1, none⟩) (Kd.R_far (p := ⟨gb682, 0, none⟩) (Kd.R_mono HO_3.out (fun k_ hk => (⟨hk, hk.2⟩ : _ ∧ k_ ≠ gb682))) (fun _ hk => hk.2) (.int .i64 ((rd_T49 l0 x7_2).f0))) (fun _ hk => hk.2) (.int .i64 ((rd_T49 l0 x7_2).f1))) (fun _ hk => hk.1.2)⟩, ⟨by (with_reducible repeat (first | apply Kd.R_alloc | apply Kd.R_drewN | apply Kd.R_drew)); exact Kd.R_mono (Kd.R_far (p := ⟨gb682, 1, none⟩) (Kd.R_far (p := ⟨gb682, 0, none⟩) (Kd.R_types HO_4.out BK682.out (by decide)) (fun _ hk => hk.2) (.int .i64 ((rd_T49 l0 x7_2).f0))) (fun _ hk => hk.2) (.int .i64 ((rd_T49 l0 x7_2).f1))) (fun _ hk => trivial)⟩, ⟨by (with_reducible repeat (first | refine blk_drewN ?_ _ | refine blk_drew ?_ | refine blk_alloc ?_ _)); refine blk_put (cs := #[.int .i64 ((rd_T49 l0 x7_2).f0), .int .i64 0]) ?_ 1 _ rfl; (with_reducible repeat (first | refine blk_drewN ?_ _ | refine blk_drew ?_ | refine blk_alloc ?_ _)); refine blk_put (cs := #[.int .i64 0, .int .i64 0]) ?_ 0 _ rfl; (with_reducible repeat (first | refine blk_drewN ?_ _ | refine blk_drew ?_ | refine blk_alloc ?_ _)); exact BK682.out⟩, ⟨by repeat (first | (with_reducible first | exact HB.out | apply below_alloc | apply pw_below_drewN | apply below_drew1 | refine below_set ?_ GE682.out) | exact HB.out)⟩⟩
                  case rest =>
                    clear HC15
                    try clear c1
                    try clear c2
                    try clear p2
                    try clear c6
                    try clear c6b0
                    try clear p6
                    try clear q6
                    try clear hx6
                    try clear c7
                    try clear c9
                    try clear c9b0
                    try clear c10
                    try clear c10b0
                    try clear c12
                    try clear c18
                    try clear c18b0
                    try clear c18b1
                    try clear c19
                    try clear c19b0
                    try clear c20
                    try clear c20b0
                    try clear hcz14_0
                    try clear hcz14_1
                    try clear hcz17_0
                    try clear hcz17_1
                    try clear hcz21_0
                    try clear hcz21_1
                    try clear hcz23_0
                    try clear hcz23_1
                    try clear hfz14_0
                    try clear hfz14_1
                    try clear hfz17_0
                    try clear hfz17_1
                    try clear hfz21_0
                    try clear hfz21_1
                    try clear hfz23_0
                    try clear hfz23_1
                    try clear hx681_0
                    try clear hx681_1
                    try clear hx684_0
                    try clear p2
                    try clear p6
                    try clear p681
                    try clear p684
                    try clear q681
                    try clear q684
                    obtain ⟨kq, x41_14, rfl, HA, HJ14, HO_3, HO_4, BK682, HB⟩ := hcut
                    cases kq with
                    | zero => exact absurd HA.out (fun h_ => (by cases h_))
                    | succ kj14 =>
                      have H := HA.out
                      clear HA
                      simp only [spec_lean.j2] at H
                      by_cases c24 : x41_14 = true
                      · subst c24
                        have H1 : (if 0 ≤ ((rd_T49 l0 x7_2).f1) then (if ((rd_T49 l0 x7_2).f1) < (x4_2.length : Int) then ((some (x4_2.set (((rd_T49 l0 x7_2).f1) : Int).toNat x6_2 : List Int)).bind fun y685 => (if ((rd_T49 l0 x7_2).f0) = 15 then (if (rd y685 ((rd_T49 l0 x7_2).f1)) ≥ 0 then (if x3_2.length < 8796093022208 then (spec_lean.l1 kj14 l0 (x3_2 ++ [(⟨((rd_T49 l0 x7_2).f0), rd y685 ((rd_T49 l0 x7_2).f1)⟩ : S49)]) y685 (wrap64 (x6_2 + 1)) (wrap64 (x7_2 + 1))) else (none)) else (if x3_2.length < 8796093022208 then (spec_lean.l1 kj14 l0 (x3_2 ++ [(⟨((rd_T49 l0 x7_2).f0), ((rd_T49 l0 x7_2).f1)⟩ : S49)]) y685 (wrap64 (x6_2 + 1)) (wrap64 (x7_2 + 1))) else (none))) else (if ((rd_T49 l0 x7_2).f0) = 16 then (if (rd y685 ((rd_T49 l0 x7_2).f1)) ≥ 0 then (if x3_2.length < 8796093022208 then (spec_lean.l1 kj14 l0 (x3_2 ++ [(⟨((rd_T49 l0 x7_2).f0), rd y685 ((rd_T49 l0 x7_2).f1)⟩ : S49)]) y685 (wrap64 (x6_2 + 1)) (wrap64 (x7_2 + 1))) else (none)) else (if x3_2.length < 8796093022208 then (spec_lean.l1 kj14 l0 (x3_2 ++ [(⟨((rd_T49 l0 x7_2).f0), ((rd_T49 l0 x7_2).f1)⟩ : S49)]) y685 (wrap64 (x6_2 + 1)) (wrap64 (x7_2 + 1))) else (none))) else (if x3_2.length < 8796093022208 then (spec_lean.l1 kj14 l0 (x3_2 ++ [(⟨((rd_T49 l0 x7_2).f0), ((rd_T49 l0 x7_2).f1)⟩ : S49)]) y685 (wrap64 (x6_2 + 1)) (wrap64 (x7_2 + 1))) else (none))))) else (none)) else (none)) = some r := by rw [if_pos rfl] at H; exact H
                        clear H
                        have H := H1
                        clear H1
                        by_cases c25 : 0 ≤ ((rd_T49 l0 x7_2).f1)
                        · rw [if_pos c25] at H
                          have c25b0 : decide (0 ≤ ((rd_T49 l0 x7_2).f1)) = true := decide_eq_true c25
                          clear c25
                          by_cases c26 : ((rd_T49 l0 x7_2).f1) < (x4_2.length : Int)
                          · rw [if_pos c26] at H
                            have c26b0 : decide (((rd_T49 l0 x7_2).f1) < (x4_2.length : Int)) = true := decide_eq_true c26
                            clear c26
                            obtain ⟨y685, hy685⟩ : ∃ y_ : List Int, y_ = (x4_2.set (((rd_T49 l0 x7_2).f1) : Int).toNat x6_2) := ⟨_, rfl⟩
                            replace H : (if ((rd_T49 l0 x7_2).f0) = 15 then (if (rd y685 ((rd_T49 l0 x7_2).f1)) ≥ 0 then (if x3_2.length < 8796093022208 then (spec_lean.l1 kj14 l0 (x3_2 ++ [(⟨((rd_T49 l0 x7_2).f0), rd y685 ((rd_T49 l0 x7_2).f1)⟩ : S49)]) y685 (wrap64 (x6_2 + 1)) (wrap64 (x7_2 + 1))) else (none)) else (if x3_2.length < 8796093022208 then (spec_lean.l1 kj14 l0 (x3_2 ++ [(⟨((rd_T49 l0 x7_2).f0), ((rd_T49 l0 x7_2).f1)⟩ : S49)]) y685 (wrap64 (x6_2 + 1)) (wrap64 (x7_2 + 1))) else (none))) else (if ((rd_T49 l0 x7_2).f0) = 16 then (if (rd y685 ((rd_T49 l0 x7_2).f1)) ≥ 0 then (if x3_2.length < 8796093022208 then (spec_lean.l1 kj14 l0 (x3_2 ++ [(⟨((rd_T49 l0 x7_2).f0), rd y685 ((rd_T49 l0 x7_2).f1)⟩ : S49)]) y685 (wrap64 (x6_2 + 1)) (wrap64 (x7_2 + 1))) else (none)) else (if x3_2.length < 8796093022208 then (spec_lean.l1 kj14 l0 (x3_2 ++ [(⟨((rd_T49 l0 x7_2).f0), ((rd_T49 l0 x7_2).f1)⟩ : S49)]) y685 (wrap64 (x6_2 + 1)) (wrap64 (x7_2 + 1))) else (none))) else (if x3_2.length < 8796093022208 then (spec_lean.l1 kj14 l0 (x3_2 ++ [(⟨((rd_T49 l0 x7_2).f0), ((rd_T49 l0 x7_2).f1)⟩ : S49)]) y685 (wrap64 (x6_2 + 1)) (wrap64 (x7_2 + 1))) else (none)))) = some r := by first | (rw [hy685]; with_reducible exact H) | (have H2_ := (Option.bind_some _ _).symm.trans H; rw [hy685]; with_reducible exact H2_) | (have H2_ := (Option.bind_some _ _).symm.trans H; with_reducible exact H2_) | with_reducible exact H | (rw [hy685]; exact H) | exact H
                            have Ny685 := Aside0.mk hy685
                            clear hy685
                            by_cases c28 : ((rd_T49 l0 x7_2).f0) = 15
                            · rw [if_pos c28] at H
                              have c28b0 : (((rd_T49 l0 x7_2).f0) == 15) = true := beq_iff_eq.mpr c28
                              have c28b1 : (((rd_T49 l0 x7_2).f0) != 15) = false := bne_eq_false_iff_eq.mpr c28
                              clear c28
                              by_cases c29 : (rd y685 ((rd_T49 l0 x7_2).f1)) ≥ 0
                              · rw [if_pos c29] at H
                                have c29b0 : decide (0 ≤ (rd y685 ((rd_T49 l0 x7_2).f1))) = true := decide_eq_true c29
                                clear c29
                                by_cases c30 : x3_2.length < 8796093022208
                                · rw [if_pos c30] at H
                                  have LMc30 := Aside0.mk c30
                                  clear c30
                                  obtain ⟨y688, hy688⟩ : ∃ y_ : List (S49), y_ = (x3_2 ++ [(⟨((rd_T49 l0 x7_2).f0), rd y685 ((rd_T49 l0 x7_2).f1)⟩ : S49)]) := ⟨_, rfl⟩
                                  replace H : (spec_lean.l1 kj14 l0 y688 y685 (wrap64 (x6_2 + 1)) (wrap64 (x7_2 + 1))) = some r := by first | (rw [hy688]; with_reducible exact H) | (have H2_ := (Option.bind_some _ _).symm.trans H; rw [hy688]; with_reducible exact H2_) | (have H2_ := (Option.bind_some _ _).symm.trans H; with_reducible exact H2_) | with_reducible exact H | (rw [hy688]; exact H) | exact H
                                  have Ny688 := Aside0.mk hy688
                                  clear hy688
                                  have H' := Aside0.mk H
                                  clear H
                                  have hcz31_0 : wc.cell? ⟨gb682, 0, none⟩ = some (.int .i64 ((rd_T49 l0 x7_2).f0)) := (blk_cell BK682.out 0).trans rfl
                                  have hcz31_1 : wc.cell? ⟨gb682, 1, none⟩ = some (.int .i64 ((rd_T49 l0 x7_2).f1)) := (blk_cell BK682.out 1).trans rfl
                                  have hfz31_0 := blk_frozen BK682.out 0
                                  have hfz31_1 := blk_frozen BK682.out 1
                                  have p27 : 0 ≤ (((rd_T49 l0 x7_2).f1) : Int) := of_decide_eq_true (by first | (with_reducible assumption) | assumption)
                                  have q27 : (((rd_T49 l0 x7_2).f1) : Int) < ((x4_2.length : Int) : Int) := of_decide_eq_true (by first | (with_reducible assumption) | assumption)
                                  obtain ⟨go27, co27, eo27, gb27, gl27, cl27, HG27⟩ := Kd.R_form HO_4.out (by omega)
                                  (first | cases eo27 | (injection eo27 with ea_ en_ ec_; (first | subst ea_ | (injection ea_ with ea_; subst ea_)); subst ec_; clear en_))
                                  have GB27 := Aside0.mk gb27
                                  have GG27 := Aside0.mk HG27
                                  clear gb27 gl27 HG27
                                  obtain ⟨hx27_0, hf27_0⟩ := Kd.R_celln 0 HO_4.out (((rd_T49 l0 x7_2).f1) : Int) p27 q27
                                  replace p27 := eq_true p27
                                  replace q27 := eq_true q27
                                  have HP32 := Kd.R_putg HO_4.out (((rd_T49 l0 x7_2).f1) : Int) x6_2
                                  go_wp2_with (first | ((with_reducible refine gate_store (t := 3) (p := 46) rfl ?_); refine store_event (t := 3) (p := 46) (v := ?vo_w33) (w1 := (wc.setCell ⟨go27, (((rd_T49 l0 x7_2).f1) : Int).toNat, none⟩ (.int .i64 x6_2))) ?hg ?ho ?hn ?hr ?_; (case ho => rfl); (case hg => rfl); (case hn => rfl); (case hr => first | (go_simp; done) | (go_simp; rfl)); intro w33 hw; have hg : wc.grownBy w33 (some go27) := (by rw [hw]; exact HP32.2); have hp_ : Kd.R (Kd.int .i64) 3 w33 w.heap.size (fun _ => True) (.slice (some ⟨go27, 0, none⟩) x4_2.length co27) y685 := (by rw [hw, Ny685.out]; exact HP32.1); clear HP32; have n0_ := Aside0.mk (Kd.R_over' (v := (.slice (some ⟨go27, 0, none⟩) x4_2.length co27)) (by (with_reducible repeat (first | apply Kd.R_alloc | apply Kd.R_drewN | apply Kd.R_drew)); exact HO_3.out) (Kd.R_typed HO_4.out) (by decide) hg); have n1_ := Aside0.mk (hp_); have n2_ := Aside0.mk (blk_grown (g := gb682) (o := .cells #[.int .i64 ((rd_T49 l0 x7_2).f0), .int .i64 ((rd_T49 l0 x7_2).f1)] 49 (0, 0)) (by (with_reducible repeat (first | refine blk_drewN ?_ _ | refine blk_drew ?_ | refine blk_alloc ?_ _)); exact BK682.out) hg (Kd.R_ne HO_4.out BK682.out (by decide))); have n3_ := Aside0.mk ((by rw [hw]; exact below_set (HB.out) GB27.out : Below w.heap.size w w33)); clear HO_3; clear HO_4; clear BK682; clear HB; have HO_3 := n0_; have HO_4 := n1_; have BK682 := n2_; have HB := n3_; clear n0_ n1_ n2_ n3_; clear hg hw hp_; have hcz34_0 : w33.cell? ⟨gb682, 0, none⟩ = some (.int .i64 ((rd_T49 l0 x7_2).f0)) := (blk_cell BK682.out 0).trans rfl; have hcz34_1 : w33.cell? ⟨gb682, 1, none⟩ = some (.int .i64 ((rd_T49 l0 x7_2).f1)) := (blk_cell BK682.out 1).trans rfl; have hfz34_0 := blk_frozen BK682.out 0; have hfz34_1 := blk_frozen BK682.out 1; have p686 : 0 ≤ (((rd_T49 l0 x7_2).f1) : Int) := of_decide_eq_true (by first | (with_reducible assumption) | assumption); have q686 : ((rd_T49 l0 x7_2).f1) < (y685.length : Int) := (by have h_ : (((rd_T49 l0 x7_2).f1) : Int) < ((x4_2.length : Int) : Int) := of_decide_eq_true (by first | (with_reducible assumption) | assumption); first | (have e_ := (Kd.R_reads' HO_4.out).1; omega) | simpa only [Ny685.out, List.length_set] using h_); have ql686 : ((((rd_T49 l0 x7_2).f1) : Int) < ((x4_2.length : Int) : Int)) = True := eq_true (of_decide_eq_true (by first | (with_reducible assumption) | assumption)); obtain ⟨ad686, e686, hx686_0⟩ := Kd.at_int (Kd.R_reads' HO_4.out).2.2 ((rd_T49 l0 x7_2).f1) p686 q686; obtain rfl : (⟨go27, 0, none⟩ : Addr) = ad686 := (by injection e686); (first | simp only [add_plain] at hx686_0 | simp only [add_at] at hx686_0 | simp only [Addr.add, Nat.zero_add] at hx686_0 | skip); replace p686 := eq_true p686; replace q686 := eq_true q686; have p687 : 0 ≤ (((rd_T49 l0 x7_2).f1) : Int) := of_decide_eq_true (by first | (with_reducible assumption) | assumption); have q687 : ((rd_T49 l0 x7_2).f1) < (y685.length : Int) := (by have h_ : (((rd_T49 l0 x7_2).f1) : Int) < ((x4_2.length : Int) : Int) := of_decide_eq_true (by first | (with_reducible assumption) | assumption); first | (have e_ := (Kd.R_reads' HO_4.out).1; omega) | simpa only [Ny685.out, List.length_set] using h_); have ql687 : ((((rd_T49 l0 x7_2).f1) : Int) < ((x4_2.length : Int) : Int)) = True := eq_true (of_decide_eq_true (by first | (with_reducible assumption) | assumption)); obtain ⟨ad687, e687, hx687_0⟩ := Kd.at_int (Kd.R_reads' HO_4.out).2.2 ((rd_T49 l0 x7_2).f1) p687 q687; obtain rfl : (⟨go27, 0, none⟩ : Addr) = ad687 := (by injection e687); (first | simp only [add_plain] at hx687_0 | simp only [add_at] at hx687_0 | simp only [Addr.add, Nat.zero_add] at hx687_0 | skip); replace p687 := eq_true p687; replace q687 := eq_true q687) | ((with_reducible refine gate_builtin (b := .append) (xs := #[.tmp 71, .tmp 73]) rfl ?_); at_builtin; refine Kd.R_append k49 (w0 := w) w.heap.size rfl (.tmp 71) (.tmp 73) 25 49 (.agg #[(.int .i64 0), (.int .i64 0)]) 16 rfl Try.underlying25 info49 rfl (by decide) (by omega) u3 x3_2 (⟨((rd_T49 l0 x7_2).f0), rd y685 ((rd_T49 l0 x7_2).f1)⟩ : S49) [.int .i64 ((rd_T49 l0 x7_2).f0), .int .i64 (rd y685 ((rd_T49 l0 x7_2).f1))] (fun k_ => k_ ≠ gb682) (fun _ => False) rfl (by first | (go_simp; done) | (go_simp; rfl)) ?aP (fun _ hk => hk.elim) ?aF ?aO ?aB ?aS ?aL ?_; (case aP => exact k49_mkM _ _ _ (⟨((rd_T49 l0 x7_2).f0), rd y685 ((rd_T49 l0 x7_2).f1)⟩ : S49)); (case aB => exact (by repeat (first | (with_reducible first | exact HB.out | apply below_alloc | apply pw_below_drewN | apply below_drew1 | refine below_set ?_ GE682.out) | exact HB.out))); (case aF => exact (fun k_ hk => Kd.freshB (g := gb682) (o := .cells #[.int .i64 ((rd_T49 l0 x7_2).f0), .int .i64 (rd y685 ((rd_T49 l0 x7_2).f1))] 49 (0, 0)) (by (with_reducible repeat (first | refine blk_drewN ?_ _ | refine blk_drew ?_ | refine blk_alloc ?_ _)); refine blk_put (cs := #[.int .i64 ((rd_T49 l0 x7_2).f0), .int .i64 ((rd_T49 l0 x7_2).f1)]) ?_ 1 _ rfl; (with_reducible repeat (first | refine blk_drewN ?_ _ | refine blk_drew ?_ | refine blk_alloc ?_ _)); exact BK682.out) k_ hk)); (case aO => exact (by (with_reducible repeat (first | apply Kd.R_alloc | apply Kd.R_drewN | apply Kd.R_drew)); exact Kd.R_mono (Kd.R_far (p := ⟨gb682, 1, none⟩) (Kd.R_mono HO_3.out (fun k_ hk => (⟨hk, hk⟩ : _ ∧ k_ ≠ gb682))) (fun _ hk => hk.2) (.int .i64 (rd y685 ((rd_T49 l0 x7_2).f1)))) (fun _ hk => hk.1))); (case aS => exact (below_size (by repeat (first | (with_reducible first | exact HB.out | apply below_alloc | apply pw_below_drewN | apply below_drew1 | refine below_set ?_ GE682.out) | exact HB.out)))); (case aL => have := LMc30.out; omega); intro v689 w35 ho hb hg hat; rw [← Ny688.out] at ho; have n0_ := Aside0.mk (Kd.R_over' (by (with_reducible repeat (first | apply Kd.R_alloc | apply Kd.R_drewN | apply Kd.R_drew)); exact (Kd.R_mono (Kd.R_far (p := ⟨gb682, 1, none⟩) (Kd.R_types HO_4.out BK682.out (by decide)) (fun _ hk => hk.2) (.int .i64 (rd y685 ((rd_T49 l0 x7_2).f1)))) (fun _ h_ => h_.1))) (Kd.R_typed (by (with_reducible repeat (first | apply Kd.R_alloc | apply Kd.R_drewN | apply Kd.R_drew)); exact (Kd.R_mono (Kd.R_far (p := ⟨gb682, 1, none⟩) (Kd.R_mono HO_3.out (fun k_ hk => (⟨hk, hk⟩ : _ ∧ k_ ≠ gb682))) (fun _ hk => hk.2) (.int .i64 (rd y685 ((rd_T49 l0 x7_2).f1)))) (fun _ h_ => h_.1)))) (by decide) hg); have n1_ := Aside0.mk (blk_grown (g := gb682) (o := .cells #[.int .i64 ((rd_T49 l0 x7_2).f0), .int .i64 (rd y685 ((rd_T49 l0 x7_2).f1))] 49 (0, 0)) (by (with_reducible repeat (first | refine blk_drewN ?_ _ | refine blk_drew ?_ | refine blk_alloc ?_ _)); refine blk_put (cs := #[.int .i64 ((rd_T49 l0 x7_2).f0), .int .i64 ((rd_T49 l0 x7_2).f1)]) ?_ 1 _ rfl; (with_reducible repeat (first | refine blk_drewN ?_ _ | refine blk_drew ?_ | refine blk_alloc ?_ _)); exact BK682.out) hg (Kd.R_away HO_3.out (fun _ hk => hk))); have n2_ := Aside0.mk (hb); have n3_ := Aside0.mk (ho); clear HO_4; clear BK682; clear HB; clear HO_3; have HO_4 := n0_; have BK682 := n1_; have HB := n2_; have HO690 := n3_; clear n0_ n1_ n2_ n3_; clear ho hb hg hat))
                                  go_roundg kj14
                                  case measure => have := HK1.out; have := HK2.out; have := HJ14.out; omega
                                  case rel => exact ⟨(y688), (y685), (wrap64 (x6_2 + 1)), (wrap64 (x7_2 + 1)), (by first | rfl | (simp; done) | (simp [*]; done)), (by first | rfl | (simp; done) | (simp [*]; done)), H', ⟨by have := HK1.out; have := HK2.out; have := HJ14.out; omega⟩, ⟨by (with_reducible repeat (first | apply Kd.R_alloc | apply Kd.R_drewN | apply Kd.R_drew)); exact Kd.R_mono HO690.out (fun _ hk => trivial)⟩, ⟨by (with_reducible repeat (first | apply Kd.R_alloc | apply Kd.R_drewN | apply Kd.R_drew)); exact HO_4.out⟩, ⟨by repeat (first | (with_reducible first | exact HB.out | apply below_alloc | apply pw_below_drewN | apply below_drew1 | refine below_set ?_ GE682.out) | exact HB.out)⟩⟩
                                · rw [if_neg c30] at H
                                  exact absurd H (by simp)
                              · rw [if_neg c29] at H
                                have c29b0 : decide (0 ≤ (rd y685 ((rd_T49 l0 x7_2).f1))) = false := decide_eq_false c29
                                clear c29
                                by_cases c36 : x3_2.length < 8796093022208
                                · rw [if_pos c36] at H
                                  have LMc36 := Aside0.mk c36
                                  clear c36
                                  obtain ⟨y691, hy691⟩ : ∃ y_ : List (S49), y_ = (x3_2 ++ [(⟨((rd_T49 l0 x7_2).f0), ((rd_T49 l0 x7_2).f1)⟩ : S49)]) := ⟨_, rfl⟩
                                  replace H : (spec_lean.l1 kj14 l0 y691 y685 (wrap64 (x6_2 + 1)) (wrap64 (x7_2 + 1))) = some r := by first | (rw [hy691]; with_reducible exact H) | (have H2_ := (Option.bind_some _ _).symm.trans H; rw [hy691]; with_reducible exact H2_) | (have H2_ := (Option.bind_some _ _).symm.trans H; with_reducible exact H2_) | with_reducible exact H | (rw [hy691]; exact H) | exact H
                                  have Ny691 := Aside0.mk hy691
                                  clear hy691
                                  have H' := Aside0.mk H
                                  clear H
                                  have hcz37_0 : wc.cell? ⟨gb682, 0, none⟩ = some (.int .i64 ((rd_T49 l0 x7_2).f0)) := (blk_cell BK682.out 0).trans rfl
                                  have hcz37_1 : wc.cell? ⟨gb682, 1, none⟩ = some (.int .i64 ((rd_T49 l0 x7_2).f1)) := (blk_cell BK682.out 1).trans rfl
                                  have hfz37_0 := blk_frozen BK682.out 0
                                  have hfz37_1 := blk_frozen BK682.out 1
                                  have p27 : 0 ≤ (((rd_T49 l0 x7_2).f1) : Int) := of_decide_eq_true (by first | (with_reducible assumption) | assumption)
                                  have q27 : (((rd_T49 l0 x7_2).f1) : Int) < ((x4_2.length : Int) : Int) := of_decide_eq_true (by first | (with_reducible assumption) | assumption)
                                  obtain ⟨go27, co27, eo27, gb27, gl27, cl27, HG27⟩ := Kd.R_form HO_4.out (by omega)
                                  (first | cases eo27 | (injection eo27 with ea_ en_ ec_; (first | subst ea_ | (injection ea_ with ea_; subst ea_)); subst ec_; clear en_))
                                  have GB27 := Aside0.mk gb27
                                  have GG27 := Aside0.mk HG27
                                  clear gb27 gl27 HG27
                                  obtain ⟨hx27_0, hf27_0⟩ := Kd.R_celln 0 HO_4.out (((rd_T49 l0 x7_2).f1) : Int) p27 q27
                                  replace p27 := eq_true p27
                                  replace q27 := eq_true q27
                                  have HP38 := Kd.R_putg HO_4.out (((rd_T49 l0 x7_2).f1) : Int) x6_2
                                  go_wp2_with (first | ((with_reducible refine gate_store (t := 3) (p := 46) rfl ?_); refine store_event (t := 3) (p := 46) (v := ?vo_w39) (w1 := (wc.setCell ⟨go27, (((rd_T49 l0 x7_2).f1) : Int).toNat, none⟩ (.int .i64 x6_2))) ?hg ?ho ?hn ?hr ?_; (case ho => rfl); (case hg => rfl); (case hn => rfl); (case hr => first | (go_simp; done) | (go_simp; rfl)); intro w39 hw; have hg : wc.grownBy w39 (some go27) := (by rw [hw]; exact HP38.2); have hp_ : Kd.R (Kd.int .i64) 3 w39 w.heap.size (fun _ => True) (.slice (some ⟨go27, 0, none⟩) x4_2.length co27) y685 := (by rw [hw, Ny685.out]; exact HP38.1); clear HP38; have n0_ := Aside0.mk (Kd.R_over' (v := (.slice (some ⟨go27, 0, none⟩) x4_2.length co27)) (by (with_reducible repeat (first | apply Kd.R_alloc | apply Kd.R_drewN | apply Kd.R_drew)); exact HO_3.out) (Kd.R_typed HO_4.out) (by decide) hg); have n1_ := Aside0.mk (hp_); have n2_ := Aside0.mk (blk_grown (g := gb682) (o := .cells #[.int .i64 ((rd_T49 l0 x7_2).f0), .int .i64 ((rd_T49 l0 x7_2).f1)] 49 (0, 0)) (by (with_reducible repeat (first | refine blk_drewN ?_ _ | refine blk_drew ?_ | refine blk_alloc ?_ _)); exact BK682.out) hg (Kd.R_ne HO_4.out BK682.out (by decide))); have n3_ := Aside0.mk ((by rw [hw]; exact below_set (HB.out) GB27.out : Below w.heap.size w w39)); clear HO_3; clear HO_4; clear BK682; clear HB; have HO_3 := n0_; have HO_4 := n1_; have BK682 := n2_; have HB := n3_; clear n0_ n1_ n2_ n3_; clear hg hw hp_; have hcz40_0 : w39.cell? ⟨gb682, 0, none⟩ = some (.int .i64 ((rd_T49 l0 x7_2).f0)) := (blk_cell BK682.out 0).trans rfl; have hcz40_1 : w39.cell? ⟨gb682, 1, none⟩ = some (.int .i64 ((rd_T49 l0 x7_2).f1)) := (blk_cell BK682.out 1).trans rfl; have hfz40_0 := blk_frozen BK682.out 0; have hfz40_1 := blk_frozen BK682.out 1; have p686 : 0 ≤ (((rd_T49 l0 x7_2).f1) : Int) := of_decide_eq_true (by first | (with_reducible assumption) | assumption); have q686 : ((rd_T49 l0 x7_2).f1) < (y685.length : Int) := (by have h_ : (((rd_T49 l0 x7_2).f1) : Int) < ((x4_2.length : Int) : Int) := of_decide_eq_true (by first | (with_reducible assumption) | assumption); first | (have e_ := (Kd.R_reads' HO_4.out).1; omega) | simpa only [Ny685.out, List.length_set] using h_); have ql686 : ((((rd_T49 l0 x7_2).f1) : Int) < ((x4_2.length : Int) : Int)) = True := eq_true (of_decide_eq_true (by first | (with_reducible assumption) | assumption)); obtain ⟨ad686, e686, hx686_0⟩ := Kd.at_int (Kd.R_reads' HO_4.out).2.2 ((rd_T49 l0 x7_2).f1) p686 q686; obtain rfl : (⟨go27, 0, none⟩ : Addr) = ad686 := (by injection e686); (first | simp only [add_plain] at hx686_0 | simp only [add_at] at hx686_0 | simp only [Addr.add, Nat.zero_add] at hx686_0 | skip); replace p686 := eq_true p686; replace q686 := eq_true q686) | ((with_reducible refine gate_builtin (b := .append) (xs := #[.tmp 71, .tmp 73]) rfl ?_); at_builtin; refine Kd.R_append k49 (w0 := w) w.heap.size rfl (.tmp 71) (.tmp 73) 25 49 (.agg #[(.int .i64 0), (.int .i64 0)]) 16 rfl Try.underlying25 info49 rfl (by decide) (by omega) u3 x3_2 (⟨((rd_T49 l0 x7_2).f0), ((rd_T49 l0 x7_2).f1)⟩ : S49) [.int .i64 ((rd_T49 l0 x7_2).f0), .int .i64 ((rd_T49 l0 x7_2).f1)] (fun k_ => k_ ≠ gb682) (fun _ => False) rfl rfl ?aP (fun _ hk => hk.elim) ?aF ?aO ?aB ?aS ?aL ?_; (case aP => exact k49_mkM _ _ _ (⟨((rd_T49 l0 x7_2).f0), ((rd_T49 l0 x7_2).f1)⟩ : S49)); (case aB => exact (by repeat (first | (with_reducible first | exact HB.out | apply below_alloc | apply pw_below_drewN | apply below_drew1 | refine below_set ?_ GE682.out) | exact HB.out))); (case aF => exact (fun k_ hk => Kd.freshB (g := gb682) (o := .cells #[.int .i64 ((rd_T49 l0 x7_2).f0), .int .i64 ((rd_T49 l0 x7_2).f1)] 49 (0, 0)) (by (with_reducible repeat (first | refine blk_drewN ?_ _ | refine blk_drew ?_ | refine blk_alloc ?_ _)); exact BK682.out) k_ hk)); (case aO => exact (by (with_reducible repeat (first | apply Kd.R_alloc | apply Kd.R_drewN | apply Kd.R_drew)); exact HO_3.out)); (case aS => exact (below_size (by repeat (first | (with_reducible first | exact HB.out | apply below_alloc | apply pw_below_drewN | apply below_drew1 | refine below_set ?_ GE682.out) | exact HB.out)))); (case aL => have := LMc36.out; omega); intro v692 w41 ho hb hg hat; rw [← Ny691.out] at ho; have n0_ := Aside0.mk (Kd.R_over' (by (with_reducible repeat (first | apply Kd.R_alloc | apply Kd.R_drewN | apply Kd.R_drew)); exact HO_4.out) (Kd.R_typed (by (with_reducible repeat (first | apply Kd.R_alloc | apply Kd.R_drewN | apply Kd.R_drew)); exact HO_3.out)) (by decide) hg); have n1_ := Aside0.mk (blk_grown (g := gb682) (o := .cells #[.int .i64 ((rd_T49 l0 x7_2).f0), .int .i64 ((rd_T49 l0 x7_2).f1)] 49 (0, 0)) (by (with_reducible repeat (first | refine blk_drewN ?_ _ | refine blk_drew ?_ | refine blk_alloc ?_ _)); exact BK682.out) hg (Kd.R_away HO_3.out (fun _ hk => hk))); have n2_ := Aside0.mk (hb); have n3_ := Aside0.mk (ho); clear HO_4; clear BK682; clear HB; clear HO_3; have HO_4 := n0_; have BK682 := n1_; have HB := n2_; have HO693 := n3_; clear n0_ n1_ n2_ n3_; clear ho hb hg hat))
                                  go_roundg kj14
                                  case measure => have := HK1.out; have := HK2.out; have := HJ14.out; omega
                                  case rel => exact ⟨(y691), (y685), (wrap64 (x6_2 + 1)), (wrap64 (x7_2 + 1)), (by first | rfl | (simp; done) | (simp [*]; done)), (by first | rfl | (simp; done) | (simp [*]; done)), H', ⟨by have := HK1.out; have := HK2.out; have := HJ14.out; omega⟩, ⟨by (with_reducible repeat (first | apply Kd.R_alloc | apply Kd.R_drewN | apply Kd.R_drew)); exact Kd.R_mono HO693.out (fun _ hk => trivial)⟩, ⟨by (with_reducible repeat (first | apply Kd.R_alloc | apply Kd.R_drewN | apply Kd.R_drew)); exact HO_4.out⟩, ⟨by repeat (first | (with_reducible first | exact HB.out | apply below_alloc | apply pw_below_drewN | apply below_drew1 | refine below_set ?_ GE682.out) | exact HB.out)⟩⟩
                                · rw [if_neg c36] at H
                                  exact absurd H (by simp)
                            · rw [if_neg c28] at H
                              have c28b0 : (((rd_T49 l0 x7_2).f0) == 15) = false := beq_eq_false_iff_ne.mpr c28
                              have c28b1 : (((rd_T49 l0 x7_2).f0) != 15) = true := bne_iff_ne.mpr c28
                              by_cases c42 : ((rd_T49 l0 x7_2).f0) = 16
                              · rw [if_pos c42] at H
                                have c42b0 : (((rd_T49 l0 x7_2).f0) == 16) = true := beq_iff_eq.mpr c42
                                have c42b1 : (((rd_T49 l0 x7_2).f0) != 16) = false := bne_eq_false_iff_eq.mpr c42
                                clear c42
                                by_cases c43 : (rd y685 ((rd_T49 l0 x7_2).f1)) ≥ 0
                                · rw [if_pos c43] at H
                                  have c43b0 : decide (0 ≤ (rd y685 ((rd_T49 l0 x7_2).f1))) = true := decide_eq_true c43
                                  clear c43
                                  by_cases c44 : x3_2.length < 8796093022208
                                  · rw [if_pos c44] at H
                                    have LMc44 := Aside0.mk c44
                                    clear c44
                                    obtain ⟨y696, hy696⟩ : ∃ y_ : List (S49), y_ = (x3_2 ++ [(⟨((rd_T49 l0 x7_2).f0), rd y685 ((rd_T49 l0 x7_2).f1)⟩ : S49)]) := ⟨_, rfl⟩
                                    replace H : (spec_lean.l1 kj14 l0 y696 y685 (wrap64 (x6_2 + 1)) (wrap64 (x7_2 + 1))) = some r := by first | (rw [hy696]; with_reducible exact H) | (have H2_ := (Option.bind_some _ _).symm.trans H; rw [hy696]; with_reducible exact H2_) | (have H2_ := (Option.bind_some _ _).symm.trans H; with_reducible exact H2_) | with_reducible exact H | (rw [hy696]; exact H) | exact H
                                    have Ny696 := Aside0.mk hy696
                                    clear hy696
                                    have H' := Aside0.mk H
                                    clear H
                                    have hcz45_0 : wc.cell? ⟨gb682, 0, none⟩ = some (.int .i64 ((rd_T49 l0 x7_2).f0)) := (blk_cell BK682.out 0).trans rfl
                                    have hcz45_1 : wc.cell? ⟨gb682, 1, none⟩ = some (.int .i64 ((rd_T49 l0 x7_2).f1)) := (blk_cell BK682.out 1).trans rfl
                                    have hfz45_0 := blk_frozen BK682.out 0
                                    have hfz45_1 := blk_frozen BK682.out 1
                                    have p27 : 0 ≤ (((rd_T49 l0 x7_2).f1) : Int) := of_decide_eq_true (by first | (with_reducible assumption) | assumption)
                                    have q27 : (((rd_T49 l0 x7_2).f1) : Int) < ((x4_2.length : Int) : Int) := of_decide_eq_true (by first | (with_reducible assumption) | assumption)
                                    obtain ⟨go27, co27, eo27, gb27, gl27, cl27, HG27⟩ := Kd.R_form HO_4.out (by omega)
                                    (first | cases eo27 | (injection eo27 with ea_ en_ ec_; (first | subst ea_ | (injection ea_ with ea_; subst ea_)); subst ec_; clear en_))
                                    have GB27 := Aside0.mk gb27
                                    have GG27 := Aside0.mk HG27
                                    clear gb27 gl27 HG27
                                    obtain ⟨hx27_0, hf27_0⟩ := Kd.R_celln 0 HO_4.out (((rd_T49 l0 x7_2).f1) : Int) p27 q27
                                    replace p27 := eq_true p27
                                    replace q27 := eq_true q27
                                    have HP46 := Kd.R_putg HO_4.out (((rd_T49 l0 x7_2).f1) : Int) x6_2
                                    go_wp2_with (first | ((with_reducible refine gate_store (t := 3) (p := 46) rfl ?_); refine store_event (t := 3) (p := 46) (v := ?vo_w47) (w1 := (wc.setCell ⟨go27, (((rd_T49 l0 x7_2).f1) : Int).toNat, none⟩ (.int .i64 x6_2))) ?hg ?ho ?hn ?hr ?_; (case ho => rfl); (case hg => rfl); (case hn => rfl); (case hr => first | (go_simp; done) | (go_simp; rfl)); intro w47 hw; have hg : wc.grownBy w47 (some go27) := (by rw [hw]; exact HP46.2); have hp_ : Kd.R (Kd.int .i64) 3 w47 w.heap.size (fun _ => True) (.slice (some ⟨go27, 0, none⟩) x4_2.length co27) y685 := (by rw [hw, Ny685.out]; exact HP46.1); clear HP46; have n0_ := Aside0.mk (Kd.R_over' (v := (.slice (some ⟨go27, 0, none⟩) x4_2.length co27)) (by (with_reducible repeat (first | apply Kd.R_alloc | apply Kd.R_drewN | apply Kd.R_drew)); exact HO_3.out) (Kd.R_typed HO_4.out) (by decide) hg); have n1_ := Aside0.mk (hp_); have n2_ := Aside0.mk (blk_grown (g := gb682) (o := .cells #[.int .i64 ((rd_T49 l0 x7_2).f0), .int .i64 ((rd_T49 l0 x7_2).f1)] 49 (0, 0)) (by (with_reducible repeat (first | refine blk_drewN ?_ _ | refine blk_drew ?_ | refine blk_alloc ?_ _)); exact BK682.out) hg (Kd.R_ne HO_4.out BK682.out (by decide))); have n3_ := Aside0.mk ((by rw [hw]; exact below_set (HB.out) GB27.out : Below w.heap.size w w47)); clear HO_3; clear HO_4; clear BK682; clear HB; have HO_3 := n0_; have HO_4 := n1_; have BK682 := n2_; have HB := n3_; clear n0_ n1_ n2_ n3_; clear hg hw hp_; have hcz48_0 : w47.cell? ⟨gb682, 0, none⟩ = some (.int .i64 ((rd_T49 l0 x7_2).f0)) := (blk_cell BK682.out 0).trans rfl; have hcz48_1 : w47.cell? ⟨gb682, 1, none⟩ = some (.int .i64 ((rd_T49 l0 x7_2).f1)) := (blk_cell BK682.out 1).trans rfl; have hfz48_0 := blk_frozen BK682.out 0; have hfz48_1 := blk_frozen BK682.out 1; have p694 : 0 ≤ (((rd_T49 l0 x7_2).f1) : Int) := of_decide_eq_true (by first | (with_reducible assumption) | assumption); have q694 : ((rd_T49 l0 x7_2).f1) < (y685.length : Int) := (by have h_ : (((rd_T49 l0 x7_2).f1) : Int) < ((x4_2.length : Int) : Int) := of_decide_eq_true (by first | (with_reducible assumption) | assumption); first | (have e_ := (Kd.R_reads' HO_4.out).1; omega) | simpa only [Ny685.out, List.length_set] using h_); have ql694 : ((((rd_T49 l0 x7_2).f1) : Int) < ((x4_2.length : Int) : Int)) = True := eq_true (of_decide_eq_true (by first | (with_reducible assumption) | assumption)); obtain ⟨ad694, e694, hx694_0⟩ := Kd.at_int (Kd.R_reads' HO_4.out).2.2 ((rd_T49 l0 x7_2).f1) p694 q694; obtain rfl : (⟨go27, 0, none⟩ : Addr) = ad694 := (by injection e694); (first | simp only [add_plain] at hx694_0 | simp only [add_at] at hx694_0 | simp only [Addr.add, Nat.zero_add] at hx694_0 | skip); replace p694 := eq_true p694; replace q694 := eq_true q694; have p695 : 0 ≤ (((rd_T49 l0 x7_2).f1) : Int) := of_decide_eq_true (by first | (with_reducible assumption) | assumption); have q695 : ((rd_T49 l0 x7_2).f1) < (y685.length : Int) := (by have h_ : (((rd_T49 l0 x7_2).f1) : Int) < ((x4_2.length : Int) : Int) := of_decide_eq_true (by first | (with_reducible assumption) | assumption); first | (have e_ := (Kd.R_reads' HO_4.out).1; omega) | simpa only [Ny685.out, List.length_set] using h_); have ql695 : ((((rd_T49 l0 x7_2).f1) : Int) < ((x4_2.length : Int) : Int)) = True := eq_true (of_decide_eq_true (by first | (with_reducible assumption) | assumption)); obtain ⟨ad695, e695, hx695_0⟩ := Kd.at_int (Kd.R_reads' HO_4.out).2.2 ((rd_T49 l0 x7_2).f1) p695 q695; obtain rfl : (⟨go27, 0, none⟩ : Addr) = ad695 := (by injection e695); (first | simp only [add_plain] at hx695_0 | simp only [add_at] at hx695_0 | simp only [Addr.add, Nat.zero_add] at hx695_0 | skip); replace p695 := eq_true p695; replace q695 := eq_true q695) | ((with_reducible refine gate_builtin (b := .append) (xs := #[.tmp 71, .tmp 73]) rfl ?_); at_builtin; refine Kd.R_append k49 (w0 := w) w.heap.size rfl (.tmp 71) (.tmp 73) 25 49 (.agg #[(.int .i64 0), (.int .i64 0)]) 16 rfl Try.underlying25 info49 rfl (by decide) (by omega) u3 x3_2 (⟨((rd_T49 l0 x7_2).f0), rd y685 ((rd_T49 l0 x7_2).f1)⟩ : S49) [.int .i64 ((rd_T49 l0 x7_2).f0), .int .i64 (rd y685 ((rd_T49 l0 x7_2).f1))] (fun k_ => k_ ≠ gb682) (fun _ => False) rfl (by first | (go_simp; done) | (go_simp; rfl)) ?aP (fun _ hk => hk.elim) ?aF ?aO ?aB ?aS ?aL ?_; (case aP => exact k49_mkM _ _ _ (⟨((rd_T49 l0 x7_2).f0), rd y685 ((rd_T49 l0 x7_2).f1)⟩ : S49)); (case aB => exact (by repeat (first | (with_reducible first | exact HB.out | apply below_alloc | apply pw_below_drewN | apply below_drew1 | refine below_set ?_ GE682.out) | exact HB.out))); (case aF => exact (fun k_ hk => Kd.freshB (g := gb682) (o := .cells #[.int .i64 ((rd_T49 l0 x7_2).f0), .int .i64 (rd y685 ((rd_T49 l0 x7_2).f1))] 49 (0, 0)) (by (with_reducible repeat (first | refine blk_drewN ?_ _ | refine blk_drew ?_ | refine blk_alloc ?_ _)); refine blk_put (cs := #[.int .i64 ((rd_T49 l0 x7_2).f0), .int .i64 ((rd_T49 l0 x7_2).f1)]) ?_ 1 _ rfl; (with_reducible repeat (first | refine blk_drewN ?_ _ | refine blk_drew ?_ | refine blk_alloc ?_ _)); exact BK682.out) k_ hk)); (case aO => exact (by (with_reducible repeat (first | apply Kd.R_alloc | apply Kd.R_drewN | apply Kd.R_drew)); exact Kd.R_mono (Kd.R_far (p := ⟨gb682, 1, none⟩) (Kd.R_mono HO_3.out (fun k_ hk => (⟨hk, hk⟩ : _ ∧ k_ ≠ gb682))) (fun _ hk => hk.2) (.int .i64 (rd y685 ((rd_T49 l0 x7_2).f1)))) (fun _ hk => hk.1))); (case aS => exact (below_size (by repeat (first | (with_reducible first | exact HB.out | apply below_alloc | apply pw_below_drewN | apply below_drew1 | refine below_set ?_ GE682.out) | exact HB.out)))); (case aL => have := LMc44.out; omega); intro v697 w49 ho hb hg hat; rw [← Ny696.out] at ho; have n0_ := Aside0.mk (Kd.R_over' (by (with_reducible repeat (first | apply Kd.R_alloc | apply Kd.R_drewN | apply Kd.R_drew)); exact (Kd.R_mono (Kd.R_far (p := ⟨gb682, 1, none⟩) (Kd.R_types HO_4.out BK682.out (by decide)) (fun _ hk => hk.2) (.int .i64 (rd y685 ((rd_T49 l0 x7_2).f1)))) (fun _ h_ => h_.1))) (Kd.R_typed (by (with_reducible repeat (first | apply Kd.R_alloc | apply Kd.R_drewN | apply Kd.R_drew)); exact (Kd.R_mono (Kd.R_far (p := ⟨gb682, 1, none⟩) (Kd.R_mono HO_3.out (fun k_ hk => (⟨hk, hk⟩ : _ ∧ k_ ≠ gb682))) (fun _ hk => hk.2) (.int .i64 (rd y685 ((rd_T49 l0 x7_2).f1)))) (fun _ h_ => h_.1)))) (by decide) hg); have n1_ := Aside0.mk (blk_grown (g := gb682) (o := .cells #[.int .i64 ((rd_T49 l0 x7_2).f0), .int .i64 (rd y685 ((rd_T49 l0 x7_2).f1))] 49 (0, 0)) (by (with_reducible repeat (first | refine blk_drewN ?_ _ | refine blk_drew ?_ | refine blk_alloc ?_ _)); refine blk_put (cs := #[.int .i64 ((rd_T49 l0 x7_2).f0), .int .i64 ((rd_T49 l0 x7_2).f1)]) ?_ 1 _ rfl; (with_reducible repeat (first | refine blk_drewN ?_ _ | refine blk_drew ?_ | refine blk_alloc ?_ _)); exact BK682.out) hg (Kd.R_away HO_3.out (fun _ hk => hk))); have n2_ := Aside0.mk (hb); have n3_ := Aside0.mk (ho); clear HO_4; clear BK682; clear HB; clear HO_3; have HO_4 := n0_; have BK682 := n1_; have HB := n2_; have HO698 := n3_; clear n0_ n1_ n2_ n3_; clear ho hb hg hat))
                                    go_roundg kj14
                                    case measure => have := HK1.out; have := HK2.out; have := HJ14.out; omega
                                    case rel => exact ⟨(y696), (y685), (wrap64 (x6_2 + 1)), (wrap64 (x7_2 + 1)), (by first | rfl | (simp; done) | (simp [*]; done)), (by first | rfl | (simp; done) | (simp [*]; done)), H', ⟨by have := HK1.out; have := HK2.out; have := HJ14.out; omega⟩, ⟨by (with_reducible repeat (first | apply Kd.R_alloc | apply Kd.R_drewN | apply Kd.R_drew)); exact Kd.R_mono HO698.out (fun _ hk => trivial)⟩, ⟨by (with_reducible repeat (first | apply Kd.R_alloc | apply Kd.R_drewN | apply Kd.R_drew)); exact HO_4.out⟩, ⟨by repeat (first | (with_reducible first | exact HB.out | apply below_alloc | apply pw_below_drewN | apply below_drew1 | refine below_set ?_ GE682.out) | exact HB.out)⟩⟩
                                  · rw [if_neg c44] at H
                                    exact absurd H (by simp)
                                · rw [if_neg c43] at H
                                  have c43b0 : decide (0 ≤ (rd y685 ((rd_T49 l0 x7_2).f1))) = false := decide_eq_false c43
                                  clear c43
                                  by_cases c50 : x3_2.length < 8796093022208
                                  · rw [if_pos c50] at H
                                    have LMc50 := Aside0.mk c50
                                    clear c50
                                    obtain ⟨y699, hy699⟩ : ∃ y_ : List (S49), y_ = (x3_2 ++ [(⟨((rd_T49 l0 x7_2).f0), ((rd_T49 l0 x7_2).f1)⟩ : S49)]) := ⟨_, rfl⟩
                                    replace H : (spec_lean.l1 kj14 l0 y699 y685 (wrap64 (x6_2 + 1)) (wrap64 (x7_2 + 1))) = some r := by first | (rw [hy699]; with_reducible exact H) | (have H2_ := (Option.bind_some _ _).symm.trans H; rw [hy699]; with_reducible exact H2_) | (have H2_ := (Option.bind_some _ _).symm.trans H; with_reducible exact H2_) | with_reducible exact H | (rw [hy699]; exact H) | exact H
                                    have Ny699 := Aside0.mk hy699
                                    clear hy699
                                    have H' := Aside0.mk H
                                    clear H
                                    have hcz51_0 : wc.cell? ⟨gb682, 0, none⟩ = some (.int .i64 ((rd_T49 l0 x7_2).f0)) := (blk_cell BK682.out 0).trans rfl
                                    have hcz51_1 : wc.cell? ⟨gb682, 1, none⟩ = some (.int .i64 ((rd_T49 l0 x7_2).f1)) := (blk_cell BK682.out 1).trans rfl
                                    have hfz51_0 := blk_frozen BK682.out 0
                                    have hfz51_1 := blk_frozen BK682.out 1
                                    have p27 : 0 ≤ (((rd_T49 l0 x7_2).f1) : Int) := of_decide_eq_true (by first | (with_reducible assumption) | assumption)
                                    have q27 : (((rd_T49 l0 x7_2).f1) : Int) < ((x4_2.length : Int) : Int) := of_decide_eq_true (by first | (with_reducible assumption) | assumption)
                                    obtain ⟨go27, co27, eo27, gb27, gl27, cl27, HG27⟩ := Kd.R_form HO_4.out (by omega)
                                    (first | cases eo27 | (injection eo27 with ea_ en_ ec_; (first | subst ea_ | (injection ea_ with ea_; subst ea_)); subst ec_; clear en_))
                                    have GB27 := Aside0.mk gb27
                                    have GG27 := Aside0.mk HG27
                                    clear gb27 gl27 HG27
                                    obtain ⟨hx27_0, hf27_0⟩ := Kd.R_celln 0 HO_4.out (((rd_T49 l0 x7_2).f1) : Int) p27 q27
                                    replace p27 := eq_true p27
                                    replace q27 := eq_true q27
                                    have HP52 := Kd.R_putg HO_4.out (((rd_T49 l0 x7_2).f1) : Int) x6_2
                                    go_wp2_with (first | ((with_reducible refine gate_store (t := 3) (p := 46) rfl ?_); refine store_event (t := 3) (p := 46) (v := ?vo_w53) (w1 := (wc.setCell ⟨go27, (((rd_T49 l0 x7_2).f1) : Int).toNat, none⟩ (.int .i64 x6_2))) ?hg ?ho ?hn ?hr ?_; (case ho => rfl); (case hg => rfl); (case hn => rfl); (case hr => first | (go_simp; done) | (go_simp; rfl)); intro w53 hw; have hg : wc.grownBy w53 (some go27) := (by rw [hw]; exact HP52.2); have hp_ : Kd.R (Kd.int .i64) 3 w53 w.heap.size (fun _ => True) (.slice (some ⟨go27, 0, none⟩) x4_2.length co27) y685 := (by rw [hw, Ny685.out]; exact HP52.1); clear HP52; have n0_ := Aside0.mk (Kd.R_over' (v := (.slice (some ⟨go27, 0, none⟩) x4_2.length co27)) (by (with_reducible repeat (first | apply Kd.R_alloc | apply Kd.R_drewN | apply Kd.R_drew)); exact HO_3.out) (Kd.R_typed HO_4.out) (by decide) hg); have n1_ := Aside0.mk (hp_); have n2_ := Aside0.mk (blk_grown (g := gb682) (o := .cells #[.int .i64 ((rd_T49 l0 x7_2).f0), .int .i64 ((rd_T49 l0 x7_2).f1)] 49 (0, 0)) (by (with_reducible repeat (first | refine blk_drewN ?_ _ | refine blk_drew ?_ | refine blk_alloc ?_ _)); exact BK682.out) hg (Kd.R_ne HO_4.out BK682.out (by decide))); have n3_ := Aside0.mk ((by rw [hw]; exact below_set (HB.out) GB27.out : Below w.heap.size w w53)); clear HO_3; clear HO_4; clear BK682; clear HB; have HO_3 := n0_; have HO_4 := n1_; have BK682 := n2_; have HB := n3_; clear n0_ n1_ n2_ n3_; clear hg hw hp_; have hcz54_0 : w53.cell? ⟨gb682, 0, none⟩ = some (.int .i64 ((rd_T49 l0 x7_2).f0)) := (blk_cell BK682.out 0).trans rfl; have hcz54_1 : w53.cell? ⟨gb682, 1, none⟩ = some (.int .i64 ((rd_T49 l0 x7_2).f1)) := (blk_cell BK682.out 1).trans rfl; have hfz54_0 := blk_frozen BK682.out 0; have hfz54_1 := blk_frozen BK682.out 1; have p694 : 0 ≤ (((rd_T49 l0 x7_2).f1) : Int) := of_decide_eq_true (by first | (with_reducible assumption) | assumption); have q694 : ((rd_T49 l0 x7_2).f1) < (y685.length : Int) := (by have h_ : (((rd_T49 l0 x7_2).f1) : Int) < ((x4_2.length : Int) : Int) := of_decide_eq_true (by first | (with_reducible assumption) | assumption); first | (have e_ := (Kd.R_reads' HO_4.out).1; omega) | simpa only [Ny685.out, List.length_set] using h_); have ql694 : ((((rd_T49 l0 x7_2).f1) : Int) < ((x4_2.length : Int) : Int)) = True := eq_true (of_decide_eq_true (by first | (with_reducible assumption) | assumption)); obtain ⟨ad694, e694, hx694_0⟩ := Kd.at_int (Kd.R_reads' HO_4.out).2.2 ((rd_T49 l0 x7_2).f1) p694 q694; obtain rfl : (⟨go27, 0, none⟩ : Addr) = ad694 := (by injection e694); (first | simp only [add_plain] at hx694_0 | simp only [add_at] at hx694_0 | simp only [Addr.add, Nat.zero_add] at hx694_0 | skip); replace p694 := eq_true p694; replace q694 := eq_true q694) | ((with_reducible refine gate_builtin (b := .append) (xs := #[.tmp 71, .tmp 73]) rfl ?_); at_builtin; refine Kd.R_append k49 (w0 := w) w.heap.size rfl (.tmp 71) (.tmp 73) 25 49 (.agg #[(.int .i64 0), (.int .i64 0)]) 16 rfl Try.underlying25 info49 rfl (by decide) (by omega) u3 x3_2 (⟨((rd_T49 l0 x7_2).f0), ((rd_T49 l0 x7_2).f1)⟩ : S49) [.int .i64 ((rd_T49 l0 x7_2).f0), .int .i64 ((rd_T49 l0 x7_2).f1)] (fun k_ => k_ ≠ gb682) (fun _ => False) rfl rfl ?aP (fun _ hk => hk.elim) ?aF ?aO ?aB ?aS ?aL ?_; (case aP => exact k49_mkM _ _ _ (⟨((rd_T49 l0 x7_2).f0), ((rd_T49 l0 x7_2).f1)⟩ : S49)); (case aB => exact (by repeat (first | (with_reducible first | exact HB.out | apply below_alloc | apply pw_below_drewN | apply below_drew1 | refine below_set ?_ GE682.out) | exact HB.out))); (case aF => exact (fun k_ hk => Kd.freshB (g := gb682) (o := .cells #[.int .i64 ((rd_T49 l0 x7_2).f0), .int .i64 ((rd_T49 l0 x7_2).f1)] 49 (0, 0)) (by (with_reducible repeat (first | refine blk_drewN ?_ _ | refine blk_drew ?_ | refine blk_alloc ?_ _)); exact BK682.out) k_ hk)); (case aO => exact (by (with_reducible repeat (first | apply Kd.R_alloc | apply Kd.R_drewN | apply Kd.R_drew)); exact HO_3.out)); (case aS => exact (below_size (by repeat (first | (with_reducible first | exact HB.out | apply below_alloc | apply pw_below_drewN | apply below_drew1 | refine below_set ?_ GE682.out) | exact HB.out)))); (case aL => have := LMc50.out; omega); intro v700 w55 ho hb hg hat; rw [← Ny699.out] at ho; have n0_ := Aside0.mk (Kd.R_over' (by (with_reducible repeat (first | apply Kd.R_alloc | apply Kd.R_drewN | apply Kd.R_drew)); exact HO_4.out) (Kd.R_typed (by (with_reducible repeat (first | apply Kd.R_alloc | apply Kd.R_drewN | apply Kd.R_drew)); exact HO_3.out)) (by decide) hg); have n1_ := Aside0.mk (blk_grown (g := gb682) (o := .cells #[.int .i64 ((rd_T49 l0 x7_2).f0), .int .i64 ((rd_T49 l0 x7_2).f1)] 49 (0, 0)) (by (with_reducible repeat (first | refine blk_drewN ?_ _ | refine blk_drew ?_ | refine blk_alloc ?_ _)); exact BK682.out) hg (Kd.R_away HO_3.out (fun _ hk => hk))); have n2_ := Aside0.mk (hb); have n3_ := Aside0.mk (ho); clear HO_4; clear BK682; clear HB; clear HO_3; have HO_4 := n0_; have BK682 := n1_; have HB := n2_; have HO701 := n3_; clear n0_ n1_ n2_ n3_; clear ho hb hg hat))
                                    go_roundg kj14
                                    case measure => have := HK1.out; have := HK2.out; have := HJ14.out; omega
                                    case rel => exact ⟨(y699), (y685), (wrap64 (x6_2 + 1)), (wrap64 (x7_2 + 1)), (by first | rfl | (simp; done) | (simp [*]; done)), (by first | rfl | (simp; done) | (simp [*]; done)), H', ⟨by have := HK1.out; have := HK2.out; have := HJ14.out; omega⟩, ⟨by (with_reducible repeat (first | apply Kd.R_alloc | apply Kd.R_drewN | apply Kd.R_drew)); exact Kd.R_mono HO701.out (fun _ hk => trivial)⟩, ⟨by (with_reducible repeat (first | apply Kd.R_alloc | apply Kd.R_drewN | apply Kd.R_drew)); exact HO_4.out⟩, ⟨by repeat (first | (with_reducible first | exact HB.out | apply below_alloc | apply pw_below_drewN | apply below_drew1 | refine below_set ?_ GE682.out) | exact HB.out)⟩⟩
                                  · rw [if_neg c50] at H
                                    exact absurd H (by simp)
                              · rw [if_neg c42] at H
                                have c42b0 : (((rd_T49 l0 x7_2).f0) == 16) = false := beq_eq_false_iff_ne.mpr c42
                                have c42b1 : (((rd_T49 l0 x7_2).f0) != 16) = true := bne_iff_ne.mpr c42
                                by_cases c56 : x3_2.length < 8796093022208
                                · rw [if_pos c56] at H
                                  have LMc56 := Aside0.mk c56
                                  clear c56
                                  obtain ⟨y702, hy702⟩ : ∃ y_ : List (S49), y_ = (x3_2 ++ [(⟨((rd_T49 l0 x7_2).f0), ((rd_T49 l0 x7_2).f1)⟩ : S49)]) := ⟨_, rfl⟩
                                  replace H : (spec_lean.l1 kj14 l0 y702 y685 (wrap64 (x6_2 + 1)) (wrap64 (x7_2 + 1))) = some r := by first | (rw [hy702]; with_reducible exact H) | (have H2_ := (Option.bind_some _ _).symm.trans H; rw [hy702]; with_reducible exact H2_) | (have H2_ := (Option.bind_some _ _).symm.trans H; with_reducible exact H2_) | with_reducible exact H | (rw [hy702]; exact H) | exact H
                                  have Ny702 := Aside0.mk hy702
                                  clear hy702
                                  have H' := Aside0.mk H
                                  clear H
                                  have hcz57_0 : wc.cell? ⟨gb682, 0, none⟩ = some (.int .i64 ((rd_T49 l0 x7_2).f0)) := (blk_cell BK682.out 0).trans rfl
                                  have hcz57_1 : wc.cell? ⟨gb682, 1, none⟩ = some (.int .i64 ((rd_T49 l0 x7_2).f1)) := (blk_cell BK682.out 1).trans rfl
                                  have hfz57_0 := blk_frozen BK682.out 0
                                  have hfz57_1 := blk_frozen BK682.out 1
                                  have p27 : 0 ≤ (((rd_T49 l0 x7_2).f1) : Int) := of_decide_eq_true (by first | (with_reducible assumption) | assumption)
                                  have q27 : (((rd_T49 l0 x7_2).f1) : Int) < ((x4_2.length : Int) : Int) := of_decide_eq_true (by first | (with_reducible assumption) | assumption)
                                  obtain ⟨go27, co27, eo27, gb27, gl27, cl27, HG27⟩ := Kd.R_form HO_4.out (by omega)
                                  (first | cases eo27 | (injection eo27 with ea_ en_ ec_; (first | subst ea_ | (injection ea_ with ea_; subst ea_)); subst ec_; clear en_))
                                  have GB27 := Aside0.mk gb27
                                  have GG27 := Aside0.mk HG27
                                  clear gb27 gl27 HG27
                                  obtain ⟨hx27_0, hf27_0⟩ := Kd.R_celln 0 HO_4.out (((rd_T49 l0 x7_2).f1) : Int) p27 q27
                                  replace p27 := eq_true p27
                                  replace q27 := eq_true q27
                                  have HP58 := Kd.R_putg HO_4.out (((rd_T49 l0 x7_2).f1) : Int) x6_2
                                  go_wp2_with (first | ((with_reducible refine gate_store (t := 3) (p := 46) rfl ?_); refine store_event (t := 3) (p := 46) (v := ?vo_w59) (w1 := (wc.setCell ⟨go27, (((rd_T49 l0 x7_2).f1) : Int).toNat, none⟩ (.int .i64 x6_2))) ?hg ?ho ?hn ?hr ?_; (case ho => rfl); (case hg => rfl); (case hn => rfl); (case hr => first | (go_simp; done) | (go_simp; rfl)); intro w59 hw; have hg : wc.grownBy w59 (some go27) := (by rw [hw]; exact HP58.2); have hp_ : Kd.R (Kd.int .i64) 3 w59 w.heap.size (fun _ => True) (.slice (some ⟨go27, 0, none⟩) x4_2.length co27) y685 := (by rw [hw, Ny685.out]; exact HP58.1); clear HP58; have n0_ := Aside0.mk (Kd.R_over' (v := (.slice (some ⟨go27, 0, none⟩) x4_2.length co27)) (by (with_reducible repeat (first | apply Kd.R_alloc | apply Kd.R_drewN | apply Kd.R_drew)); exact HO_3.out) (Kd.R_typed HO_4.out) (by decide) hg); have n1_ := Aside0.mk (hp_); have n2_ := Aside0.mk (blk_grown (g := gb682) (o := .cells #[.int .i64 ((rd_T49 l0 x7_2).f0), .int .i64 ((rd_T49 l0 x7_2).f1)] 49 (0, 0)) (by (with_reducible repeat (first | refine blk_drewN ?_ _ | refine blk_drew ?_ | refine blk_alloc ?_ _)); exact BK682.out) hg (Kd.R_ne HO_4.out BK682.out (by decide))); have n3_ := Aside0.mk ((by rw [hw]; exact below_set (HB.out) GB27.out : Below w.heap.size w w59)); clear HO_3; clear HO_4; clear BK682; clear HB; have HO_3 := n0_; have HO_4 := n1_; have BK682 := n2_; have HB := n3_; clear n0_ n1_ n2_ n3_; clear hg hw hp_; have hcz60_0 : w59.cell? ⟨gb682, 0, none⟩ = some (.int .i64 ((rd_T49 l0 x7_2).f0)) := (blk_cell BK682.out 0).trans rfl; have hcz60_1 : w59.cell? ⟨gb682, 1, none⟩ = some (.int .i64 ((rd_T49 l0 x7_2).f1)) := (blk_cell BK682.out 1).trans rfl; have hfz60_0 := blk_frozen BK682.out 0; have hfz60_1 := blk_frozen BK682.out 1) | ((with_reducible refine gate_builtin (b := .append) (xs := #[.tmp 71, .tmp 73]) rfl ?_); at_builtin; refine Kd.R_append k49 (w0 := w) w.heap.size rfl (.tmp 71) (.tmp 73) 25 49 (.agg #[(.int .i64 0), (.int .i64 0)]) 16 rfl Try.underlying25 info49 rfl (by decide) (by omega) u3 x3_2 (⟨((rd_T49 l0 x7_2).f0), ((rd_T49 l0 x7_2).f1)⟩ : S49) [.int .i64 ((rd_T49 l0 x7_2).f0), .int .i64 ((rd_T49 l0 x7_2).f1)] (fun k_ => k_ ≠ gb682) (fun _ => False) rfl rfl ?aP (fun _ hk => hk.elim) ?aF ?aO ?aB ?aS ?aL ?_; (case aP => exact k49_mkM _ _ _ (⟨((rd_T49 l0 x7_2).f0), ((rd_T49 l0 x7_2).f1)⟩ : S49)); (case aB => exact (by repeat (first | (with_reducible first | exact HB.out | apply below_alloc | apply pw_below_drewN | apply below_drew1 | refine below_set ?_ GE682.out) | exact HB.out))); (case aF => exact (fun k_ hk => Kd.freshB (g := gb682) (o := .cells #[.int .i64 ((rd_T49 l0 x7_2).f0), .int .i64 ((rd_T49 l0 x7_2).f1)] 49 (0, 0)) (by (with_reducible repeat (first | refine blk_drewN ?_ _ | refine blk_drew ?_ | refine blk_alloc ?_ _)); exact BK682.out) k_ hk)); (case aO => exact (by (with_reducible repeat (first | apply Kd.R_alloc | apply Kd.R_drewN | apply Kd.R_drew)); exact HO_3.out)); (case aS => exact (below_size (by repeat (first | (with_reducible first | exact HB.out | apply below_alloc | apply pw_below_drewN | apply below_drew1 | refine below_set ?_ GE682.out) | exact HB.out)))); (case aL => have := LMc56.out; omega); intro v703 w61 ho hb hg hat; rw [← Ny702.out] at ho; have n0_ := Aside0.mk (Kd.R_over' (by (with_reducible repeat (first | apply Kd.R_alloc | apply Kd.R_drewN | apply Kd.R_drew)); exact HO_4.out) (Kd.R_typed (by (with_reducible repeat (first | apply Kd.R_alloc | apply Kd.R_drewN | apply Kd.R_drew)); exact HO_3.out)) (by decide) hg); have n1_ := Aside0.mk (blk_grown (g := gb682) (o := .cells #[.int .i64 ((rd_T49 l0 x7_2).f0), .int .i64 ((rd_T49 l0 x7_2).f1)] 49 (0, 0)) (by (with_reducible repeat (first | refine blk_drewN ?_ _ | refine blk_drew ?_ | refine blk_alloc ?_ _)); exact BK682.out) hg (Kd.R_away HO_3.out (fun _ hk => hk))); have n2_ := Aside0.mk (hb); have n3_ := Aside0.mk (ho); clear HO_4; clear BK682; clear HB; clear HO_3; have HO_4 := n0_; have BK682 := n1_; have HB := n2_; have HO704 := n3_; clear n0_ n1_ n2_ n3_; clear ho hb hg hat))
                                  go_roundg kj14
                                  case measure => have := HK1.out; have := HK2.out; have := HJ14.out; omega
                                  case rel => exact ⟨(y702), (y685), (wrap64 (x6_2 + 1)), (wrap64 (x7_2 + 1)), (by first | rfl | (simp; done) | (simp [*]; done)), (by first | rfl | (simp; done) | (simp [*]; done)), H', ⟨by have := HK1.out; have := HK2.out; have := HJ14.out; omega⟩, ⟨by (with_reducible repeat (first | apply Kd.R_alloc | apply Kd.R_drewN | apply Kd.R_drew)); exact Kd.R_mono HO704.out (fun _ hk => trivial)⟩, ⟨by (with_reducible repeat (first | apply Kd.R_alloc | apply Kd.R_drewN | apply Kd.R_drew)); exact HO_4.out⟩, ⟨by repeat (first | (with_reducible first | exact HB.out | apply below_alloc | apply pw_below_drewN | apply below_drew1 | refine below_set ?_ GE682.out) | exact HB.out)⟩⟩
                                · rw [if_neg c56] at H
                                  exact absurd H (by simp)
                          · rw [if_neg c26] at H
                            exact absurd H (by simp)
                        · rw [if_neg c25] at H
                          exact absurd H (by simp)
                      · replace c24 := Bool.eq_false_iff.mpr c24
                        subst c24
                        have H1 : (if ((rd_T49 l0 x7_2).f0) = 15 then (if 0 ≤ ((rd_T49 l0 x7_2).f1) then (if ((rd_T49 l0 x7_2).f1) < (x4_2.length : Int) then (if (rd x4_2 ((rd_T49 l0 x7_2).f1)) ≥ 0 then (if x3_2.length < 8796093022208 then (spec_lean.l1 kj14 l0 (x3_2 ++ [(⟨((rd_T49 l0 x7_2).f0), rd x4_2 ((rd_T49 l0 x7_2).f1)⟩ : S49)]) x4_2 x6_2 (wrap64 (x7_2 + 1))) else (none)) else (if x3_2.length < 8796093022208 then (spec_lean.l1 kj14 l0 (x3_2 ++ [(⟨((rd_T49 l0 x7_2).f0), ((rd_T49 l0 x7_2).f1)⟩ : S49)]) x4_2 x6_2 (wrap64 (x7_2 + 1))) else (none))) else (none)) else (none)) else (if ((rd_T49 l0 x7_2).f0) = 16 then (if 0 ≤ ((rd_T49 l0 x7_2).f1) then (if ((rd_T49 l0 x7_2).f1) < (x4_2.length : Int) then (if (rd x4_2 ((rd_T49 l0 x7_2).f1)) ≥ 0 then (if x3_2.length < 8796093022208 then (spec_lean.l1 kj14 l0 (x3_2 ++ [(⟨((rd_T49 l0 x7_2).f0), rd x4_2 ((rd_T49 l0 x7_2).f1)⟩ : S49)]) x4_2 x6_2 (wrap64 (x7_2 + 1))) else (none)) else (if x3_2.length < 8796093022208 then (spec_lean.l1 kj14 l0 (x3_2 ++ [(⟨((rd_T49 l0 x7_2).f0), ((rd_T49 l0 x7_2).f1)⟩ : S49)]) x4_2 x6_2 (wrap64 (x7_2 + 1))) else (none))) else (none)) else (none)) else (if x3_2.length < 8796093022208 then (spec_lean.l1 kj14 l0 (x3_2 ++ [(⟨((rd_T49 l0 x7_2).f0), ((rd_T49 l0 x7_2).f1)⟩ : S49)]) x4_2 x6_2 (wrap64 (x7_2 + 1))) else (none)))) = some r := by rw [if_neg (show ¬ (false = true) by decide)] at H; exact H
                        clear H
                        have H := H1
                        clear H1
                        by_cases c62 : ((rd_T49 l0 x7_2).f0) = 15
                        · rw [if_pos c62] at H
                          have c62b0 : (((rd_T49 l0 x7_2).f0) == 15) = true := beq_iff_eq.mpr c62
                          have c62b1 : (((rd_T49 l0 x7_2).f0) != 15) = false := bne_eq_false_iff_eq.mpr c62
                          clear c62
                          by_cases c63 : 0 ≤ ((rd_T49 l0 x7_2).f1)
                          · rw [if_pos c63] at H
                            have c63b0 : decide (0 ≤ ((rd_T49 l0 x7_2).f1)) = true := decide_eq_true c63
                            clear c63
                            by_cases c64 : ((rd_T49 l0 x7_2).f1) < (x4_2.length : Int)
                            · rw [if_pos c64] at H
                              have c64b0 : decide (((rd_T49 l0 x7_2).f1) < (x4_2.length : Int)) = true := decide_eq_true c64
                              clear c64
                              by_cases c65 : (rd x4_2 ((rd_T49 l0 x7_2).f1)) ≥ 0
                              · rw [if_pos c65] at H
                                have c65b0 : decide (0 ≤ (rd x4_2 ((rd_T49 l0 x7_2).f1))) = true := decide_eq_true c65
                                clear c65
                                by_cases c66 : x3_2.length < 8796093022208
                                · rw [if_pos c66] at H
                                  have LMc66 := Aside0.mk c66
                                  clear c66
                                  obtain ⟨y707, hy707⟩ : ∃ y_ : List (S49), y_ = (x3_2 ++ [(⟨((rd_T49 l0 x7_2).f0), rd x4_2 ((rd_T49 l0 x7_2).f1)⟩ : S49)]) := ⟨_, rfl⟩
                                  replace H : (spec_lean.l1 kj14 l0 y707 x4_2 x6_2 (wrap64 (x7_2 + 1))) = some r := by first | (rw [hy707]; with_reducible exact H) | (have H2_ := (Option.bind_some _ _).symm.trans H; rw [hy707]; with_reducible exact H2_) | (have H2_ := (Option.bind_some _ _).symm.trans H; with_reducible exact H2_) | with_reducible exact H | (rw [hy707]; exact H) | exact H
                                  have Ny707 := Aside0.mk hy707
                                  clear hy707
                                  have H' := Aside0.mk H
                                  clear H
                                  have hcz67_0 : wc.cell? ⟨gb682, 0, none⟩ = some (.int .i64 ((rd_T49 l0 x7_2).f0)) := (blk_cell BK682.out 0).trans rfl
                                  have hcz67_1 : wc.cell? ⟨gb682, 1, none⟩ = some (.int .i64 ((rd_T49 l0 x7_2).f1)) := (blk_cell BK682.out 1).trans rfl
                                  have hfz67_0 := blk_frozen BK682.out 0
                                  have hfz67_1 := blk_frozen BK682.out 1
                                  obtain ⟨Ao68, co68, eo68⟩ := Kd.R_slice HO_4.out
                                  subst eo68
                                  have p705 : 0 ≤ (((rd_T49 l0 x7_2).f1) : Int) := of_decide_eq_true (by first | (with_reducible assumption) | assumption)
                                  have q705 : ((rd_T49 l0 x7_2).f1) < (x4_2.length : Int) := of_decide_eq_true (by first | (with_reducible assumption) | assumption)
                                  obtain ⟨ad705, e705, hx705_0⟩ := Kd.at_int (Kd.R_reads' HO_4.out).2.2 ((rd_T49 l0 x7_2).f1) p705 q705
                                  cases e705
                                  replace p705 := eq_true p705
                                  replace q705 := eq_true q705
                                  have p706 : 0 ≤ (((rd_T49 l0 x7_2).f1) : Int) := of_decide_eq_true (by first | (with_reducible assumption) | assumption)
                                  have q706 : ((rd_T49 l0 x7_2).f1) < (x4_2.length : Int) := of_decide_eq_true (by first | (with_reducible assumption) | assumption)
                                  obtain ⟨ad706, e706, hx706_0⟩ := Kd.at_int (Kd.R_reads' HO_4.out).2.2 ((rd_T49 l0 x7_2).f1) p706 q706
                                  obtain rfl : ad705 = ad706 := (by injection e706)
                                  replace p706 := eq_true p706
                                  replace q706 := eq_true q706
                                  go_wp2_with (first | ((with_reducible refine gate_builtin (b := .append) (xs := #[.tmp 71, .tmp 73]) rfl ?_); at_builtin; refine Kd.R_append k49 (w0 := w) w.heap.size rfl (.tmp 71) (.tmp 73) 25 49 (.agg #[(.int .i64 0), (.int .i64 0)]) 16 rfl Try.underlying25 info49 rfl (by decide) (by omega) u3 x3_2 (⟨((rd_T49 l0 x7_2).f0), rd x4_2 ((rd_T49 l0 x7_2).f1)⟩ : S49) [.int .i64 ((rd_T49 l0 x7_2).f0), .int .i64 (rd x4_2 ((rd_T49 l0 x7_2).f1))] (fun k_ => k_ ≠ gb682) (fun _ => False) rfl (by first | (go_simp; done) | (go_simp; rfl)) ?aP (fun _ hk => hk.elim) ?aF ?aO ?aB ?aS ?aL ?_; (case aP => exact k49_mkM _ _ _ (⟨((rd_T49 l0 x7_2).f0), rd x4_2 ((rd_T49 l0 x7_2).f1)⟩ : S49)); (case aB => exact (by repeat (first | (with_reducible first | exact HB.out | apply below_alloc | apply pw_below_drewN | apply below_drew1 | refine below_set ?_ GE682.out) | exact HB.out))); (case aF => exact (fun k_ hk => Kd.freshB (g := gb682) (o := .cells #[.int .i64 ((rd_T49 l0 x7_2).f0), .int .i64 (rd x4_2 ((rd_T49 l0 x7_2).f1))] 49 (0, 0)) (by (with_reducible repeat (first | refine blk_drewN ?_ _ | refine blk_drew ?_ | refine blk_alloc ?_ _)); refine blk_put (cs := #[.int .i64 ((rd_T49 l0 x7_2).f0), .int .i64 ((rd_T49 l0 x7_2).f1)]) ?_ 1 _ rfl; (with_reducible repeat (first | refine blk_drewN ?_ _ | refine blk_drew ?_ | refine blk_alloc ?_ _)); exact BK682.out) k_ hk)); (case aO => exact (by (with_reducible repeat (first | apply Kd.R_alloc | apply Kd.R_drewN | apply Kd.R_drew)); exact Kd.R_mono (Kd.R_far (p := ⟨gb682, 1, none⟩) (Kd.R_mono HO_3.out (fun k_ hk => (⟨hk, hk⟩ : _ ∧ k_ ≠ gb682))) (fun _ hk => hk.2) (.int .i64 (rd x4_2 ((rd_T49 l0 x7_2).f1)))) (fun _ hk => hk.1))); (case aS => exact (below_size (by repeat (first | (with_reducible first | exact HB.out | apply below_alloc | apply pw_below_drewN | apply below_drew1 | refine below_set ?_ GE682.out) | exact HB.out)))); (case aL => have := LMc66.out; omega); intro v708 w69 ho hb hg hat; rw [← Ny707.out] at ho; have n0_ := Aside0.mk (Kd.R_over' (by (with_reducible repeat (first | apply Kd.R_alloc | apply Kd.R_drewN | apply Kd.R_drew)); exact (Kd.R_mono (Kd.R_far (p := ⟨gb682, 1, none⟩) (Kd.R_types HO_4.out BK682.out (by decide)) (fun _ hk => hk.2) (.int .i64 (rd x4_2 ((rd_T49 l0 x7_2).f1)))) (fun _ h_ => h_.1))) (Kd.R_typed (by (with_reducible repeat (first | apply Kd.R_alloc | apply Kd.R_drewN | apply Kd.R_drew)); exact (Kd.R_mono (Kd.R_far (p := ⟨gb682, 1, none⟩) (Kd.R_mono HO_3.out (fun k_ hk => (⟨hk, hk⟩ : _ ∧ k_ ≠ gb682))) (fun _ hk => hk.2) (.int .i64 (rd x4_2 ((rd_T49 l0 x7_2).f1)))) (fun _ h_ => h_.1)))) (by decide) hg); have n1_ := Aside0.mk (blk_grown (g := gb682) (o := .cells #[.int .i64 ((rd_T49 l0 x7_2).f0), .int .i64 (rd x4_2 ((rd_T49 l0 x7_2).f1))] 49 (0, 0)) (by (with_reducible repeat (first | refine blk_drewN ?_ _ | refine blk_drew ?_ | refine blk_alloc ?_ _)); refine blk_put (cs := #[.int .i64 ((rd_T49 l0 x7_2).f0), .int .i64 ((rd_T49 l0 x7_2).f1)]) ?_ 1 _ rfl; (with_reducible repeat (first | refine blk_drewN ?_ _ | refine blk_drew ?_ | refine blk_alloc ?_ _)); exact BK682.out) hg (Kd.R_away HO_3.out (fun _ hk => hk))); have n2_ := Aside0.mk (hb); have n3_ := Aside0.mk (ho); clear HO_4; clear BK682; clear HB; clear HO_3; have HO_4 := n0_; have BK682 := n1_; have HB := n2_; have HO709 := n3_; clear n0_ n1_ n2_ n3_; clear ho hb hg hat))
                                  go_roundg kj14
                                  case measure => have := HK1.out; have := HK2.out; have := HJ14.out; omega
                                  case rel => exact ⟨(y707), (x4_2), (x6_2), (wrap64 (x7_2 + 1)), (by first | rfl | (simp; done) | (simp [*]; done)), (by first | rfl | (simp; done) | (simp [*]; done)), H', ⟨by have := HK1.out; have := HK2.out; have := HJ14.out; omega⟩, ⟨by (with_reducible repeat (first | apply Kd.R_alloc | apply Kd.R_drewN | apply Kd.R_drew)); exact Kd.R_mono HO709.out (fun _ hk => trivial)⟩, ⟨by (with_reducible repeat (first | apply Kd.R_alloc | apply Kd.R_drewN | apply Kd.R_drew)); exact HO_4.out⟩, ⟨by repeat (first | (with_reducible first | exact HB.out | apply below_alloc | apply pw_below_drewN | apply below_drew1 | refine below_set ?_ GE682.out) | exact HB.out)⟩⟩
                                · rw [if_neg c66] at H
                                  exact absurd H (by simp)
                              · rw [if_neg c65] at H
                                have c65b0 : decide (0 ≤ (rd x4_2 ((rd_T49 l0 x7_2).f1))) = false := decide_eq_false c65
                                clear c65
                                by_cases c70 : x3_2.length < 8796093022208
                                · rw [if_pos c70] at H
                                  have LMc70 := Aside0.mk c70
                                  clear c70
                                  obtain ⟨y710, hy710⟩ : ∃ y_ : List (S49), y_ = (x3_2 ++ [(⟨((rd_T49 l0 x7_2).f0), ((rd_T49 l0 x7_2).f1)⟩ : S49)]) := ⟨_, rfl⟩
                                  replace H : (spec_lean.l1 kj14 l0 y710 x4_2 x6_2 (wrap64 (x7_2 + 1))) = some r := by first | (rw [hy710]; with_reducible exact H) | (have H2_ := (Option.bind_some _ _).symm.trans H; rw [hy710]; with_reducible exact H2_) | (have H2_ := (Option.bind_some _ _).symm.trans H; with_reducible exact H2_) | with_reducible exact H | (rw [hy710]; exact H) | exact H
                                  have Ny710 := Aside0.mk hy710
                                  clear hy710
                                  have H' := Aside0.mk H
                                  clear H
                                  have hcz71_0 : wc.cell? ⟨gb682, 0, none⟩ = some (.int .i64 ((rd_T49 l0 x7_2).f0)) := (blk_cell BK682.out 0).trans rfl
                                  have hcz71_1 : wc.cell? ⟨gb682, 1, none⟩ = some (.int .i64 ((rd_T49 l0 x7_2).f1)) := (blk_cell BK682.out 1).trans rfl
                                  have hfz71_0 := blk_frozen BK682.out 0
                                  have hfz71_1 := blk_frozen BK682.out 1
                                  obtain ⟨Ao72, co72, eo72⟩ := Kd.R_slice HO_4.out
                                  subst eo72
                                  have p705 : 0 ≤ (((rd_T49 l0 x7_2).f1) : Int) := of_decide_eq_true (by first | (with_reducible assumption) | assumption)
                                  have q705 : ((rd_T49 l0 x7_2).f1) < (x4_2.length : Int) := of_decide_eq_true (by first | (with_reducible assumption) | assumption)
                                  obtain ⟨ad705, e705, hx705_0⟩ := Kd.at_int (Kd.R_reads' HO_4.out).2.2 ((rd_T49 l0 x7_2).f1) p705 q705
                                  cases e705
                                  replace p705 := eq_true p705
                                  replace q705 := eq_true q705
                                  go_wp2_with (first | ((with_reducible refine gate_builtin (b := .append) (xs := #[.tmp 71, .tmp 73]) rfl ?_); at_builtin; refine Kd.R_append k49 (w0 := w) w.heap.size rfl (.tmp 71) (.tmp 73) 25 49 (.agg #[(.int .i64 0), (.int .i64 0)]) 16 rfl Try.underlying25 info49 rfl (by decide) (by omega) u3 x3_2 (⟨((rd_T49 l0 x7_2).f0), ((rd_T49 l0 x7_2).f1)⟩ : S49) [.int .i64 ((rd_T49 l0 x7_2).f0), .int .i64 ((rd_T49 l0 x7_2).f1)] (fun k_ => k_ ≠ gb682) (fun _ => False) rfl rfl ?aP (fun _ hk => hk.elim) ?aF ?aO ?aB ?aS ?aL ?_; (case aP => exact k49_mkM _ _ _ (⟨((rd_T49 l0 x7_2).f0), ((rd_T49 l0 x7_2).f1)⟩ : S49)); (case aB => exact (by repeat (first | (with_reducible first | exact HB.out | apply below_alloc | apply pw_below_drewN | apply below_drew1 | refine below_set ?_ GE682.out) | exact HB.out))); (case aF => exact (fun k_ hk => Kd.freshB (g := gb682) (o := .cells #[.int .i64 ((rd_T49 l0 x7_2).f0), .int .i64 ((rd_T49 l0 x7_2).f1)] 49 (0, 0)) (by (with_reducible repeat (first | refine blk_drewN ?_ _ | refine blk_drew ?_ | refine blk_alloc ?_ _)); exact BK682.out) k_ hk)); (case aO => exact (by (with_reducible repeat (first | apply Kd.R_alloc | apply Kd.R_drewN | apply Kd.R_drew)); exact HO_3.out)); (case aS => exact (below_size (by repeat (first | (with_reducible first | exact HB.out | apply below_alloc | apply pw_below_drewN | apply below_drew1 | refine below_set ?_ GE682.out) | exact HB.out)))); (case aL => have := LMc70.out; omega); intro v711 w73 ho hb hg hat; rw [← Ny710.out] at ho; have n0_ := Aside0.mk (Kd.R_over' (by (with_reducible repeat (first | apply Kd.R_alloc | apply Kd.R_drewN | apply Kd.R_drew)); exact HO_4.out) (Kd.R_typed (by (with_reducible repeat (first | apply Kd.R_alloc | apply Kd.R_drewN | apply Kd.R_drew)); exact HO_3.out)) (by decide) hg); have n1_ := Aside0.mk (blk_grown (g := gb682) (o := .cells #[.int .i64 ((rd_T49 l0 x7_2).f0), .int .i64 ((rd_T49 l0 x7_2).f1)] 49 (0, 0)) (by (with_reducible repeat (first | refine blk_drewN ?_ _ | refine blk_drew ?_ | refine blk_alloc ?_ _)); exact BK682.out) hg (Kd.R_away HO_3.out (fun _ hk => hk))); have n2_ := Aside0.mk (hb); have n3_ := Aside0.mk (ho); clear HO_4; clear BK682; clear HB; clear HO_3; have HO_4 := n0_; have BK682 := n1_; have HB := n2_; have HO712 := n3_; clear n0_ n1_ n2_ n3_; clear ho hb hg hat))
                                  go_roundg kj14
                                  case measure => have := HK1.out; have := HK2.out; have := HJ14.out; omega
                                  case rel => exact ⟨(y710), (x4_2), (x6_2), (wrap64 (x7_2 + 1)), (by first | rfl | (simp; done) | (simp [*]; done)), (by first | rfl | (simp; done) | (simp [*]; done)), H', ⟨by have := HK1.out; have := HK2.out; have := HJ14.out; omega⟩, ⟨by (with_reducible repeat (first | apply Kd.R_alloc | apply Kd.R_drewN | apply Kd.R_drew)); exact Kd.R_mono HO712.out (fun _ hk => trivial)⟩, ⟨by (with_reducible repeat (first | apply Kd.R_alloc | apply Kd.R_drewN | apply Kd.R_drew)); exact HO_4.out⟩, ⟨by repeat (first | (with_reducible first | exact HB.out | apply below_alloc | apply pw_below_drewN | apply below_drew1 | refine below_set ?_ GE682.out) | exact HB.out)⟩⟩
                                · rw [if_neg c70] at H
                                  exact absurd H (by simp)
                            · rw [if_neg c64] at H
                              exact absurd H (by simp)
                          · rw [if_neg c63] at H
                            exact absurd H (by simp)
                        · rw [if_neg c62] at H
                          have c62b0 : (((rd_T49 l0 x7_2).f0) == 15) = false := beq_eq_false_iff_ne.mpr c62
                          have c62b1 : (((rd_T49 l0 x7_2).f0) != 15) = true := bne_iff_ne.mpr c62
                          by_cases c74 : ((rd_T49 l0 x7_2).f0) = 16
                          · rw [if_pos c74] at H
                            have c74b0 : (((rd_T49 l0 x7_2).f0) == 16) = true := beq_iff_eq.mpr c74
                            have c74b1 : (((rd_T49 l0 x7_2).f0) != 16) = false := bne_eq_false_iff_eq.mpr c74
                            clear c74
                            by_cases c75 : 0 ≤ ((rd_T49 l0 x7_2).f1)
                            · rw [if_pos c75] at H
                              have c75b0 : decide (0 ≤ ((rd_T49 l0 x7_2).f1)) = true := decide_eq_true c75
                              clear c75
                              by_cases c76 : ((rd_T49 l0 x7_2).f1) < (x4_2.length : Int)
                              · rw [if_pos c76] at H
                                have c76b0 : decide (((rd_T49 l0 x7_2).f1) < (x4_2.length : Int)) = true := decide_eq_true c76
                                clear c76
                                by_cases c77 : (rd x4_2 ((rd_T49 l0 x7_2).f1)) ≥ 0
                                · rw [if_pos c77] at H
                                  have c77b0 : decide (0 ≤ (rd x4_2 ((rd_T49 l0 x7_2).f1))) = true := decide_eq_true c77
                                  clear c77
                                  by_cases c78 : x3_2.length < 8796093022208
                                  · rw [if_pos c78] at H
                                    have LMc78 := Aside0.mk c78
                                    clear c78
                                    obtain ⟨y715, hy715⟩ : ∃ y_ : List (S49), y_ = (x3_2 ++ [(⟨((rd_T49 l0 x7_2).f0), rd x4_2 ((rd_T49 l0 x7_2).f1)⟩ : S49)]) := ⟨_, rfl⟩
                                    replace H : (spec_lean.l1 kj14 l0 y715 x4_2 x6_2 (wrap64 (x7_2 + 1))) = some r := by first | (rw [hy715]; with_reducible exact H) | (have H2_ := (Option.bind_some _ _).symm.trans H; rw [hy715]; with_reducible exact H2_) | (have H2_ := (Option.bind_some _ _).symm.trans H; with_reducible exact H2_) | with_reducible exact H | (rw [hy715]; exact H) | exact H
                                    have Ny715 := Aside0.mk hy715
                                    clear hy715
                                    have H' := Aside0.mk H
                                    clear H
                                    have hcz79_0 : wc.cell? ⟨gb682, 0, none⟩ = some (.int .i64 ((rd_T49 l0 x7_2).f0)) := (blk_cell BK682.out 0).trans rfl
                                    have hcz79_1 : wc.cell? ⟨gb682, 1, none⟩ = some (.int .i64 ((rd_T49 l0 x7_2).f1)) := (blk_cell BK682.out 1).trans rfl
                                    have hfz79_0 := blk_frozen BK682.out 0
                                    have hfz79_1 := blk_frozen BK682.out 1
                                    obtain ⟨Ao80, co80, eo80⟩ := Kd.R_slice HO_4.out
                                    subst eo80
                                    have p713 : 0 ≤ (((rd_T49 l0 x7_2).f1) : Int) := of_decide_eq_true (by first | (with_reducible assumption) | assumption)
                                    have q713 : ((rd_T49 l0 x7_2).f1) < (x4_2.length : Int) := of_decide_eq_true (by first | (with_reducible assumption) | assumption)
                                    obtain ⟨ad713, e713, hx713_0⟩ := Kd.at_int (Kd.R_reads' HO_4.out).2.2 ((rd_T49 l0 x7_2).f1) p713 q713
                                    cases e713
                                    replace p713 := eq_true p713
                                    replace q713 := eq_true q713
                                    have p714 : 0 ≤ (((rd_T49 l0 x7_2).f1) : Int) := of_decide_eq_true (by first | (with_reducible assumption) | assumption)
                                    have q714 : ((rd_T49 l0 x7_2).f1) < (x4_2.length : Int) := of_decide_eq_true (by first | (with_reducible assumption) | assumption)
                                    obtain ⟨ad714, e714, hx714_0⟩ := Kd.at_int (Kd.R_reads' HO_4.out).2.2 ((rd_T49 l0 x7_2).f1) p714 q714
                                    obtain rfl : ad713 = ad714 := (by injection e714)
                                    replace p714 := eq_true p714
                                    replace q714 := eq_true q714
                                    go_wp2_with (first | ((with_reducible refine gate_builtin (b := .append) (xs := #[.tmp 71, .tmp 73]) rfl ?_); at_builtin; refine Kd.R_append k49 (w0 := w) w.heap.size rfl (.tmp 71) (.tmp 73) 25 49 (.agg #[(.int .i64 0), (.int .i64 0)]) 16 rfl Try.underlying25 info49 rfl (by decide) (by omega) u3 x3_2 (⟨((rd_T49 l0 x7_2).f0), rd x4_2 ((rd_T49 l0 x7_2).f1)⟩ : S49) [.int .i64 ((rd_T49 l0 x7_2).f0), .int .i64 (rd x4_2 ((rd_T49 l0 x7_2).f1))] (fun k_ => k_ ≠ gb682) (fun _ => False) rfl (by first | (go_simp; done) | (go_simp; rfl)) ?aP (fun _ hk => hk.elim) ?aF ?aO ?aB ?aS ?aL ?_; (case aP => exact k49_mkM _ _ _ (⟨((rd_T49 l0 x7_2).f0), rd x4_2 ((rd_T49 l0 x7_2).f1)⟩ : S49)); (case aB => exact (by repeat (first | (with_reducible first | exact HB.out | apply below_alloc | apply pw_below_drewN | apply below_drew1 | refine below_set ?_ GE682.out) | exact HB.out))); (case aF => exact (fun k_ hk => Kd.freshB (g := gb682) (o := .cells #[.int .i64 ((rd_T49 l0 x7_2).f0), .int .i64 (rd x4_2 ((rd_T49 l0 x7_2).f1))] 49 (0, 0)) (by (with_reducible repeat (first | refine blk_drewN ?_ _ | refine blk_drew ?_ | refine blk_alloc ?_ _)); refine blk_put (cs := #[.int .i64 ((rd_T49 l0 x7_2).f0), .int .i64 ((rd_T49 l0 x7_2).f1)]) ?_ 1 _ rfl; (with_reducible repeat (first | refine blk_drewN ?_ _ | refine blk_drew ?_ | refine blk_alloc ?_ _)); exact BK682.out) k_ hk)); (case aO => exact (by (with_reducible repeat (first | apply Kd.R_alloc | apply Kd.R_drewN | apply Kd.R_drew)); exact Kd.R_mono (Kd.R_far (p := ⟨gb682, 1, none⟩) (Kd.R_mono HO_3.out (fun k_ hk => (⟨hk, hk⟩ : _ ∧ k_ ≠ gb682))) (fun _ hk => hk.2) (.int .i64 (rd x4_2 ((rd_T49 l0 x7_2).f1)))) (fun _ hk => hk.1))); (case aS => exact (below_size (by repeat (first | (with_reducible first | exact HB.out | apply below_alloc | apply pw_below_drewN | apply below_drew1 | refine below_set ?_ GE682.out) | exact HB.out)))); (case aL => have := LMc78.out; omega); intro v716 w81 ho hb hg hat; rw [← Ny715.out] at ho; have n0_ := Aside0.mk (Kd.R_over' (by (with_reducible repeat (first | apply Kd.R_alloc | apply Kd.R_drewN | apply Kd.R_drew)); exact (Kd.R_mono (Kd.R_far (p := ⟨gb682, 1, none⟩) (Kd.R_types HO_4.out BK682.out (by decide)) (fun _ hk => hk.2) (.int .i64 (rd x4_2 ((rd_T49 l0 x7_2).f1)))) (fun _ h_ => h_.1))) (Kd.R_typed (by (with_reducible repeat (first | apply Kd.R_alloc | apply Kd.R_drewN | apply Kd.R_drew)); exact (Kd.R_mono (Kd.R_far (p := ⟨gb682, 1, none⟩) (Kd.R_mono HO_3.out (fun k_ hk => (⟨hk, hk⟩ : _ ∧ k_ ≠ gb682))) (fun _ hk => hk.2) (.int .i64 (rd x4_2 ((rd_T49 l0 x7_2).f1)))) (fun _ h_ => h_.1)))) (by decide) hg); have n1_ := Aside0.mk (blk_grown (g := gb682) (o := .cells #[.int .i64 ((rd_T49 l0 x7_2).f0), .int .i64 (rd x4_2 ((rd_T49 l0 x7_2).f1))] 49 (0, 0)) (by (with_reducible repeat (first | refine blk_drewN ?_ _ | refine blk_drew ?_ | refine blk_alloc ?_ _)); refine blk_put (cs := #[.int .i64 ((rd_T49 l0 x7_2).f0), .int .i64 ((rd_T49 l0 x7_2).f1)]) ?_ 1 _ rfl; (with_reducible repeat (first | refine blk_drewN ?_ _ | refine blk_drew ?_ | refine blk_alloc ?_ _)); exact BK682.out) hg (Kd.R_away HO_3.out (fun _ hk => hk))); have n2_ := Aside0.mk (hb); have n3_ := Aside0.mk (ho); clear HO_4; clear BK682; clear HB; clear HO_3; have HO_4 := n0_; have BK682 := n1_; have HB := n2_; have HO717 := n3_; clear n0_ n1_ n2_ n3_; clear ho hb hg hat))
                                    go_roundg kj14
                                    case measure => have := HK1.out; have := HK2.out; have := HJ14.out; omega
                                    case rel => exact ⟨(y715), (x4_2), (x6_2), (wrap64 (x7_2 + 1)), (by first | rfl | (simp; done) | (simp [*]; done)), (by first | rfl | (simp; done) | (simp [*]; done)), H', ⟨by have := HK1.out; have := HK2.out; have := HJ14.out; omega⟩, ⟨by (with_reducible repeat (first | apply Kd.R_alloc | apply Kd.R_drewN | apply Kd.R_drew)); exact Kd.R_mono HO717.out (fun _ hk => trivial)⟩, ⟨by (with_reducible repeat (first | apply Kd.R_alloc | apply Kd.R_drewN | apply Kd.R_drew)); exact HO_4.out⟩, ⟨by repeat (first | (with_reducible first | exact HB.out | apply below_alloc | apply pw_below_drewN | apply below_drew1 | refine below_set ?_ GE682.out) | exact HB.out)⟩⟩
                                  · rw [if_neg c78] at H
                                    exact absurd H (by simp)
                                · rw [if_neg c77] at H
                                  have c77b0 : decide (0 ≤ (rd x4_2 ((rd_T49 l0 x7_2).f1))) = false := decide_eq_false c77
                                  clear c77
                                  by_cases c82 : x3_2.length < 8796093022208
                                  · rw [if_pos c82] at H
                                    have LMc82 := Aside0.mk c82
                                    clear c82
                                    obtain ⟨y718, hy718⟩ : ∃ y_ : List (S49), y_ = (x3_2 ++ [(⟨((rd_T49 l0 x7_2).f0), ((rd_T49 l0 x7_2).f1)⟩ : S49)]) := ⟨_, rfl⟩
                                    replace H : (spec_lean.l1 kj14 l0 y718 x4_2 x6_2 (wrap64 (x7_2 + 1))) = some r := by first | (rw [hy718]; with_reducible exact H) | (have H2_ := (Option.bind_some _ _).symm.trans H; rw [hy718]; with_reducible exact H2_) | (have H2_ := (Option.bind_some _ _).symm.trans H; with_reducible exact H2_) | with_reducible exact H | (rw [hy718]; exact H) | exact H
                                    have Ny718 := Aside0.mk hy718
                                    clear hy718
                                    have H' := Aside0.mk H
                                    clear H
                                    have hcz83_0 : wc.cell? ⟨gb682, 0, none⟩ = some (.int .i64 ((rd_T49 l0 x7_2).f0)) := (blk_cell BK682.out 0).trans rfl
                                    have hcz83_1 : wc.cell? ⟨gb682, 1, none⟩ = some (.int .i64 ((rd_T49 l0 x7_2).f1)) := (blk_cell BK682.out 1).trans rfl
                                    have hfz83_0 := blk_frozen BK682.out 0
                                    have hfz83_1 := blk_frozen BK682.out 1
                                    obtain ⟨Ao84, co84, eo84⟩ := Kd.R_slice HO_4.out
                                    subst eo84
                                    have p713 : 0 ≤ (((rd_T49 l0 x7_2).f1) : Int) := of_decide_eq_true (by first | (with_reducible assumption) | assumption)
                                    have q713 : ((rd_T49 l0 x7_2).f1) < (x4_2.length : Int) := of_decide_eq_true (by first | (with_reducible assumption) | assumption)
                                    obtain ⟨ad713, e713, hx713_0⟩ := Kd.at_int (Kd.R_reads' HO_4.out).2.2 ((rd_T49 l0 x7_2).f1) p713 q713
                                    cases e713
                                    replace p713 := eq_true p713
                                    replace q713 := eq_true q713
                                    go_wp2_with (first | ((with_reducible refine gate_builtin (b := .append) (xs := #[.tmp 71, .tmp 73]) rfl ?_); at_builtin; refine Kd.R_append k49 (w0 := w) w.heap.size rfl (.tmp 71) (.tmp 73) 25 49 (.agg #[(.int .i64 0), (.int .i64 0)]) 16 rfl Try.underlying25 info49 rfl (by decide) (by omega) u3 x3_2 (⟨((rd_T49 l0 x7_2).f0), ((rd_T49 l0 x7_2).f1)⟩ : S49) [.int .i64 ((rd_T49 l0 x7_2).f0), .int .i64 ((rd_T49 l0 x7_2).f1)] (fun k_ => k_ ≠ gb682) (fun _ => False) rfl rfl ?aP (fun _ hk => hk.elim) ?aF ?aO ?aB ?aS ?aL ?_; (case aP => exact k49_mkM _ _ _ (⟨((rd_T49 l0 x7_2).f0), ((rd_T49 l0 x7_2).f1)⟩ : S49)); (case aB => exact (by repeat (first | (with_reducible first | exact HB.out | apply below_alloc | apply pw_below_drewN | apply below_drew1 | refine below_set ?_ GE682.out) | exact HB.out))); (case aF => exact (fun k_ hk => Kd.freshB (g := gb682) (o := .cells #[.int .i64 ((rd_T49 l0 x7_2).f0), .int .i64 ((rd_T49 l0 x7_2).f1)] 49 (0, 0)) (by (with_reducible repeat (first | refine blk_drewN ?_ _ | refine blk_drew ?_ | refine blk_alloc ?_ _)); exact BK682.out) k_ hk)); (case aO => exact (by (with_reducible repeat (first | apply Kd.R_alloc | apply Kd.R_drewN | apply Kd.R_drew)); exact HO_3.out)); (case aS => exact (below_size (by repeat (first | (with_reducible first | exact HB.out | apply below_alloc | apply pw_below_drewN | apply below_drew1 | refine below_set ?_ GE682.out) | exact HB.out)))); (case aL => have := LMc82.out; omega); intro v719 w85 ho hb hg hat; rw [← Ny718.out] at ho; have n0_ := Aside0.mk (Kd.R_over' (by (with_reducible repeat (first | apply Kd.R_alloc | apply Kd.R_drewN | apply Kd.R_drew)); exact HO_4.out) (Kd.R_typed (by (with_reducible repeat (first | apply Kd.R_alloc | apply Kd.R_drewN | apply Kd.R_drew)); exact HO_3.out)) (by decide) hg); have n1_ := Aside0.mk (blk_grown (g := gb682) (o := .cells #[.int .i64 ((rd_T49 l0 x7_2).f0), .int .i64 ((rd_T49 l0 x7_2).f1)] 49 (0, 0)) (by (with_reducible repeat (first | refine blk_drewN ?_ _ | refine blk_drew ?_ | refine blk_alloc ?_ _)); exact BK682.out) hg (Kd.R_away HO_3.out (fun _ hk => hk))); have n2_ := Aside0.mk (hb); have n3_ := Aside0.mk (ho); clear HO_4; clear BK682; clear HB; clear HO_3; have HO_4 := n0_; have BK682 := n1_; have HB := n2_; have HO720 := n3_; clear n0_ n1_ n2_ n3_; clear ho hb hg hat))
                                    go_roundg kj14
                                    case measure => have := HK1.out; have := HK2.out; have := HJ14.out; omega
                                    case rel => exact ⟨(y718), (x4_2), (x6_2), (wrap64 (x7_2 + 1)), (by first | rfl | (simp; done) | (simp [*]; done)), (by first | rfl | (simp; done) | (simp [*]; done)), H', ⟨by have := HK1.out; have := HK2.out; have := HJ14.out; omega⟩, ⟨by (with_reducible repeat (first | apply Kd.R_alloc | apply Kd.R_drewN | apply Kd.R_drew)); exact Kd.R_mono HO720.out (fun _ hk => trivial)⟩, ⟨by (with_reducible repeat (first | apply Kd.R_alloc | apply Kd.R_drewN | apply Kd.R_drew)); exact HO_4.out⟩, ⟨by repeat (first | (with_reducible first | exact HB.out | apply below_alloc | apply pw_below_drewN | apply below_drew1 | refine below_set ?_ GE682.out) | exact HB.out)⟩⟩
                                  · rw [if_neg c82] at H
                                    exact absurd H (by simp)
                              · rw [if_neg c76] at H
                                exact absurd H (by simp)
                            · rw [if_neg c75] at H
                              exact absurd H (by simp)
                          · rw [if_neg c74] at H
                            have c74b0 : (((rd_T49 l0 x7_2).f0) == 16) = false := beq_eq_false_iff_ne.mpr c74
                            have c74b1 : (((rd_T49 l0 x7_2).f0) != 16) = true := bne_iff_ne.mpr c74
                            by_cases c86 : x3_2.length < 8796093022208
                            · rw [if_pos c86] at H
                              have LMc86 := Aside0.mk c86
                              clear c86
                              obtain ⟨y721, hy721⟩ : ∃ y_ : List (S49), y_ = (x3_2 ++ [(⟨((rd_T49 l0 x7_2).f0), ((rd_T49 l0 x7_2).f1)⟩ : S49)]) := ⟨_, rfl⟩
                              replace H : (spec_lean.l1 kj14 l0 y721 x4_2 x6_2 (wrap64 (x7_2 + 1))) = some r := by first | (rw [hy721]; with_reducible exact H) | (have H2_ := (Option.bind_some _ _).symm.trans H; rw [hy721]; with_reducible exact H2_) | (have H2_ := (Option.bind_some _ _).symm.trans H; with_reducible exact H2_) | with_reducible exact H | (rw [hy721]; exact H) | exact H
                              have Ny721 := Aside0.mk hy721
                              clear hy721
                              have H' := Aside0.mk H
                              clear H
                              have hcz87_0 : wc.cell? ⟨gb682, 0, none⟩ = some (.int .i64 ((rd_T49 l0 x7_2).f0)) := (blk_cell BK682.out 0).trans rfl
                              have hcz87_1 : wc.cell? ⟨gb682, 1, none⟩ = some (.int .i64 ((rd_T49 l0 x7_2).f1)) := (blk_cell BK682.out 1).trans rfl
                              have hfz87_0 := blk_frozen BK682.out 0
                              have hfz87_1 := blk_frozen BK682.out 1
                              go_wp2_with (first | ((with_reducible refine gate_builtin (b := .append) (xs := #[.tmp 71, .tmp 73]) rfl ?_); at_builtin; refine Kd.R_append k49 (w0 := w) w.heap.size rfl (.tmp 71) (.tmp 73) 25 49 (.agg #[(.int .i64 0), (.int .i64 0)]) 16 rfl Try.underlying25 info49 rfl (by decide) (by omega) u3 x3_2 (⟨((rd_T49 l0 x7_2).f0), ((rd_T49 l0 x7_2).f1)⟩ : S49) [.int .i64 ((rd_T49 l0 x7_2).f0), .int .i64 ((rd_T49 l0 x7_2).f1)] (fun k_ => k_ ≠ gb682) (fun _ => False) rfl rfl ?aP (fun _ hk => hk.elim) ?aF ?aO ?aB ?aS ?aL ?_; (case aP => exact k49_mkM _ _ _ (⟨((rd_T49 l0 x7_2).f0), ((rd_T49 l0 x7_2).f1)⟩ : S49)); (case aB => exact (by repeat (first | (with_reducible first | exact HB.out | apply below_alloc | apply pw_below_drewN | apply below_drew1 | refine below_set ?_ GE682.out) | exact HB.out))); (case aF => exact (fun k_ hk => Kd.freshB (g := gb682) (o := .cells #[.int .i64 ((rd_T49 l0 x7_2).f0), .int .i64 ((rd_T49 l0 x7_2).f1)] 49 (0, 0)) (by (with_reducible repeat (first | refine blk_drewN ?_ _ | refine blk_drew ?_ | refine blk_alloc ?_ _)); exact BK682.out) k_ hk)); (case aO => exact (by (with_reducible repeat (first | apply Kd.R_alloc | apply Kd.R_drewN | apply Kd.R_drew)); exact HO_3.out)); (case aS => exact (below_size (by repeat (first | (with_reducible first | exact HB.out | apply below_alloc | apply pw_below_drewN | apply below_drew1 | refine below_set ?_ GE682.out) | exact HB.out)))); (case aL => have := LMc86.out; omega); intro v722 w88 ho hb hg hat; rw [← Ny721.out] at ho; have n0_ := Aside0.mk (Kd.R_over' (by (with_reducible repeat (first | apply Kd.R_alloc | apply Kd.R_drewN | apply Kd.R_drew)); exact HO_4.out) (Kd.R_typed (by (with_reducible repeat (first | apply Kd.R_alloc | apply Kd.R_drewN | apply Kd.R_drew)); exact HO_3.out)) (by decide) hg); have n1_ := Aside0.mk (blk_grown (g := gb682) (o := .cells #[.int .i64 ((rd_T49 l0 x7_2).f0), .int .i64 ((rd_T49 l0 x7_2).f1)] 49 (0, 0)) (by (with_reducible repeat (first | refine blk_drewN ?_ _ | refine blk_drew ?_ | refine blk_alloc ?_ _)); exact BK682.out) hg (Kd.R_away HO_3.out (fun _ hk => hk))); have n2_ := Aside0.mk (hb); have n3_ := Aside0.mk (ho); clear HO_4; clear BK682; clear HB; clear HO_3; have HO_4 := n0_; have BK682 := n1_; have HB := n2_; have HO723 := n3_; clear n0_ n1_ n2_ n3_; clear ho hb hg hat))
                              go_roundg kj14
                              case measure => have := HK1.out; have := HK2.out; have := HJ14.out; omega
                              case rel => exact ⟨(y721), (x4_2), (x6_2), (wrap64 (x7_2 + 1)), (by first | rfl | (simp; done) | (simp [*]; done)), (by first | rfl | (simp; done) | (simp [*]; done)), H', ⟨by have := HK1.out; have := HK2.out; have := HJ14.out; omega⟩, ⟨by (with_reducible repeat (first | apply Kd.R_alloc | apply Kd.R_drewN | apply Kd.R_drew)); exact Kd.R_mono HO723.out (fun _ hk => trivial)⟩, ⟨by (with_reducible repeat (first | apply Kd.R_alloc | apply Kd.R_drewN | apply Kd.R_drew)); exact HO_4.out⟩, ⟨by repeat (first | (with_reducible first | exact HB.out | apply below_alloc | apply pw_below_drewN | apply below_drew1 | refine below_set ?_ GE682.out) | exact HB.out)⟩⟩
                            · rw [if_neg c86] at H
                              exact absurd H (by simp)
              · rw [if_neg c10] at H
                exact absurd H (by simp)
            · rw [if_neg c9] at H
              have c9b0 : decide (x7_2 < (l0.length : Int)) = false := decide_eq_false c9
              clear c9
              obtain rfl := Option.some.inj H
              go_wp2
              go_ret
              exact ⟨_, by first | rfl | (simp [errW_none, errW_some] <;> rfl) | (simp [*, errW_none, errW_some] <;> rfl), by (with_reducible repeat (first | apply Kd.R_alloc | apply Kd.R_drewN | apply Kd.R_drew)); exact HO_3.out, by repeat (first | (with_reducible first | exact HB.out | apply below_alloc | apply pw_below_drewN | apply below_drew1) | exact HB.out)⟩

end Go.Proofs.Ytonppkaobnfldaa.Q
