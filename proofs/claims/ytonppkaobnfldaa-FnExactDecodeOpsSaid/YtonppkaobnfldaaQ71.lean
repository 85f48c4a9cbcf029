-- Written by wip/tools/qprint.py (a program of this claim's author) by means of the kit's printer.
import Derived.Test.YtonppkaobnfldaaQ0
import Derived.Test.YtonppkaobnfldaaQ64
namespace Go.Proofs.Ytonppkaobnfldaa.Q
open Go.RowKit Go.Proofs.YtonppkaobnfldaaW.PrintWords Go.Proofs.YtonppkaobnfldaaW.PrintLast Go.Proofs.YtonppkaobnfldaaW.PrintMore
attribute [local go_sem] max2_int min2_int max_two min_two max_three min_three max_four min_four   -- for this text's walks alone
set_option linter.unusedVariables false
set_option linter.unusedSimpArgs false

/-! ### spec_lean: function 71 -/
mutual
def spec_lean.l0 : Nat → List (S49) → List (S49) → List Int → Int → Option ((List (S49)))
 | 0,_,_,_,_ => none
 | k + 1,x0,x3,x4,x5 => if x5 < 20 then (if x4.length < 17592186044416 then (spec_lean.l0 k x0 x3 (x4 ++ [(-1)]) (wrap64 (x5 + 1))) else (none)) else (spec_lean.l1 k x0 x3 x4 0 0)
def spec_lean.l1 : Nat → List (S49) → List (S49) → List Int → Int → Int → Option ((List (S49)))
 | 0,_,_,_,_,_ => none
 | k + 1,x0,x3,x4,x6,x7 => if x7 < (x0.length : Int) then (if 0 ≤ x7 then ((spec_idle.f k x0 x7).bind fun t687 => (if t687 = true then (spec_lean.l1 k x0 x3 x4 x6 (wrap64 (x7 + 1))) else (if ((rd_T49 x0 x7).f0) = 15 then (if 0 ≤ ((rd_T49 x0 x7).f1) then (if ((rd_T49 x0 x7).f1) < (x4.length : Int) then (spec_lean.j2 k x0 x3 x4 x6 x7 (decide ((rd x4 ((rd_T49 x0 x7).f1)) < 0)) ((rd_T49 x0 x7).f0) ((rd_T49 x0 x7).f1)) else (none)) else (none)) else (spec_lean.j2 k x0 x3 x4 x6 x7 false ((rd_T49 x0 x7).f0) ((rd_T49 x0 x7).f1))))) else (none)) else (some x3)
def spec_lean.j2 : Nat → List (S49) → List (S49) → List Int → Int → Int → Bool → Int → Int → Option ((List (S49)))
 | 0,_,_,_,_,_,_,_,_ => none
 | k + 1,x0,x3,x4,x6,x7,x41,x687000,x687001 => if x41 = true then (if 0 ≤ x687001 then (if x687001 < (x4.length : Int) then ((some (x4.set (x687001 : Int).toNat x6 : List Int)).bind fun y689 => (if x687000 = 15 then (if (rd y689 x687001) ≥ 0 then (if x3.length < 8796093022208 then (spec_lean.l1 k x0 (x3 ++ [(⟨x687000,rd y689 x687001⟩ : S49)]) y689 (wrap64 (x6 + 1)) (wrap64 (x7 + 1))) else (none)) else (if x3.length < 8796093022208 then (spec_lean.l1 k x0 (x3 ++ [(⟨x687000,x687001⟩ : S49)]) y689 (wrap64 (x6 + 1)) (wrap64 (x7 + 1))) else (none))) else (if x687000 = 16 then (if (rd y689 x687001) ≥ 0 then (if x3.length < 8796093022208 then (spec_lean.l1 k x0 (x3 ++ [(⟨x687000,rd y689 x687001⟩ : S49)]) y689 (wrap64 (x6 + 1)) (wrap64 (x7 + 1))) else (none)) else (if x3.length < 8796093022208 then (spec_lean.l1 k x0 (x3 ++ [(⟨x687000,x687001⟩ : S49)]) y689 (wrap64 (x6 + 1)) (wrap64 (x7 + 1))) else (none))) else (if x3.length < 8796093022208 then (spec_lean.l1 k x0 (x3 ++ [(⟨x687000,x687001⟩ : S49)]) y689 (wrap64 (x6 + 1)) (wrap64 (x7 + 1))) else (none))))) else (none)) else (none)) else (if x687000 = 15 then (if 0 ≤ x687001 then (if x687001 < (x4.length : Int) then (if (rd x4 x687001) ≥ 0 then (if x3.length < 8796093022208 then (spec_lean.l1 k x0 (x3 ++ [(⟨x687000,rd x4 x687001⟩ : S49)]) x4 x6 (wrap64 (x7 + 1))) else (none)) else (if x3.length < 8796093022208 then (spec_lean.l1 k x0 (x3 ++ [(⟨x687000,x687001⟩ : S49)]) x4 x6 (wrap64 (x7 + 1))) else (none))) else (none)) else (none)) else (if x687000 = 16 then (if 0 ≤ x687001 then (if x687001 < (x4.length : Int) then (if (rd x4 x687001) ≥ 0 then (if x3.length < 8796093022208 then (spec_lean.l1 k x0 (x3 ++ [(⟨x687000,rd x4 x687001⟩ : S49)]) x4 x6 (wrap64 (x7 + 1))) else (none)) else (if x3.length < 8796093022208 then (spec_lean.l1 k x0 (x3 ++ [(⟨x687000,x687001⟩ : S49)]) x4 x6 (wrap64 (x7 + 1))) else (none))) else (none)) else (none)) else (if x3.length < 8796093022208 then (spec_lean.l1 k x0 (x3 ++ [(⟨x687000,x687001⟩ : S49)]) x4 x6 (wrap64 (x7 + 1))) else (none))))
end
def spec_lean.f (k : Nat) (l0 : List (S49)) : Option ((List (S49))) := spec_lean.l0 k l0 (([] : List (S49))) (([] : List Int)) 0
set_option maxRecDepth 100000 in
theorem spec_lean.mono_l : ∀ k,(∀ y0 y1 y2 y3,LeO (spec_lean.l0 k y0 y1 y2 y3) (spec_lean.l0 (k + 1) y0 y1 y2 y3)) ∧ (∀ y0 y1 y2 y3 y4,LeO (spec_lean.l1 k y0 y1 y2 y3 y4) (spec_lean.l1 (k + 1) y0 y1 y2 y3 y4)) ∧ (∀ y0 y1 y2 y3 y4 y5 y6 y7,LeO (spec_lean.j2 k y0 y1 y2 y3 y4 y5 y6 y7) (spec_lean.j2 (k + 1) y0 y1 y2 y3 y4 y5 y6 y7))
 | 0 => ⟨fun _ _ _ _ r h => (by cases h),fun _ _ _ _ _ r h => (by cases h),fun _ _ _ _ _ _ _ _ r h => (by cases h)⟩
 | k + 1 => by
  obtain ⟨ih0,ih1,ih2⟩ := spec_lean.mono_l k
  refine ⟨?_,?_,?_⟩
  ·intro y0 y1 y2 y3
   unfold spec_lean.l0
   repeat' first
   | (with_reducible exact ih0 _ _ _ _)
   | (with_reducible exact ih1 _ _ _ _ _)
   | (with_reducible exact ih2 _ _ _ _ _ _ _ _)
   | (with_reducible exact spec_idle.mono _ _ _)
   | (with_reducible exact LeO.refl _)
   | (with_reducible exact LeO.none _)
   | (with_reducible refine LeO.ite ?_ ?_)
   | (with_reducible refine LeO.bind ?_ (fun _ => ?_))
   | exact ih0 _ _ _ _
   | exact ih1 _ _ _ _ _
   | exact ih2 _ _ _ _ _ _ _ _
   | exact spec_idle.mono _ _ _
   | exact LeO.none _
   | refine LeO.ite ?_ ?_
   | refine LeO.bind ?_ (fun _ => ?_)
  ·intro y0 y1 y2 y3 y4
   unfold spec_lean.l1
   repeat' first
   | (with_reducible exact ih0 _ _ _ _)
   | (with_reducible exact ih1 _ _ _ _ _)
   | (with_reducible exact ih2 _ _ _ _ _ _ _ _)
   | (with_reducible exact spec_idle.mono _ _ _)
   | (with_reducible exact LeO.refl _)
   | (with_reducible exact LeO.none _)
   | (with_reducible refine LeO.ite ?_ ?_)
   | (with_reducible refine LeO.bind ?_ (fun _ => ?_))
   | exact ih0 _ _ _ _
   | exact ih1 _ _ _ _ _
   | exact ih2 _ _ _ _ _ _ _ _
   | exact spec_idle.mono _ _ _
   | exact LeO.none _
   | refine LeO.ite ?_ ?_
   | refine LeO.bind ?_ (fun _ => ?_)
  ·intro y0 y1 y2 y3 y4 y5 y6 y7
   unfold spec_lean.j2
   repeat' first
   | (with_reducible exact ih0 _ _ _ _)
   | (with_reducible exact ih1 _ _ _ _ _)
   | (with_reducible exact ih2 _ _ _ _ _ _ _ _)
   | (with_reducible exact spec_idle.mono _ _ _)
   | (with_reducible exact LeO.refl _)
   | (with_reducible exact LeO.none _)
   | (with_reducible refine LeO.ite ?_ ?_)
   | (with_reducible refine LeO.bind ?_ (fun _ => ?_))
   | exact ih0 _ _ _ _
   | exact ih1 _ _ _ _ _
   | exact ih2 _ _ _ _ _ _ _ _
   | exact spec_idle.mono _ _ _
   | exact LeO.none _
   | refine LeO.ite ?_ ?_
   | refine LeO.bind ?_ (fun _ => ?_)
set_option maxRecDepth 100000 in
theorem spec_lean.mono : ∀ a0 k,LeO (spec_lean.f k a0) (spec_lean.f (k + 1) a0) := by
 intro a0 k
 obtain ⟨ih0,ih1,ih2⟩ := spec_lean.mono_l k
 unfold spec_lean.f
 repeat' first
   | (with_reducible exact ih0 _ _ _ _)
   | (with_reducible exact ih1 _ _ _ _ _)
   | (with_reducible exact ih2 _ _ _ _ _ _ _ _)
   | (with_reducible exact spec_idle.mono _ _ _)
   | (with_reducible exact LeO.refl _)
   | (with_reducible exact LeO.none _)
   | (with_reducible refine LeO.ite ?_ ?_)
   | (with_reducible refine LeO.bind ?_ (fun _ => ?_))
   | exact ih0 _ _ _ _
   | exact ih1 _ _ _ _ _
   | exact ih2 _ _ _ _ _ _ _ _
   | exact spec_idle.mono _ _ _
   | exact LeO.none _
   | refine LeO.ite ?_ ?_
   | refine LeO.bind ?_ (fun _ => ?_)
set_option maxHeartbeats 8000000 in
set_option maxRecDepth 100000 in
theorem spec_lean.calls (k : Nat) (A0 : Option Addr) (c0 : Nat) (l0 : List (S49)) (r : List (S49)) (w : World) (hr0 : Kd.C k49 w A0 l0.length l0) (hc0 : l0.length ≤ c0) (h : spec_lean.f k l0 = some r) :
  Calls Try.prog 71 #[.slice A0 l0.length c0] w fun e w' => ∃ v0_ : Value,e = .returned (v0_) ∧ Kd.R k49 49 w' w.heap.size (fun _ => True) v0_ r ∧ Below w.heap.size w w' := by
 have hu49 := Try.underlying49
 have HR0 := Aside0.mk hr0
 have HC0 := Aside0.mk hc0
 clear hr0 hc0
 have HB := Aside0.mk (Below.refl w.heap.size w)
 have H : (spec_lean.l0 k l0 (([] : List (S49))) (([] : List Int)) 0) = some r := h
 clear h
 obtain ⟨y676,hy676⟩ : ∃ y_ : List (S49),y_ = (([] : List (S49))) := ⟨_,rfl⟩
 replace H : (spec_lean.l0 k l0 y676 (([] : List Int)) 0) = some r := by first|(rw [hy676];with_reducible exact H)|(have H2_ := (Option.bind_some _ _).symm.trans H;rw [hy676];with_reducible exact H2_)|(have H2_ := (Option.bind_some _ _).symm.trans H;with_reducible exact H2_)|with_reducible exact H|(rw [hy676];exact H)|exact H
 have Ny676 := Aside0.mk hy676
 clear hy676
 obtain ⟨y679,hy679⟩ : ∃ y_ : List Int,y_ = (([] : List Int)) := ⟨_,rfl⟩
 replace H : (spec_lean.l0 k l0 y676 y679 0) = some r := by first|(rw [hy679];with_reducible exact H)|(have H2_ := (Option.bind_some _ _).symm.trans H;rw [hy679];with_reducible exact H2_)|(have H2_ := (Option.bind_some _ _).symm.trans H;with_reducible exact H2_)|with_reducible exact H|(rw [hy679];exact H)|exact H
 have Ny679 := Aside0.mk hy679
 clear hy679
 have H' := Aside0.mk H
 clear H
 go_enter Try.func71,Try.ntmps71
 go_wp2_with (first|((with_reducible refine gate_dst (N := 9) rfl ?_);refine Kd.R_lit k49 _ 49 ?hg (N := 9) ?hd (xs := ([] : List (S49))) (inner := []) (ok := fun _ => True) (okp := fun _ => True) ?hr ?hp (fun _ hk => hk) trivial (Below.refl _ _) (Nat.le_refl _) (by simp) ?_;(case hd => rfl);(case hg => rfl);(case hr => first|(go_simp;done)|(go_simp;rfl));(case hp => exact (Reps.none _ _));intro v677 w2 ho3 hb hg_ hnew_;clear hg_ hnew_;(first|rw [← Ny676.out] at ho3|(simp only [Int.reduceToNat] at ho3;rw [← Ny676.out] at ho3));have n0_ := Aside0.mk (Kd.R_lower ho3 (below_size (by repeat (first|(with_reducible first|exact HB.out|apply below_alloc|apply pw_below_drewN|apply below_drew1)|exact HB.out))));have n1_ := Aside0.mk (below_step (by repeat (first|(with_reducible first|exact HB.out|apply below_alloc|apply pw_below_drewN|apply below_drew1)|exact HB.out)) hb);clear HB;have HO678 := n0_;have HB := n1_;clear n0_ n1_;clear hb ho3)|((with_reducible refine gate_dst (N := 10) rfl ?_);refine Kd.R_lit (Kd.int .i64) _ 3 ?hg (N := 10) ?hd (xs := ([] : List Int)) (inner := []) (ok := fun _ => True) (okp := fun _ => True) ?hr ?hp (fun _ hk => hk) trivial (Below.refl _ _) (Nat.le_refl _) (by simp) ?_;(case hd => rfl);(case hg => rfl);(case hr => first|(go_simp;done)|(go_simp;rfl));(case hp => exact (Reps.none _ _));intro v680 w4 ho5 hb hg_ hnew_;clear hg_ hnew_;(first|rw [← Ny679.out] at ho5|(simp only [Int.reduceToNat] at ho5;rw [← Ny679.out] at ho5));have n0_ := Aside0.mk (Kd.R_below (by (with_reducible repeat (first|apply Kd.R_alloc|apply Kd.R_drewN|apply Kd.R_drew));exact HO678.out) hb);have n1_ := Aside0.mk (Kd.R_lower ho5 (below_size (by repeat (first|(with_reducible first|exact HB.out|apply below_alloc|apply pw_below_drewN|apply below_drew1)|exact HB.out))));have n2_ := Aside0.mk (below_step (by repeat (first|(with_reducible first|exact HB.out|apply below_alloc|apply pw_below_drewN|apply below_drew1)|exact HB.out)) hb);clear HO678;clear HB;have HO678 := n0_;have HO681 := n1_;have HB := n2_;clear n0_ n1_ n2_;clear hb ho5))
 go_loopg [4,5] k (fun kq v4 v5 w' => ∃ (x4_1 : List Int) (x5_1 : Int),v5 = .int .i64 x5_1 ∧ Aside0 (spec_lean.l0 kq l0 y676 x4_1 x5_1 = some r) ∧ Aside0 (kq ≤ k) ∧ Aside0 (Kd.R k49 49 w' w.heap.size (fun _ => True) v677 y676) ∧ Aside0 (Kd.R (Kd.int .i64) 3 w' w.heap.size (fun _ => True) v4 x4_1) ∧ Aside0 (Below w.heap.size w w'))
 case atStart => exact ⟨(y679),(0),(by first|rfl|(simp;done)|(simp [*];done)),H',⟨Nat.le_refl _⟩,⟨by (with_reducible repeat (first|apply Kd.R_alloc|apply Kd.R_drewN|apply Kd.R_drew));exact HO678.out⟩,⟨by (with_reducible repeat (first|apply Kd.R_alloc|apply Kd.R_drewN|apply Kd.R_drew));exact HO681.out⟩,⟨by repeat (first|(with_reducible first|exact HB.out|apply below_alloc|apply pw_below_drewN|apply below_drew1)|exact HB.out)⟩⟩
 case round =>
  clear H'
  try clear p2
  obtain ⟨x4_1,x5_1,rfl,HA,HK1,HO_3,HO_4,HB⟩ := hrel
  cases gk with
  | zero => exact absurd HA.out (fun h_ => (by cases h_))
  | succ k1 =>
   have H := HA.out
   clear HA
   simp only [spec_lean.l0] at H
   by_cases c6 : x5_1 < 20
   ·rw [if_pos c6] at H
    have c6b0 : decide (x5_1 < 20) = true := decide_eq_true c6
    clear c6
    by_cases c7 : x4_1.length < 17592186044416
    ·rw [if_pos c7] at H
     have LMc7 := Aside0.mk c7
     clear c7
     obtain ⟨y682,hy682⟩ : ∃ y_ : List Int,y_ = (x4_1 ++ [(-1)]) := ⟨_,rfl⟩
     replace H : (spec_lean.l0 k1 l0 y676 y682 (wrap64 (x5_1 + 1))) = some r := by first|(rw [hy682];with_reducible exact H)|(have H2_ := (Option.bind_some _ _).symm.trans H;rw [hy682];with_reducible exact H2_)|(have H2_ := (Option.bind_some _ _).symm.trans H;with_reducible exact H2_)|with_reducible exact H|(rw [hy682];exact H)|exact H
     have Ny682 := Aside0.mk hy682
     clear hy682
     have H' := Aside0.mk H
     clear H
     go_wp2_with (first|((with_reducible refine gate_builtin (b := .append) (xs := #[.tmp 15,.tmp 16]) rfl ?_);at_builtin;refine Kd.R_append (Kd.int .i64) (w0 := w) w.heap.size rfl (.tmp 15) (.tmp 16) 29 3 (.int .i64 0) 8 rfl Try.underlying29 info3 rfl (by decide) (by omega) u4 x4_1 (-1) [.int .i64 (-1)] (fun _ => True) (fun _ => False) rfl rfl ?aP (fun _ hk => hk.elim) ?aF ?aO ?aB ?aS ?aL ?_;(case aP => exact rfl);(case aB => exact (by repeat (first|(with_reducible first|exact HB.out|apply below_alloc|apply pw_below_drewN|apply below_drew1)|exact HB.out)));(case aF => exact (fun _ _ => trivial));(case aO => exact (by (with_reducible repeat (first|apply Kd.R_alloc|apply Kd.R_drewN|apply Kd.R_drew));exact HO_4.out));(case aS => exact (below_size (by repeat (first|(with_reducible first|exact HB.out|apply below_alloc|apply pw_below_drewN|apply below_drew1)|exact HB.out))));(case aL => have := LMc7.out;omega);intro v683 w8 ho hb hg hat;rw [← Ny682.out] at ho;have n0_ := Aside0.mk (Kd.R_over' (by (with_reducible repeat (first|apply Kd.R_alloc|apply Kd.R_drewN|apply Kd.R_drew));exact HO_3.out) (Kd.R_typed (by (with_reducible repeat (first|apply Kd.R_alloc|apply Kd.R_drewN|apply Kd.R_drew));exact HO_4.out)) (by decide) hg);have n1_ := Aside0.mk (hb);have n2_ := Aside0.mk (ho);clear HO_3;clear HB;clear HO_4;have HO_3 := n0_;have HB := n1_;have HO684 := n2_;clear n0_ n1_ n2_;clear ho hb hg hat))
     go_roundg k1
     case measure => have := HK1.out;omega
     case rel => exact ⟨(y682),(wrap64 (x5_1 + 1)),(by first|rfl|(simp;done)|(simp [*];done)),H',⟨by have := HK1.out;omega⟩,⟨by (with_reducible repeat (first|apply Kd.R_alloc|apply Kd.R_drewN|apply Kd.R_drew));exact HO_3.out⟩,⟨by (with_reducible repeat (first|apply Kd.R_alloc|apply Kd.R_drewN|apply Kd.R_drew));exact HO684.out⟩,⟨by repeat (first|(with_reducible first|exact HB.out|apply below_alloc|apply pw_below_drewN|apply below_drew1)|exact HB.out)⟩⟩
    ·rw [if_neg c7] at H
     exact absurd H (by simp)
   ·rw [if_neg c6] at H
    have c6b0 : decide (x5_1 < 20) = false := decide_eq_false c6
    clear c6
    have H' := Aside0.mk H
    clear H
    go_wp2
    go_loopg [3,6,7] k1 (fun kq v3 v6 v7 w' => ∃ (x3_2 : List (S49)) (x4_2 : List Int) (x6_2 : Int) (x7_2 : Int),v6 = .int .i64 x6_2 ∧ v7 = .int .i64 x7_2 ∧ Aside0 (spec_lean.l1 kq l0 x3_2 x4_2 x6_2 x7_2 = some r) ∧ Aside0 (kq ≤ k1) ∧ Aside0 (Kd.R k49 49 w' w.heap.size (fun _ => True) v3 x3_2) ∧ Aside0 (Kd.R (Kd.int .i64) 3 w' w.heap.size (fun _ => True) u4 x4_2) ∧ Aside0 (Below w.heap.size w w'))
    case atStart => exact ⟨(y676),(x4_1),(0),(0),(by first|rfl|(simp;done)|(simp [*];done)),(by first|rfl|(simp;done)|(simp [*];done)),H',⟨Nat.le_refl _⟩,⟨by (with_reducible repeat (first|apply Kd.R_alloc|apply Kd.R_drewN|apply Kd.R_drew));exact HO_3.out⟩,⟨by (with_reducible repeat (first|apply Kd.R_alloc|apply Kd.R_drewN|apply Kd.R_drew));exact HO_4.out⟩,⟨by repeat (first|(with_reducible first|exact HB.out|apply below_alloc|apply pw_below_drewN|apply below_drew1)|exact HB.out)⟩⟩
    case round =>
     clear H'
     try clear p2
     try clear c6
     try clear c6b0
     try clear p6
     try clear c7
     try clear p2
     obtain ⟨x3_2,x4_2,x6_2,x7_2,rfl,rfl,HA,HK2,HO_3,HO_4,HB⟩ := hrel
     cases gk with
     | zero => exact absurd HA.out (fun h_ => (by cases h_))
     | succ k2 =>
      have H := HA.out
      clear HA
      simp only [spec_lean.l1] at H
      by_cases c9 : x7_2 < (l0.length : Int)
      ·rw [if_pos c9] at H
       have c9b0 : decide (x7_2 < (l0.length : Int)) = true := decide_eq_true c9
       clear c9
       by_cases c10 : 0 ≤ x7_2
       ·rw [if_pos c10] at H
        have c10b0 : decide (0 ≤ x7_2) = true := decide_eq_true c10
        clear c10
        replace H := Option.bind_eq_some_iff.mp H
        obtain ⟨t687,A110,H⟩ := H
        replace H : (if t687 = true then (spec_lean.l1 k2 l0 x3_2 x4_2 x6_2 (wrap64 (x7_2 + 1))) else (if ((rd_T49 l0 x7_2).f0) = 15 then (if 0 ≤ ((rd_T49 l0 x7_2).f1) then (if ((rd_T49 l0 x7_2).f1) < (x4_2.length : Int) then (spec_lean.j2 k2 l0 x3_2 x4_2 x6_2 x7_2 (decide ((rd x4_2 ((rd_T49 l0 x7_2).f1)) < 0)) ((rd_T49 l0 x7_2).f0) ((rd_T49 l0 x7_2).f1)) else (none)) else (none)) else (spec_lean.j2 k2 l0 x3_2 x4_2 x6_2 x7_2 false ((rd_T49 l0 x7_2).f0) ((rd_T49 l0 x7_2).f1)))) = some r := H
        have A11 := Aside0.mk A110
        clear A110
        by_cases c12 : t687 = true
        ·subst c12
         have H1 : (spec_lean.l1 k2 l0 x3_2 x4_2 x6_2 (wrap64 (x7_2 + 1))) = some r := by rw [if_pos rfl] at H;exact H
         clear H
         have H := H1
         clear H1
         have H' := Aside0.mk H
         clear H
         have p685 : 0 ≤ (x7_2 : Int) := of_decide_eq_true (by first|(with_reducible assumption)|assumption)
         have q685 : x7_2 < (l0.length : Int) := of_decide_eq_true (by first|(with_reducible assumption)|assumption)
         obtain ⟨ad685,e685,hx685_0,hx685_1⟩ := at_T49 HR0.out x7_2 p685 q685
         cases e685
         replace hx685_0 := (HB.out.cell (World.block_lt_of_cell? w _ hx685_0)).trans hx685_0
         replace hx685_1 := (HB.out.cell (World.block_lt_of_cell? w _ hx685_1)).trans hx685_1
         replace p685 := eq_true p685
         replace q685 := eq_true q685
         go_wp2_with (first|((with_reducible refine gate_dst (N := 8) rfl ?_);refine box_event ?hg (N := 8) ?hd (cs := #[.int .i64 0,.int .i64 0]) (t := 49) ?hr ?_;(case hd => rfl);(case hg => rfl);(case hr => first|(go_simp;done)|(go_simp;rfl));intro gb686 hg w13 hbox hb;have n0_ := Aside0.mk (Kd.R_below (Kd.R_elderB (by (with_reducible repeat (first|apply Kd.R_alloc|apply Kd.R_drewN|apply Kd.R_drew));exact HO_3.out) gb686 (Nat.le_of_eq hg.symm)) hb);have n1_ := Aside0.mk (Kd.R_below (by (with_reducible repeat (first|apply Kd.R_alloc|apply Kd.R_drewN|apply Kd.R_drew));exact HO_4.out) hb);have n2_ := Aside0.mk (below_step (by repeat (first|(with_reducible first|exact HB.out|apply below_alloc|apply pw_below_drewN|apply below_drew1)|exact HB.out)) hb);have n3_ := Aside0.mk (hbox);have n4_ := Aside0.mk ((by rw [hg];exact (below_size (by repeat (first|(with_reducible first|exact HB.out|apply below_alloc|apply pw_below_drewN|apply below_drew1)|exact HB.out))) : w.heap.size ≤ gb686));have n5_ := Aside0.mk ((by rw [hg];exact (below_size (by repeat (first|(with_reducible first|exact HB.out|apply below_alloc|apply pw_below_drewN|apply below_drew1)|exact HB.out))) : w.heap.size ≤ gb686));clear HO_3;clear HO_4;clear HB;have HO_3 := n0_;have HO_4 := n1_;have HB := n2_;have BK686 := n3_;have GW686 := n4_;have GE686 := n5_;clear n0_ n1_ n2_ n3_ n4_ n5_;clear hb hbox hg;have hcz14_0 : w13.cell? ⟨gb686,0,none⟩ = some (.int .i64 0) := (blk_cell BK686.out 0).trans rfl;have hcz14_1 : w13.cell? ⟨gb686,1,none⟩ = some (.int .i64 0) := (blk_cell BK686.out 1).trans rfl;have hfz14_0 := blk_frozen BK686.out 0;have hfz14_1 := blk_frozen BK686.out 1)|((with_reducible refine gate_callee (f := 64) rfl ?_);refine goesL_ (some 30) rfl rfl Try.func64 (by kernel_rfl) rfl #[.slice (some ad685) l0.length c0,.int .i64 x7_2] rfl (by (try simp only [List.map_toArray,List.map_cons,List.map_nil]);first|done|rfl|(simp only [List.length_drop,List.length_take];rfl)) ?_;(with_reducible refine (spec_idle.calls k2 _ _ l0 x7_2 true _ ?side1 ?side2 A11.out).mono ?_);(case side1 => exact Kd.C_below HR0.out (by repeat (first|(with_reducible first|exact HB.out|apply below_alloc|apply pw_below_drewN|apply below_drew1|refine below_set ?_ GE686.out)|exact HB.out)));(case side2 => exact HC0.out);rintro e w' ⟨rfl,⟨nd,rfl⟩⟩;refine ⟨_,rfl,?_⟩))
         go_roundg k2
         case measure => have := HK1.out;have := HK2.out;omega
         case rel => exact ⟨(x3_2),(x4_2),(x6_2),(wrap64 (x7_2 + 1)),(by first|rfl|(simp;done)|(simp [*];done)),(by first|rfl|(simp;done)|(simp [*];done)),H',⟨by have := HK1.out;have := HK2.out;omega⟩,⟨by (with_reducible repeat (first|apply Kd.R_alloc|apply Kd.R_drewN|apply Kd.R_drew));exact Kd.R_mono (Kd.R_far (p := ⟨gb686,1,none⟩) (Kd.R_far (p := ⟨gb686,0,none⟩) (Kd.R_mono HO_3.out (fun k_ hk => (⟨hk,hk.2⟩ : _ ∧ k_ ≠ gb686))) (fun _ hk => hk.2) (.int .i64 ((rd_T49 l0 x7_2).f0))) (fun _ hk => hk.2) (.int .i64 ((rd_T49 l0 x7_2).f1))) (fun _ hk => trivial)⟩,⟨by (with_reducible repeat (first|apply Kd.R_alloc|apply Kd.R_drewN|apply Kd.R_drew));exact Kd.R_mono (Kd.R_far (p := ⟨gb686,1,none⟩) (Kd.R_far (p := ⟨gb686,0,none⟩) (Kd.R_types HO_4.out BK686.out (by decide)) (fun _ hk => hk.2) (.int .i64 ((rd_T49 l0 x7_2).f0))) (fun _ hk => hk.2) (.int .i64 ((rd_T49 l0 x7_2).f1))) (fun _ hk => trivial)⟩,⟨by repeat (first|(with_reducible first|exact HB.out|apply below_alloc|apply pw_below_drewN|apply below_drew1|refine below_set ?_ GE686.out)|exact HB.out)⟩⟩
        ·replace c12 := Bool.eq_false_iff.mpr c12
         subst c12
         have H1 : (if ((rd_T49 l0 x7_2).f0) = 15 then (if 0 ≤ ((rd_T49 l0 x7_2).f1) then (if ((rd_T49 l0 x7_2).f1) < (x4_2.length : Int) then (spec_lean.j2 k2 l0 x3_2 x4_2 x6_2 x7_2 (decide ((rd x4_2 ((rd_T49 l0 x7_2).f1)) < 0)) ((rd_T49 l0 x7_2).f0) ((rd_T49 l0 x7_2).f1)) else (none)) else (none)) else (spec_lean.j2 k2 l0 x3_2 x4_2 x6_2 x7_2 false ((rd_T49 l0 x7_2).f0) ((rd_T49 l0 x7_2).f1))) = some r := by rw [if_neg (show ¬ (false = true) by decide)] at H;exact H
         clear H
         have H := H1
         clear H1
         have HC15 := Aside0.mk H
         clear H
         have p685 : 0 ≤ (x7_2 : Int) := of_decide_eq_true (by first|(with_reducible assumption)|assumption)
         have q685 : x7_2 < (l0.length : Int) := of_decide_eq_true (by first|(with_reducible assumption)|assumption)
         obtain ⟨ad685,e685,hx685_0,hx685_1⟩ := at_T49 HR0.out x7_2 p685 q685
         cases e685
         replace hx685_0 := (HB.out.cell (World.block_lt_of_cell? w _ hx685_0)).trans hx685_0
         replace hx685_1 := (HB.out.cell (World.block_lt_of_cell? w _ hx685_1)).trans hx685_1
         replace p685 := eq_true p685
         replace q685 := eq_true q685
         go_upto_region 13 with (first|((with_reducible refine gate_dst (N := 8) rfl ?_);refine box_event ?hg (N := 8) ?hd (cs := #[.int .i64 0,.int .i64 0]) (t := 49) ?hr ?_;(case hd => rfl);(case hg => rfl);(case hr => first|(go_simp;done)|(go_simp;rfl));intro gb686 hg w16 hbox hb;have n0_ := Aside0.mk (Kd.R_below (Kd.R_elderB (by (with_reducible repeat (first|apply Kd.R_alloc|apply Kd.R_drewN|apply Kd.R_drew));exact HO_3.out) gb686 (Nat.le_of_eq hg.symm)) hb);have n1_ := Aside0.mk (Kd.R_below (by (with_reducible repeat (first|apply Kd.R_alloc|apply Kd.R_drewN|apply Kd.R_drew));exact HO_4.out) hb);have n2_ := Aside0.mk (below_step (by repeat (first|(with_reducible first|exact HB.out|apply below_alloc|apply pw_below_drewN|apply below_drew1)|exact HB.out)) hb);have n3_ := Aside0.mk (hbox);have n4_ := Aside0.mk ((by rw [hg];exact (below_size (by repeat (first|(with_reducible first|exact HB.out|apply below_alloc|apply pw_below_drewN|apply below_drew1)|exact HB.out))) : w.heap.size ≤ gb686));have n5_ := Aside0.mk ((by rw [hg];exact (below_size (by repeat (first|(with_reducible first|exact HB.out|apply below_alloc|apply pw_below_drewN|apply below_drew1)|exact HB.out))) : w.heap.size ≤ gb686));clear HO_3;clear HO_4;clear HB;have HO_3 := n0_;have HO_4 := n1_;have HB := n2_;have BK686 := n3_;have GW686 := n4_;have GE686 := n5_;clear n0_ n1_ n2_ n3_ n4_ n5_;clear hb hbox hg;have hcz17_0 : w16.cell? ⟨gb686,0,none⟩ = some (.int .i64 0) := (blk_cell BK686.out 0).trans rfl;have hcz17_1 : w16.cell? ⟨gb686,1,none⟩ = some (.int .i64 0) := (blk_cell BK686.out 1).trans rfl;have hfz17_0 := blk_frozen BK686.out 0;have hfz17_1 := blk_frozen BK686.out 1)|((with_reducible refine gate_callee (f := 64) rfl ?_);refine goesL_ (some 30) rfl rfl Try.func64 (by kernel_rfl) rfl #[.slice (some ad685) l0.length c0,.int .i64 x7_2] rfl (by (try simp only [List.map_toArray,List.map_cons,List.map_nil]);first|done|rfl|(simp only [List.length_drop,List.length_take];rfl)) ?_;(with_reducible refine (spec_idle.calls k2 _ _ l0 x7_2 false _ ?side1 ?side2 A11.out).mono ?_);(case side1 => exact Kd.C_below HR0.out (by repeat (first|(with_reducible first|exact HB.out|apply below_alloc|apply pw_below_drewN|apply below_drew1|refine below_set ?_ GE686.out)|exact HB.out)));(case side2 => exact HC0.out);rintro e w' ⟨rfl,⟨nd,rfl⟩⟩;refine ⟨_,rfl,?_⟩))
         (try simp only [Act.put,List.setIfInBounds_toArray,List.set_cons_zero,List.set_cons_succ])
         go_cut [41] (fun v41 wc => ∃ (kq : Nat) (x41_14 : Bool),v41 = .bool x41_14 ∧ Aside0 (spec_lean.j2 kq l0 x3_2 x4_2 x6_2 x7_2 x41_14 ((rd_T49 l0 x7_2).f0) ((rd_T49 l0 x7_2).f1) = some r) ∧ Aside0 (kq ≤ k2) ∧ Aside0 (Kd.R k49 49 wc w.heap.size (fun k_ => k_ ≠ gb686) u3 x3_2) ∧ Aside0 (Kd.R (Kd.int .i64) 3 wc w.heap.size (fun _ => True) u4 x4_2) ∧ Aside0 (wc.heap[gb686]? = some (.cells #[.int .i64 ((rd_T49 l0 x7_2).f0),.int .i64 ((rd_T49 l0 x7_2).f1)] 49 (0,0))) ∧ Aside0 (Below w.heap.size w wc))
         case first =>
          have H := HC15.out
          clear HC15
          by_cases c18 : ((rd_T49 l0 x7_2).f0) = 15
          ·rw [if_pos c18] at H
           have c18b0 : (((rd_T49 l0 x7_2).f0) == 15) = true := beq_iff_eq.mpr c18
           have c18b1 : (((rd_T49 l0 x7_2).f0) != 15) = false := bne_eq_false_iff_eq.mpr c18
           clear c18
           (first|rw [c18b0]|(simp only [i64_w,i32_w];rw [c18b0])|skip)
           by_cases c19 : 0 ≤ ((rd_T49 l0 x7_2).f1)
           ·rw [if_pos c19] at H
            have c19b0 : decide (0 ≤ ((rd_T49 l0 x7_2).f1)) = true := decide_eq_true c19
            clear c19
            by_cases c20 : ((rd_T49 l0 x7_2).f1) < (x4_2.length : Int)
            ·rw [if_pos c20] at H
             have c20b0 : decide (((rd_T49 l0 x7_2).f1) < (x4_2.length : Int)) = true := decide_eq_true c20
             clear c20
             have H' := Aside0.mk H
             clear H
             have hcz21_0 : w16.cell? ⟨gb686,0,none⟩ = some (.int .i64 0) := (blk_cell BK686.out 0).trans rfl
             have hcz21_1 : w16.cell? ⟨gb686,1,none⟩ = some (.int .i64 0) := (blk_cell BK686.out 1).trans rfl
             have hfz21_0 := blk_frozen BK686.out 0
             have hfz21_1 := blk_frozen BK686.out 1
             obtain ⟨Ao22,co22,eo22⟩ := Kd.R_slice HO_4.out
             subst eo22
             have p688 : 0 ≤ (((rd_T49 l0 x7_2).f1) : Int) := of_decide_eq_true (by first|(with_reducible assumption)|assumption)
             have q688 : ((rd_T49 l0 x7_2).f1) < (x4_2.length : Int) := of_decide_eq_true (by first|(with_reducible assumption)|assumption)
             obtain ⟨ad688,e688,hx688_0⟩ := Kd.at_int (Kd.R_reads' HO_4.out).2.2 ((rd_T49 l0 x7_2).f1) p688 q688
             cases e688
             have hn688_0 : ad688.block ≠ gb686 := Kd.own_blk (Kd.R_ne HO_4.out BK686.out (by decide))
             have hn688_1 : ad688.block ≠ gb686 := Kd.own_blk (Kd.R_ne HO_4.out BK686.out (by decide))
             replace hx688_0 := (cell_far (p := ⟨gb686,0,none⟩) (by first|(rw [add_block];exact hn688_0)|(show (Addr.add _ _).block ≠ _;rw [add_block];exact hn688_0)|exact hn688_0) (.int .i64 ((rd_T49 l0 x7_2).f0))).trans hx688_0
             replace hx688_0 := (cell_far (p := ⟨gb686,1,none⟩) (by first|(rw [add_block];exact hn688_1)|(show (Addr.add _ _).block ≠ _;rw [add_block];exact hn688_1)|exact hn688_1) (.int .i64 ((rd_T49 l0 x7_2).f1))).trans hx688_0
             clear hn688_0
             clear hn688_1
             replace p688 := eq_true p688
             replace q688 := eq_true q688
             go_wp2
             go_meet
             case rel => exact ⟨_,(decide ((rd x4_2 ((rd_T49 l0 x7_2).f1)) < 0)),(by first|rfl|(simp;done)|(simp [*];done)),H',⟨by have := HK1.out;have := HK2.out;first|omega|exact Nat.le_refl _⟩,⟨by (with_reducible repeat (first|apply Kd.R_alloc|apply Kd.R_drewN|apply Kd.R_drew));exact Kd.R_mono (Kd.R_far (p := ⟨gb686,1,none⟩) (Kd.R_far (p := ⟨gb686,0,none⟩) (Kd.R_mono HO_3.out (fun k_ hk => (⟨hk,hk.2⟩ : _ ∧ k_ ≠ gb686))) (fun _ hk => hk.2) (.int .i64 ((rd_T49 l0 x7_2).f0))) (fun _ hk => hk.2) (.int .i64 ((rd_T49 l0 x7_2).f1))) (fun _ hk => hk.1.2)⟩,⟨by (with_reducible repeat (first|apply Kd.R_alloc|apply Kd.R_drewN|apply Kd.R_drew));exact Kd.R_mono (Kd.R_far (p := ⟨gb686,1,none⟩) (Kd.R_far (p := ⟨gb686,0,none⟩) (Kd.R_types HO_4.out BK686.out (by decide)) (fun _ hk => hk.2) (.int .i64 ((rd_T49 l0 x7_2).f0))) (fun _ hk => hk.2) (.int .i64 ((rd_T49 l0 x7_2).f1))) (fun _ hk => trivial)⟩,⟨by (with_reducible repeat (first|refine blk_drewN ?_ _|refine blk_drew ?_|refine blk_alloc ?_ _));refine blk_put (cs := #[.int .i64 ((rd_T49 l0 x7_2).f0),.int .i64 0]) ?_ 1 _ rfl;(with_reducible repeat (first|refine blk_drewN ?_ _|refine blk_drew ?_|refine blk_alloc ?_ _));refine blk_put (cs := #[.int .i64 0,.int .i64 0]) ?_ 0 _ rfl;(with_reducible repeat (first|refine blk_drewN ?_ _|refine blk_drew ?_|refine blk_alloc ?_ _));exact BK686.out⟩,⟨by repeat (first|(with_reducible first|exact HB.out|apply below_alloc|apply pw_below_drewN|apply below_drew1|refine below_set ?_ GE686.out)|exact HB.out)⟩⟩
            ·rw [if_neg c20] at H
             exact absurd H (by simp)
           ·rw [if_neg c19] at H
            exact absurd H (by simp)
          ·rw [if_neg c18] at H
           have c18b0 : (((rd_T49 l0 x7_2).f0) == 15) = false := beq_eq_false_iff_ne.mpr c18
           have c18b1 : (((rd_T49 l0 x7_2).f0) != 15) = true := bne_iff_ne.mpr c18
           (first|rw [c18b0]|(simp only [i64_w,i32_w];rw [c18b0])|skip)
           have H' := Aside0.mk H
           clear H
           have hcz23_0 : w16.cell? ⟨gb686,0,none⟩ = some (.int .i64 0) := (blk_cell BK686.out 0).trans rfl
           have hcz23_1 : w16.cell? ⟨gb686,1,none⟩ = some (.int .i64 0) := (blk_cell BK686.out 1).trans rfl
           have hfz23_0 := blk_frozen BK686.out 0
           have hfz23_1 := blk_frozen BK686.out 1
           go_wp2
           go_meet
           case rel => exact ⟨_,(false),(by first|rfl|(simp;done)|(simp [*];done)),H',⟨by have := HK1.out;have := HK2.out;first|omega|exact Nat.le_refl _⟩,⟨by (with_reducible repeat (first|apply Kd.R_alloc|apply Kd.R_drewN|apply Kd.R_drew));exact Kd.R_mono (Kd.R_far (p := ⟨gb686,1,none⟩) (Kd.R_far (p := ⟨gb686,0,none⟩) (Kd.R_mono HO_3.out (fun k_ hk => (⟨hk,hk.2⟩ : _ ∧ k_ ≠ gb686))) (fun _ hk => hk.2) (.int .i64 ((rd_T49 l0 x7_2).f0))) (fun _ hk => hk.2) (.int .i64 ((rd_T49 l0 x7_2).f1))) (fun _ hk => hk.1.2)⟩,⟨by (with_reducible repeat (first|apply Kd.R_alloc|apply Kd.R_drewN|apply Kd.R_drew));exact Kd.R_mono (Kd.R_far (p := ⟨gb686,1,none⟩) (Kd.R_far (p := ⟨gb686,0,none⟩) (Kd.R_types HO_4.out BK686.out (by decide)) (fun _ hk => hk.2) (.int .i64 ((rd_T49 l0 x7_2).f0))) (fun _ hk => hk.2) (.int .i64 ((rd_T49 l0 x7_2).f1))) (fun _ hk => trivial)⟩,⟨by (with_reducible repeat (first|refine blk_drewN ?_ _|refine blk_drew ?_|refine blk_alloc ?_ _));refine blk_put (cs := #[.int .i64 ((rd_T49 l0 x7_2).f0),.int .i64 0]) ?_ 1 _ rfl;(with_reducible repeat (first|refine blk_drewN ?_ _|refine blk_drew ?_|refine blk_alloc ?_ _));refine blk_put (cs := #[.int .i64 0,.int .i64 0]) ?_ 0 _ rfl;(with_reducible repeat (first|refine blk_drewN ?_ _|refine blk_drew ?_|refine blk_alloc ?_ _));exact BK686.out⟩,⟨by repeat (first|(with_reducible first|exact HB.out|apply below_alloc|apply pw_below_drewN|apply below_drew1|refine below_set ?_ GE686.out)|exact HB.out)⟩⟩
         case rest =>
          clear HC15
          try clear c1
          try clear c2
          try clear p2
          try clear c6
          try clear c6b0
          try clear p6
          try clear q6
          try clear hx6
          try clear c7
          try clear c9
          try clear c9b0
          try clear c10
          try clear c10b0
          try clear c12
          try clear c18
          try clear c18b0
          try clear c18b1
          try clear c19
          try clear c19b0
          try clear c20
          try clear c20b0
          try clear hcz14_0
          try clear hcz14_1
          try clear hcz17_0
          try clear hcz17_1
          try clear hcz21_0
          try clear hcz21_1
          try clear hcz23_0
          try clear hcz23_1
          try clear hfz14_0
          try clear hfz14_1
          try clear hfz17_0
          try clear hfz17_1
          try clear hfz21_0
          try clear hfz21_1
          try clear hfz23_0
          try clear hfz23_1
          try clear hx685_0
          try clear hx685_1
          try clear hx688_0
          try clear p2
          try clear p6
          try clear p685
          try clear p688
          try clear q685
          try clear q688
          obtain ⟨kq,x41_14,rfl,HA,HJ14,HO_3,HO_4,BK686,HB⟩ := hcut
          cases kq with
          | zero => exact absurd HA.out (fun h_ => (by cases h_))
          | succ kj14 =>
           have H := HA.out
           clear HA
           simp only [spec_lean.j2] at H
           by_cases c24 : x41_14 = true
           ·subst c24
            have H1 : (if 0 ≤ ((rd_T49 l0 x7_2).f1) then (if ((rd_T49 l0 x7_2).f1) < (x4_2.length : Int) then ((some (x4_2.set (((rd_T49 l0 x7_2).f1) : Int).toNat x6_2 : List Int)).bind fun y689 => (if ((rd_T49 l0 x7_2).f0) = 15 then (if (rd y689 ((rd_T49 l0 x7_2).f1)) ≥ 0 then (if x3_2.length < 8796093022208 then (spec_lean.l1 kj14 l0 (x3_2 ++ [(⟨((rd_T49 l0 x7_2).f0),rd y689 ((rd_T49 l0 x7_2).f1)⟩ : S49)]) y689 (wrap64 (x6_2 + 1)) (wrap64 (x7_2 + 1))) else (none)) else (if x3_2.length < 8796093022208 then (spec_lean.l1 kj14 l0 (x3_2 ++ [(⟨((rd_T49 l0 x7_2).f0),((rd_T49 l0 x7_2).f1)⟩ : S49)]) y689 (wrap64 (x6_2 + 1)) (wrap64 (x7_2 + 1))) else (none))) else (if ((rd_T49 l0 x7_2).f0) = 16 then (if (rd y689 ((rd_T49 l0 x7_2).f1)) ≥ 0 then (if x3_2.length < 8796093022208 then (spec_lean.l1 kj14 l0 (x3_2 ++ [(⟨((rd_T49 l0 x7_2).f0),rd y689 ((rd_T49 l0 x7_2).f1)⟩ : S49)]) y689 (wrap64 (x6_2 + 1)) (wrap64 (x7_2 + 1))) else (none)) else (if x3_2.length < 8796093022208 then (spec_lean.l1 kj14 l0 (x3_2 ++ [(⟨((rd_T49 l0 x7_2).f0),((rd_T49 l0 x7_2).f1)⟩ : S49)]) y689 (wrap64 (x6_2 + 1)) (wrap64 (x7_2 + 1))) else (none))) else (if x3_2.length < 8796093022208 then (spec_lean.l1 kj14 l0 (x3_2 ++ [(⟨((rd_T49 l0 x7_2).f0),((rd_T49 l0 x7_2).f1)⟩ : S49)]) y689 (wrap64 (x6_2 + 1)) (wrap64 (x7_2 + 1))) else (none))))) else (none)) else (none)) = some r := by rw [if_pos rfl] at H;exact H
            clear H
            have H := H1
            clear H1
            by_cases c25 : 0 ≤ ((rd_T49 l0 x7_2).f1)
            ·rw [if_pos c25] at H
             have c25b0 : decide (0 ≤ ((rd_T49 l0 x7_2).f1)) = true := decide_eq_true c25
             clear c25
             by_cases c26 : ((rd_T49 l0 x7_2).f1) < (x4_2.length : Int)
             ·rw [if_pos c26] at H
              have c26b0 : decide (((rd_T49 l0 x7_2).f1) < (x4_2.length : Int)) = true := decide_eq_true c26
              clear c26
              obtain ⟨y689,hy689⟩ : ∃ y_ : List Int,y_ = (x4_2.set (((rd_T49 l0 x7_2).f1) : Int).toNat x6_2) := ⟨_,rfl⟩
              replace H : (if ((rd_T49 l0 x7_2).f0) = 15 then (if (rd y689 ((rd_T49 l0 x7_2).f1)) ≥ 0 then (if x3_2.length < 8796093022208 then (spec_lean.l1 kj14 l0 (x3_2 ++ [(⟨((rd_T49 l0 x7_2).f0),rd y689 ((rd_T49 l0 x7_2).f1)⟩ : S49)]) y689 (wrap64 (x6_2 + 1)) (wrap64 (x7_2 + 1))) else (none)) else (if x3_2.length < 8796093022208 then (spec_lean.l1 kj14 l0 (x3_2 ++ [(⟨((rd_T49 l0 x7_2).f0),((rd_T49 l0 x7_2).f1)⟩ : S49)]) y689 (wrap64 (x6_2 + 1)) (wrap64 (x7_2 + 1))) else (none))) else (if ((rd_T49 l0 x7_2).f0) = 16 then (if (rd y689 ((rd_T49 l0 x7_2).f1)) ≥ 0 then (if x3_2.length < 8796093022208 then (spec_lean.l1 kj14 l0 (x3_2 ++ [(⟨((rd_T49 l0 x7_2).f0),rd y689 ((rd_T49 l0 x7_2).f1)⟩ : S49)]) y689 (wrap64 (x6_2 + 1)) (wrap64 (x7_2 + 1))) else (none)) else (if x3_2.length < 8796093022208 then (spec_lean.l1 kj14 l0 (x3_2 ++ [(⟨((rd_T49 l0 x7_2).f0),((rd_T49 l0 x7_2).f1)⟩ : S49)]) y689 (wrap64 (x6_2 + 1)) (wrap64 (x7_2 + 1))) else (none))) else (if x3_2.length < 8796093022208 then (spec_lean.l1 kj14 l0 (x3_2 ++ [(⟨((rd_T49 l0 x7_2).f0),((rd_T49 l0 x7_2).f1)⟩ : S49)]) y689 (wrap64 (x6_2 + 1)) (wrap64 (x7_2 + 1))) else (none)))) = some r := by first|(rw [hy689];with_reducible exact H)|(have H2_ := (Option.bind_some _ _).symm.trans H;rw [hy689];with_reducible exact H2_)|(have H2_ := (Option.bind_some _ _).symm.trans H;with_reducible exact H2_)|with_reducible exact H|(rw [hy689];exact H)|exact H
              have Ny689 := Aside0.mk hy689
              clear hy689
              by_cases c28 : ((rd_T49 l0 x7_2).f0) = 15
              ·rw [if_pos c28] at H
               have c28b0 : (((rd_T49 l0 x7_2).f0) == 15) = true := beq_iff_eq.mpr c28
               have c28b1 : (((rd_T49 l0 x7_2).f0) != 15) = false := bne_eq_false_iff_eq.mpr c28
               clear c28
               by_cases c29 : (rd y689 ((rd_T49 l0 x7_2).f1)) ≥ 0
               ·rw [if_pos c29] at H
                have c29b0 : decide (0 ≤ (rd y689 ((rd_T49 l0 x7_2).f1))) = true := decide_eq_true c29
                clear c29
                by_cases c30 : x3_2.length < 8796093022208
                ·rw [if_pos c30] at H
                 have LMc30 := Aside0.mk c30
                 clear c30
                 obtain ⟨y692,hy692⟩ : ∃ y_ : List (S49),y_ = (x3_2 ++ [(⟨((rd_T49 l0 x7_2).f0),rd y689 ((rd_T49 l0 x7_2).f1)⟩ : S49)]) := ⟨_,rfl⟩
                 replace H : (spec_lean.l1 kj14 l0 y692 y689 (wrap64 (x6_2 + 1)) (wrap64 (x7_2 + 1))) = some r := by first|(rw [hy692];with_reducible exact H)|(have H2_ := (Option.bind_some _ _).symm.trans H;rw [hy692];with_reducible exact H2_)|(have H2_ := (Option.bind_some _ _).symm.trans H;with_reducible exact H2_)|with_reducible exact H|(rw [hy692];exact H)|exact H
                 have Ny692 := Aside0.mk hy692
                 clear hy692
                 have H' := Aside0.mk H
                 clear H
                 have hcz31_0 : wc.cell? ⟨gb686,0,none⟩ = some (.int .i64 ((rd_T49 l0 x7_2).f0)) := (blk_cell BK686.out 0).trans rfl
                 have hcz31_1 : wc.cell? ⟨gb686,1,none⟩ = some (.int .i64 ((rd_T49 l0 x7_2).f1)) := (blk_cell BK686.out 1).trans rfl
                 have hfz31_0 := blk_frozen BK686.out 0
                 have hfz31_1 := blk_frozen BK686.out 1
                 have p27 : 0 ≤ (((rd_T49 l0 x7_2).f1) : Int) := of_decide_eq_true (by first|(with_reducible assumption)|assumption)
                 have q27 : (((rd_T49 l0 x7_2).f1) : Int) < ((x4_2.length : Int) : Int) := of_decide_eq_true (by first|(with_reducible assumption)|assumption)
                 obtain ⟨go27,co27,eo27,gb27,gl27,cl27,HG27⟩ := Kd.R_form HO_4.out (by omega)
                 (first|cases eo27|(injection eo27 with ea_ en_ ec_;(first|subst ea_|(injection ea_ with ea_;subst ea_));subst ec_;clear en_))
                 have GB27 := Aside0.mk gb27
                 have GG27 := Aside0.mk HG27
                 clear gb27 gl27 HG27
                 obtain ⟨hx27_0,hf27_0⟩ := Kd.R_celln 0 HO_4.out (((rd_T49 l0 x7_2).f1) : Int) p27 q27
                 replace p27 := eq_true p27
                 replace q27 := eq_true q27
                 have HP32 := Kd.R_putg HO_4.out (((rd_T49 l0 x7_2).f1) : Int) x6_2
                 go_wp2_with (first|((with_reducible refine gate_store (t := 3) (p := 46) rfl ?_);refine store_event (t := 3) (p := 46) (v := ?vo_w33) (w1 := (wc.setCell ⟨go27,(((rd_T49 l0 x7_2).f1) : Int).toNat,none⟩ (.int .i64 x6_2))) ?hg ?ho ?hn ?hr ?_;(case ho => rfl);(case hg => rfl);(case hn => rfl);(case hr => first|(go_simp;done)|(go_simp;rfl));intro w33 hw;have hg : wc.grownBy w33 (some go27) := (by rw [hw];exact HP32.2);have hp_ : Kd.R (Kd.int .i64) 3 w33 w.heap.size (fun _ => True) (.slice (some ⟨go27,0,none⟩) x4_2.length co27) y689 := (by rw [hw,Ny689.out];exact HP32.1);clear HP32;have n0_ := Aside0.mk (Kd.R_over' (v := (.slice (some ⟨go27,0,none⟩) x4_2.length co27)) (by (with_reducible repeat (first|apply Kd.R_alloc|apply Kd.R_drewN|apply Kd.R_drew));exact HO_3.out) (Kd.R_typed HO_4.out) (by decide) hg);have n1_ := Aside0.mk (hp_);have n2_ := Aside0.mk (blk_grown (g := gb686) (o := .cells #[.int .i64 ((rd_T49 l0 x7_2).f0),.int .i64 ((rd_T49 l0 x7_2).f1)] 49 (0,0)) (by (with_reducible repeat (first|refine blk_drewN ?_ _|refine blk_drew ?_|refine blk_alloc ?_ _));exact BK686.out) hg (Kd.R_ne HO_4.out BK686.out (by decide)));have n3_ := Aside0.mk ((by rw [hw];exact below_set (HB.out) GB27.out : Below w.heap.size w w33));clear HO_3;clear HO_4;clear BK686;clear HB;have HO_3 := n0_;have HO_4 := n1_;have BK686 := n2_;have HB := n3_;clear n0_ n1_ n2_ n3_;clear hg hw hp_;have hcz34_0 : w33.cell? ⟨gb686,0,none⟩ = some (.int .i64 ((rd_T49 l0 x7_2).f0)) := (blk_cell BK686.out 0).trans rfl;have hcz34_1 : w33.cell? ⟨gb686,1,none⟩ = some (.int .i64 ((rd_T49 l0 x7_2).f1)) := (blk_cell BK686.out 1).trans rfl;have hfz34_0 := blk_frozen BK686.out 0;have hfz34_1 := blk_frozen BK686.out 1;have p690 : 0 ≤ (((rd_T49 l0 x7_2).f1) : Int) := of_decide_eq_true (by first|(with_reducible assumption)|assumption);have q690 : ((rd_T49 l0 x7_2).f1) < (y689.length : Int) := (by have h_ : (((rd_T49 l0 x7_2).f1) : Int) < ((x4_2.length : Int) : Int) := of_decide_eq_true (by first|(with_reducible assumption)|assumption);first|(have e_ := (Kd.R_reads' HO_4.out).1;omega)|simpa only [Ny689.out,List.length_set] using h_);have ql690 : ((((rd_T49 l0 x7_2).f1) : Int) < ((x4_2.length : Int) : Int)) = True := eq_true (of_decide_eq_true (by first|(with_reducible assumption)|assumption));obtain ⟨ad690,e690,hx690_0⟩ := Kd.at_int (Kd.R_reads' HO_4.out).2.2 ((rd_T49 l0 x7_2).f1) p690 q690;obtain rfl : (⟨go27,0,none⟩ : Addr) = ad690 := (by injection e690);(first|simp only [add_plain] at hx690_0|simp only [add_at] at hx690_0|simp only [Addr.add,Nat.zero_add] at hx690_0|skip);replace p690 := eq_true p690;replace q690 := eq_true q690;have p691 : 0 ≤ (((rd_T49 l0 x7_2).f1) : Int) := of_decide_eq_true (by first|(with_reducible assumption)|assumption);have q691 : ((rd_T49 l0 x7_2).f1) < (y689.length : Int) := (by have h_ : (((rd_T49 l0 x7_2).f1) : Int) < ((x4_2.length : Int) : Int) := of_decide_eq_true (by first|(with_reducible assumption)|assumption);first|(have e_ := (Kd.R_reads' HO_4.out).1;omega)|simpa only [Ny689.out,List.length_set] using h_);have ql691 : ((((rd_T49 l0 x7_2).f1) : Int) < ((x4_2.length : Int) : Int)) = True := eq_true (of_decide_eq_true (by first|(with_reducible assumption)|assumption));obtain ⟨ad691,e691,hx691_0⟩ := Kd.at_int (Kd.R_reads' HO_4.out).2.2 ((rd_T49 l0 x7_2).f1) p691 q691;obtain rfl : (⟨go27,0,none⟩ : Addr) = ad691 := (by injection e691);(first|simp only [add_plain] at hx691_0|simp only [add_at] at hx691_0|simp only [Addr.add,Nat.zero_add] at hx691_0|skip);replace p691 := eq_true p691;replace q691 := eq_true q691)|((with_reducible refine gate_builtin (b := .append) (xs := #[.tmp 71,.tmp 73]) rfl ?_);at_builtin;refine Kd.R_append k49 (w0 := w) w.heap.size rfl (.tmp 71) (.tmp 73) 25 49 (.agg #[(.int .i64 0),(.int .i64 0)]) 16 rfl Try.underlying25 info49 rfl (by decide) (by omega) u3 x3_2 (⟨((rd_T49 l0 x7_2).f0),rd y689 ((rd_T49 l0 x7_2).f1)⟩ : S49) [.int .i64 ((rd_T49 l0 x7_2).f0),.int .i64 (rd y689 ((rd_T49 l0 x7_2).f1))] (fun k_ => k_ ≠ gb686) (fun _ => False) rfl (by first|(go_simp;done)|(go_simp;rfl)) ?aP (fun _ hk => hk.elim) ?aF ?aO ?aB ?aS ?aL ?_;(case aP => exact k49_mkM _ _ _ (⟨((rd_T49 l0 x7_2).f0),rd y689 ((rd_T49 l0 x7_2).f1)⟩ : S49));(case aB => exact (by repeat (first|(with_reducible first|exact HB.out|apply below_alloc|apply pw_below_drewN|apply below_drew1|refine below_set ?_ GE686.out)|exact HB.out)));(case aF => exact (fun k_ hk => Kd.freshB (g := gb686) (o := .cells #[.int .i64 ((rd_T49 l0 x7_2).f0),.int .i64 (rd y689 ((rd_T49 l0 x7_2).f1))] 49 (0,0)) (by (with_reducible repeat (first|refine blk_drewN ?_ _|refine blk_drew ?_|refine blk_alloc ?_ _));refine blk_put (cs := #[.int .i64 ((rd_T49 l0 x7_2).f0),.int .i64 ((rd_T49 l0 x7_2).f1)]) ?_ 1 _ rfl;(with_reducible repeat (first|refine blk_drewN ?_ _|refine blk_drew ?_|refine blk_alloc ?_ _));exact BK686.out) k_ hk));(case aO => exact (by (with_reducible repeat (first|apply Kd.R_alloc|apply Kd.R_drewN|apply Kd.R_drew));exact Kd.R_mono (Kd.R_far (p := ⟨gb686,1,none⟩) (Kd.R_mono HO_3.out (fun k_ hk => (⟨hk,hk⟩ : _ ∧ k_ ≠ gb686))) (fun _ hk => hk.2) (.int .i64 (rd y689 ((rd_T49 l0 x7_2).f1)))) (fun _ hk => hk.1)));(case aS => exact (below_size (by repeat (first|(with_reducible first|exact HB.out|apply below_alloc|apply pw_below_drewN|apply below_drew1|refine below_set ?_ GE686.out)|exact HB.out))));(case aL => have := LMc30.out;omega);intro v693 w35 ho hb hg hat;rw [← Ny692.out] at ho;have n0_ := Aside0.mk (Kd.R_over' (by (with_reducible repeat (first|apply Kd.R_alloc|apply Kd.R_drewN|apply Kd.R_drew));exact (Kd.R_mono (Kd.R_far (p := ⟨gb686,1,none⟩) (Kd.R_types HO_4.out BK686.out (by decide)) (fun _ hk => hk.2) (.int .i64 (rd y689 ((rd_T49 l0 x7_2).f1)))) (fun _ h_ => h_.1))) (Kd.R_typed (by (with_reducible repeat (first|apply Kd.R_alloc|apply Kd.R_drewN|apply Kd.R_drew));exact (Kd.R_mono (Kd.R_far (p := ⟨gb686,1,none⟩) (Kd.R_mono HO_3.out (fun k_ hk => (⟨hk,hk⟩ : _ ∧ k_ ≠ gb686))) (fun _ hk => hk.2) (.int .i64 (rd y689 ((rd_T49 l0 x7_2).f1)))) (fun _ h_ => h_.1)))) (by decide) hg);have n1_ := Aside0.mk (blk_grown (g := gb686) (o := .cells #[.int .i64 ((rd_T49 l0 x7_2).f0),.int .i64 (rd y689 ((rd_T49 l0 x7_2).f1))] 49 (0,0)) (by (with_reducible repeat (first|refine blk_drewN ?_ _|refine blk_drew ?_|refine blk_alloc ?_ _));refine blk_put (cs := #[.int .i64 ((rd_T49 l0 x7_2).f0),.int .i64 ((rd_T49 l0 x7_2).f1)]) ?_ 1 _ rfl;(with_reducible repeat (first|refine blk_drewN ?_ _|refine blk_drew ?_|refine blk_alloc ?_ _));exact BK686.out) hg (Kd.R_away HO_3.out (fun _ hk => hk)));have n2_ := Aside0.mk (hb);have n3_ := Aside0.mk (ho);clear HO_4;clear BK686;clear HB;clear HO_3;have HO_4 := n0_;have BK686 := n1_;have HB := n2_;have HO694 := n3_;clear n0_ n1_ n2_ n3_;clear ho hb hg hat))
                 go_roundg kj14
                 case measure => have := HK1.out;have := HK2.out;have := HJ14.out;omega
                 case rel => exact ⟨(y692),(y689),(wrap64 (x6_2 + 1)),(wrap64 (x7_2 + 1)),(by first|rfl|(simp;done)|(simp [*];done)),(by first|rfl|(simp;done)|(simp [*];done)),H',⟨by have := HK1.out;have := HK2.out;have := HJ14.out;omega⟩,⟨by (with_reducible repeat (first|apply Kd.R_alloc|apply Kd.R_drewN|apply Kd.R_drew));exact Kd.R_mono HO694.out (fun _ hk => trivial)⟩,⟨by (with_reducible repeat (first|apply Kd.R_alloc|apply Kd.R_drewN|apply Kd.R_drew));exact HO_4.out⟩,⟨by repeat (first|(with_reducible first|exact HB.out|apply below_alloc|apply pw_below_drewN|apply below_drew1|refine below_set ?_ GE686.out)|exact HB.out)⟩⟩
                ·rw [if_neg c30] at H
                 exact absurd H (by simp)
               ·rw [if_neg c29] at H
                have c29b0 : decide (0 ≤ (rd y689 ((rd_T49 l0 x7_2).f1))) = false := decide_eq_false c29
                clear c29
                by_cases c36 : x3_2.length < 8796093022208
                ·rw [if_pos c36] at H
                 have LMc36 := Aside0.mk c36
                 clear c36
                 obtain ⟨y695,hy695⟩ : ∃ y_ : List (S49),y_ = (x3_2 ++ [(⟨((rd_T49 l0 x7_2).f0),((rd_T49 l0 x7_2).f1)⟩ : S49)]) := ⟨_,rfl⟩
                 replace H : (spec_lean.l1 kj14 l0 y695 y689 (wrap64 (x6_2 + 1)) (wrap64 (x7_2 + 1))) = some r := by first|(rw [hy695];with_reducible exact H)|(have H2_ := (Option.bind_some _ _).symm.trans H;rw [hy695];with_reducible exact H2_)|(have H2_ := (Option.bind_some _ _).symm.trans H;with_reducible exact H2_)|with_reducible exact H|(rw [hy695];exact H)|exact H
                 have Ny695 := Aside0.mk hy695
                 clear hy695
                 have H' := Aside0.mk H
                 clear H
                 have hcz37_0 : wc.cell? ⟨gb686,0,none⟩ = some (.int .i64 ((rd_T49 l0 x7_2).f0)) := (blk_cell BK686.out 0).trans rfl
                 have hcz37_1 : wc.cell? ⟨gb686,1,none⟩ = some (.int .i64 ((rd_T49 l0 x7_2).f1)) := (blk_cell BK686.out 1).trans rfl
                 have hfz37_0 := blk_frozen BK686.out 0
                 have hfz37_1 := blk_frozen BK686.out 1
                 have p27 : 0 ≤ (((rd_T49 l0 x7_2).f1) : Int) := of_decide_eq_true (by first|(with_reducible assumption)|assumption)
                 have q27 : (((rd_T49 l0 x7_2).f1) : Int) < ((x4_2.length : Int) : Int) := of_decide_eq_true (by first|(with_reducible assumption)|assumption)
                 obtain ⟨go27,co27,eo27,gb27,gl27,cl27,HG27⟩ := Kd.R_form HO_4.out (by omega)
                 (first|cases eo27|(injection eo27 with ea_ en_ ec_;(first|subst ea_|(injection ea_ with ea_;subst ea_));subst ec_;clear en_))
                 have GB27 := Aside0.mk gb27
                 have GG27 := Aside0.mk HG27
                 clear gb27 gl27 HG27
                 obtain ⟨hx27_0,hf27_0⟩ := Kd.R_celln 0 HO_4.out (((rd_T49 l0 x7_2).f1) : Int) p27 q27
                 replace p27 := eq_true p27
                 replace q27 := eq_true q27
                 have HP38 := Kd.R_putg HO_4.out (((rd_T49 l0 x7_2).f1) : Int) x6_2
                 go_wp2_with (first|((with_reducible refine gate_store (t := 3) (p := 46) rfl ?_);refine store_event (t := 3) (p := 46) (v := ?vo_w39) (w1 := (wc.setCell ⟨go27,(((rd_T49 l0 x7_2).f1) : Int).toNat,none⟩ (.int .i64 x6_2))) ?hg ?ho ?hn ?hr ?_;(case ho => rfl);(case hg => rfl);(case hn => rfl);(case hr => first|(go_simp;done)|(go_simp;rfl));intro w39 hw;have hg : wc.grownBy w39 (some go27) := (by rw [hw];exact HP38.2);have hp_ : Kd.R (Kd.int .i64) 3 w39 w.heap.size (fun _ => True) (.slice (some ⟨go27,0,none⟩) x4_2.length co27) y689 := (by rw [hw,Ny689.out];exact HP38.1);clear HP38;have n0_ := Aside0.mk (Kd.R_over' (v := (.slice (some ⟨go27,0,none⟩) x4_2.length co27)) (by (with_reducible repeat (first|apply Kd.R_alloc|apply Kd.R_drewN|apply Kd.R_drew));exact HO_3.out) (Kd.R_typed HO_4.out) (by decide) hg);have n1_ := Aside0.mk (hp_);have n2_ := Aside0.mk (blk_grown (g := gb686) (o := .cells #[.int .i64 ((rd_T49 l0 x7_2).f0),.int .i64 ((rd_T49 l0 x7_2).f1)] 49 (0,0)) (by (with_reducible repeat (first|refine blk_drewN ?_ _|refine blk_drew ?_|refine blk_alloc ?_ _));exact BK686.out) hg (Kd.R_ne HO_4.out BK686.out (by decide)));have n3_ := Aside0.mk ((by rw [hw];exact below_set (HB.out) GB27.out : Below w.heap.size w w39));clear HO_3;clear HO_4;clear BK686;clear HB;have HO_3 := n0_;have HO_4 := n1_;have BK686 := n2_;have HB := n3_;clear n0_ n1_ n2_ n3_;clear hg hw hp_;have hcz40_0 : w39.cell? ⟨gb686,0,none⟩ = some (.int .i64 ((rd_T49 l0 x7_2).f0)) := (blk_cell BK686.out 0).trans rfl;have hcz40_1 : w39.cell? ⟨gb686,1,none⟩ = some (.int .i64 ((rd_T49 l0 x7_2).f1)) := (blk_cell BK686.out 1).trans rfl;have hfz40_0 := blk_frozen BK686.out 0;have hfz40_1 := blk_frozen BK686.out 1;have p690 : 0 ≤ (((rd_T49 l0 x7_2).f1) : Int) := of_decide_eq_true (by first|(with_reducible assumption)|assumption);have q690 : ((rd_T49 l0 x7_2).f1) < (y689.length : Int) := (by have h_ : (((rd_T49 l0 x7_2).f1) : Int) < ((x4_2.length : Int) : Int) := of_decide_eq_true (by first|(with_reducible assumption)|assumption);first|(have e_ := (Kd.R_reads' HO_4.out).1;omega)|simpa only [Ny689.out,List.length_set] using h_);have ql690 : ((((rd_T49 l0 x7_2).f1) : Int) < ((x4_2.length : Int) : Int)) = True := eq_true (of_decide_eq_true (by first|(with_reducible assumption)|assumption));obtain ⟨ad690,e690,hx690_0⟩ := Kd.at_int (Kd.R_reads' HO_4.out).2.2 ((rd_T49 l0 x7_2).f1) p690 q690;obtain rfl : (⟨go27,0,none⟩ : Addr) = ad690 := (by injection e690);(first|simp only [add_plain] at hx690_0|simp only [add_at] at hx690_0|simp only [Addr.add,Nat.zero_add] at hx690_0|skip);replace p690 := eq_true p690;replace q690 := eq_true q690)|((with_reducible refine gate_builtin (b := .append) (xs := #[.tmp 71,.tmp 73]) rfl ?_);at_builtin;refine Kd.R_append k49 (w0 := w) w.heap.size rfl (.tmp 71) (.tmp 73) 25 49 (.agg #[(.int .i64 0),(.int .i64 0)]) 16 rfl Try.underlying25 info49 rfl (by decide) (by omega) u3 x3_2 (⟨((rd_T49 l0 x7_2).f0),((rd_T49 l0 x7_2).f1)⟩ : S49) [.int .i64 ((rd_T49 l0 x7_2).f0),.int .i64 ((rd_T49 l0 x7_2).f1)] (fun k_ => k_ ≠ gb686) (fun _ => False) rfl rfl ?aP (fun _ hk => hk.elim) ?aF ?aO ?aB ?aS ?aL ?_;(case aP => exact k49_mkM _ _ _ (⟨((rd_T49 l0 x7_2).f0),((rd_T49 l0 x7_2).f1)⟩ : S49));(case aB => exact (by repeat (first|(with_reducible first|exact HB.out|apply below_alloc|apply pw_below_drewN|apply below_drew1|refine below_set ?_ GE686.out)|exact HB.out)));(case aF => exact (fun k_ hk => Kd.freshB (g := gb686) (o := .cells #[.int .i64 ((rd_T49 l0 x7_2).f0),.int .i64 ((rd_T49 l0 x7_2).f1)] 49 (0,0)) (by (with_reducible repeat (first|refine blk_drewN ?_ _|refine blk_drew ?_|refine blk_alloc ?_ _));exact BK686.out) k_ hk));(case aO => exact (by (with_reducible repeat (first|apply Kd.R_alloc|apply Kd.R_drewN|apply Kd.R_drew));exact HO_3.out));(case aS => exact (below_size (by repeat (first|(with_reducible first|exact HB.out|apply below_alloc|apply pw_below_drewN|apply below_drew1|refine below_set ?_ GE686.out)|exact HB.out))));(case aL => have := LMc36.out;omega);intro v696 w41 ho hb hg hat;rw [← Ny695.out] at ho;have n0_ := Aside0.mk (Kd.R_over' (by (with_reducible repeat (first|apply Kd.R_alloc|apply Kd.R_drewN|apply Kd.R_drew));exact HO_4.out) (Kd.R_typed (by (with_reducible repeat (first|apply Kd.R_alloc|apply Kd.R_drewN|apply Kd.R_drew));exact HO_3.out)) (by decide) hg);have n1_ := Aside0.mk (blk_grown (g := gb686) (o := .cells #[.int .i64 ((rd_T49 l0 x7_2).f0),.int .i64 ((rd_T49 l0 x7_2).f1)] 49 (0,0)) (by (with_reducible repeat (first|refine blk_drewN ?_ _|refine blk_drew ?_|refine blk_alloc ?_ _));exact BK686.out) hg (Kd.R_away HO_3.out (fun _ hk => hk)));have n2_ := Aside0.mk (hb);have n3_ := Aside0.mk (ho);clear HO_4;clear BK686;clear HB;clear HO_3;have HO_4 := n0_;have BK686 := n1_;have HB := n2_;have HO697 := n3_;clear n0_ n1_ n2_ n3_;clear ho hb hg hat))
                 go_roundg kj14
                 case measure => have := HK1.out;have := HK2.out;have := HJ14.out;omega
                 case rel => exact ⟨(y695),(y689),(wrap64 (x6_2 + 1)),(wrap64 (x7_2 + 1)),(by first|rfl|(simp;done)|(simp [*];done)),(by first|rfl|(simp;done)|(simp [*];done)),H',⟨by have := HK1.out;have := HK2.out;have := HJ14.out;omega⟩,⟨by (with_reducible repeat (first|apply Kd.R_alloc|apply Kd.R_drewN|apply Kd.R_drew));exact Kd.R_mono HO697.out (fun _ hk => trivial)⟩,⟨by (with_reducible repeat (first|apply Kd.R_alloc|apply Kd.R_drewN|apply Kd.R_drew));exact HO_4.out⟩,⟨by repeat (first|(with_reducible first|exact HB.out|apply below_alloc|apply pw_below_drewN|apply below_drew1|refine below_set ?_ GE686.out)|exact HB.out)⟩⟩
                ·rw [if_neg c36] at H
                 exact absurd H (by simp)
              ·rw [if_neg c28] at H
               have c28b0 : (((rd_T49 l0 x7_2).f0) == 15) = false := beq_eq_false_iff_ne.mpr c28
               have c28b1 : (((rd_T49 l0 x7_2).f0) != 15) = true := bne_iff_ne.mpr c28
               by_cases c42 : ((rd_T49 l0 x7_2).f0) = 16
               ·rw [if_pos c42] at H
                have c42b0 : (((rd_T49 l0 x7_2).f0) == 16) = true := beq_iff_eq.mpr c42
                have c42b1 : (((rd_T49 l0 x7_2).f0) != 16) = false := bne_eq_false_iff_eq.mpr c42
                clear c42
                by_cases c43 : (rd y689 ((rd_T49 l0 x7_2).f1)) ≥ 0
                ·rw [if_pos c43] at H
                 have c43b0 : decide (0 ≤ (rd y689 ((rd_T49 l0 x7_2).f1))) = true := decide_eq_true c43
                 clear c43
                 by_cases c44 : x3_2.length < 8796093022208
                 ·rw [if_pos c44] at H
                  have LMc44 := Aside0.mk c44
                  clear c44
                  obtain ⟨y700,hy700⟩ : ∃ y_ : List (S49),y_ = (x3_2 ++ [(⟨((rd_T49 l0 x7_2).f0),rd y689 ((rd_T49 l0 x7_2).f1)⟩ : S49)]) := ⟨_,rfl⟩
                  replace H : (spec_lean.l1 kj14 l0 y700 y689 (wrap64 (x6_2 + 1)) (wrap64 (x7_2 + 1))) = some r := by first|(rw [hy700];with_reducible exact H)|(have H2_ := (Option.bind_some _ _).symm.trans H;rw [hy700];with_reducible exact H2_)|(have H2_ := (Option.bind_some _ _).symm.trans H;with_reducible exact H2_)|with_reducible exact H|(rw [hy700];exact H)|exact H
                  have Ny700 := Aside0.mk hy700
                  clear hy700
                  have H' := Aside0.mk H
                  clear H
                  have hcz45_0 : wc.cell? ⟨gb686,0,none⟩ = some (.int .i64 ((rd_T49 l0 x7_2).f0)) := (blk_cell BK686.out 0).trans rfl
                  have hcz45_1 : wc.cell? ⟨gb686,1,none⟩ = some (.int .i64 ((rd_T49 l0 x7_2).f1)) := (blk_cell BK686.out 1).trans rfl
                  have hfz45_0 := blk_frozen BK686.out 0
                  have hfz45_1 := blk_frozen BK686.out 1
                  have p27 : 0 ≤ (((rd_T49 l0 x7_2).f1) : Int) := of_decide_eq_true (by first|(with_reducible assumption)|assumption)
                  have q27 : (((rd_T49 l0 x7_2).f1) : Int) < ((x4_2.length : Int) : Int) := of_decide_eq_true (by first|(with_reducible assumption)|assumption)
                  obtain ⟨go27,co27,eo27,gb27,gl27,cl27,HG27⟩ := Kd.R_form HO_4.out (by omega)
                  (first|cases eo27|(injection eo27 with ea_ en_ ec_;(first|subst ea_|(injection ea_ with ea_;subst ea_));subst ec_;clear en_))
                  have GB27 := Aside0.mk gb27
                  have GG27 := Aside0.mk HG27
                  clear gb27 gl27 HG27
                  obtain ⟨hx27_0,hf27_0⟩ := Kd.R_celln 0 HO_4.out (((rd_T49 l0 x7_2).f1) : Int) p27 q27
                  replace p27 := eq_true p27
                  replace q27 := eq_true q27
                  have HP46 := Kd.R_putg HO_4.out (((rd_T49 l0 x7_2).f1) : Int) x6_2
                  go_wp2_with (first|((with_reducible refine gate_store (t := 3) (p := 46) rfl ?_);refine store_event (t := 3) (p := 46) (v := ?vo_w47) (w1 := (wc.setCell ⟨go27,(((rd_T49 l0 x7_2).f1) : Int).toNat,none⟩ (.int .i64 x6_2))) ?hg ?ho ?hn ?hr ?_;(case ho => rfl);(case hg => rfl);(case hn => rfl);(case hr => first|(go_simp;done)|(go_simp;rfl));intro w47 hw;have hg : wc.grownBy w47 (some go27) := (by rw [hw];exact HP46.2);have hp_ : Kd.R (Kd.int .i64) 3 w47 w.heap.size (fun _ => True) (.slice (some ⟨go27,0,none⟩) x4_2.length co27) y689 := (by rw [hw,Ny689.out];exact HP46.1);clear HP46;have n0_ := Aside0.mk (Kd.R_over' (v := (.slice (some ⟨go27,0,none⟩) x4_2.length co27)) (by (with_reducible repeat (first|apply Kd.R_alloc|apply Kd.R_drewN|apply Kd.R_drew));exact HO_3.out) (Kd.R_typed HO_4.out) (by decide) hg);have n1_ := Aside0.mk (hp_);have n2_ := Aside0.mk (blk_grown (g := gb686) (o := .cells #[.int .i64 ((rd_T49 l0 x7_2).f0),.int .i64 ((rd_T49 l0 x7_2).f1)] 49 (0,0)) (by (with_reducible repeat (first|refine blk_drewN ?_ _|refine blk_drew ?_|refine blk_alloc ?_ _));exact BK686.out) hg (Kd.R_ne HO_4.out BK686.out (by decide)));have n3_ := Aside0.mk ((by rw [hw];exact below_set (HB.out) GB27.out : Below w.heap.size w w47));clear HO_3;clear HO_4;clear BK686;clear HB;have HO_3 := n0_;have HO_4 := n1_;have BK686 := n2_;have HB := n3_;clear n0_ n1_ n2_ n3_;clear hg hw hp_;have hcz48_0 : w47.cell? ⟨gb686,0,none⟩ = some (.int .i64 ((rd_T49 l0 x7_2).f0)) := (blk_cell BK686.out 0).trans rfl;have hcz48_1 : w47.cell? ⟨gb686,1,none⟩ = some (.int .i64 ((rd_T49 l0 x7_2).f1)) := (blk_cell BK686.out 1).trans rfl;have hfz48_0 := blk_frozen BK686.out 0;have hfz48_1 := blk_frozen BK686.out 1;have p698 : 0 ≤ (((rd_T49 l0 x7_2).f1) : Int) := of_decide_eq_true (by first|(with_reducible assumption)|assumption);have q698 : ((rd_T49 l0 x7_2).f1) < (y689.length : Int) := (by have h_ : (((rd_T49 l0 x7_2).f1) : Int) < ((x4_2.length : Int) : Int) := of_decide_eq_true (by first|(with_reducible assumption)|assumption);first|(have e_ := (Kd.R_reads' HO_4.out).1;omega)|simpa only [Ny689.out,List.length_set] using h_);have ql698 : ((((rd_T49 l0 x7_2).f1) : Int) < ((x4_2.length : Int) : Int)) = True := eq_true (of_decide_eq_true (by first|(with_reducible assumption)|assumption));obtain ⟨ad698,e698,hx698_0⟩ := Kd.at_int (Kd.R_reads' HO_4.out).2.2 ((rd_T49 l0 x7_2).f1) p698 q698;obtain rfl : (⟨go27,0,none⟩ : Addr) = ad698 := (by injection e698);(first|simp only [add_plain] at hx698_0|simp only [add_at] at hx698_0|simp only [Addr.add,Nat.zero_add] at hx698_0|skip);replace p698 := eq_true p698;replace q698 := eq_true q698;have p699 : 0 ≤ (((rd_T49 l0 x7_2).f1) : Int) := of_decide_eq_true (by first|(with_reducible assumption)|assumption);have q699 : ((rd_T49 l0 x7_2).f1) < (y689.length : Int) := (by have h_ : (((rd_T49 l0 x7_2).f1) : Int) < ((x4_2.length : Int) : Int) := of_decide_eq_true (by first|(with_reducible assumption)|assumption);first|(have e_ := (Kd.R_reads' HO_4.out).1;omega)|simpa only [Ny689.out,List.length_set] using h_);have ql699 : ((((rd_T49 l0 x7_2).f1) : Int) < ((x4_2.length : Int) : Int)) = True := eq_true (of_decide_eq_true (by first|(with_reducible assumption)|assumption));obtain ⟨ad699,e699,hx699_0⟩ := Kd.at_int (Kd.R_reads' HO_4.out).2.2 ((rd_T49 l0 x7_2).f1) p699 q699;obtain rfl : (⟨go27,0,none⟩ : Addr) = ad699 := (by injection e699);(first|simp only [add_plain] at hx699_0|simp only [add_at] at hx699_0|simp only [Addr.add,Nat.zero_add] at hx699_0|skip);replace p699 := eq_true p699;replace q699 := eq_true q699)|((with_reducible refine gate_builtin (b := .append) (xs := #[.tmp 71,.tmp 73]) rfl ?_);at_builtin;refine Kd.R_append k49 (w0 := w) w.heap.size rfl (.tmp 71) (.tmp 73) 25 49 (.agg #[(.int .i64 0),(.int .i64 0)]) 16 rfl Try.underlying25 info49 rfl (by decide) (by omega) u3 x3_2 (⟨((rd_T49 l0 x7_2).f0),rd y689 ((rd_T49 l0 x7_2).f1)⟩ : S49) [.int .i64 ((rd_T49 l0 x7_2).f0),.int .i64 (rd y689 ((rd_T49 l0 x7_2).f1))] (fun k_ => k_ ≠ gb686) (fun _ => False) rfl (by first|(go_simp;done)|(go_simp;rfl)) ?aP (fun _ hk => hk.elim) ?aF ?aO ?aB ?aS ?aL ?_;(case aP => exact k49_mkM _ _ _ (⟨((rd_T49 l0 x7_2).f0),rd y689 ((rd_T49 l0 x7_2).f1)⟩ : S49));(case aB => exact (by repeat (first|(with_reducible first|exact HB.out|apply below_alloc|apply pw_below_drewN|apply below_drew1|refine below_set ?_ GE686.out)|exact HB.out)));(case aF => exact (fun k_ hk => Kd.freshB (g := gb686) (o := .cells #[.int .i64 ((rd_T49 l0 x7_2).f0),.int .i64 (rd y689 ((rd_T49 l0 x7_2).f1))] 49 (0,0)) (by (with_reducible repeat (first|refine blk_drewN ?_ _|refine blk_drew ?_|refine blk_alloc ?_ _));refine blk_put (cs := #[.int .i64 ((rd_T49 l0 x7_2).f0),.int .i64 ((rd_T49 l0 x7_2).f1)]) ?_ 1 _ rfl;(with_reducible repeat (first|refine blk_drewN ?_ _|refine blk_drew ?_|refine blk_alloc ?_ _));exact BK686.out) k_ hk));(case aO => exact (by (with_reducible repeat (first|apply Kd.R_alloc|apply Kd.R_drewN|apply Kd.R_drew));exact Kd.R_mono (Kd.R_far (p := ⟨gb686,1,none⟩) (Kd.R_mono HO_3.out (fun k_ hk => (⟨hk,hk⟩ : _ ∧ k_ ≠ gb686))) (fun _ hk => hk.2) (.int .i64 (rd y689 ((rd_T49 l0 x7_2).f1)))) (fun _ hk => hk.1)));(case aS => exact (below_size (by repeat (first|(with_reducible first|exact HB.out|apply below_alloc|apply pw_below_drewN|apply below_drew1|refine below_set ?_ GE686.out)|exact HB.out))));(case aL => have := LMc44.out;omega);intro v701 w49 ho hb hg hat;rw [← Ny700.out] at ho;have n0_ := Aside0.mk (Kd.R_over' (by (with_reducible repeat (first|apply Kd.R_alloc|apply Kd.R_drewN|apply Kd.R_drew));exact (Kd.R_mono (Kd.R_far (p := ⟨gb686,1,none⟩) (Kd.R_types HO_4.out BK686.out (by decide)) (fun _ hk => hk.2) (.int .i64 (rd y689 ((rd_T49 l0 x7_2).f1)))) (fun _ h_ => h_.1))) (Kd.R_typed (by (with_reducible repeat (first|apply Kd.R_alloc|apply Kd.R_drewN|apply Kd.R_drew));exact (Kd.R_mono (Kd.R_far (p := ⟨gb686,1,none⟩) (Kd.R_mono HO_3.out (fun k_ hk => (⟨hk,hk⟩ : _ ∧ k_ ≠ gb686))) (fun _ hk => hk.2) (.int .i64 (rd y689 ((rd_T49 l0 x7_2).f1)))) (fun _ h_ => h_.1)))) (by decide) hg);have n1_ := Aside0.mk (blk_grown (g := gb686) (o := .cells #[.int .i64 ((rd_T49 l0 x7_2).f0),.int .i64 (rd y689 ((rd_T49 l0 x7_2).f1))] 49 (0,0)) (by (with_reducible repeat (first|refine blk_drewN ?_ _|refine blk_drew ?_|refine blk_alloc ?_ _));refine blk_put (cs := #[.int .i64 ((rd_T49 l0 x7_2).f0),.int .i64 ((rd_T49 l0 x7_2).f1)]) ?_ 1 _ rfl;(with_reducible repeat (first|refine blk_drewN ?_ _|refine blk_drew ?_|refine blk_alloc ?_ _));exact BK686.out) hg (Kd.R_away HO_3.out (fun _ hk => hk)));have n2_ := Aside0.mk (hb);have n3_ := Aside0.mk (ho);clear HO_4;clear BK686;clear HB;clear HO_3;have HO_4 := n0_;have BK686 := n1_;have HB := n2_;have HO702 := n3_;clear n0_ n1_ n2_ n3_;clear ho hb hg hat))
                  go_roundg kj14
                  case measure => have := HK1.out;have := HK2.out;have := HJ14.out;omega
                  case rel => exact ⟨(y700),(y689),(wrap64 (x6_2 + 1)),(wrap64 (x7_2 + 1)),(by first|rfl|(simp;done)|(simp [*];done)),(by first|rfl|(simp;done)|(simp [*];done)),H',⟨by have := HK1.out;have := HK2.out;have := HJ14.out;omega⟩,⟨by (with_reducible repeat (first|apply Kd.R_alloc|apply Kd.R_drewN|apply Kd.R_drew));exact Kd.R_mono HO702.out (fun _ hk => trivial)⟩,⟨by (with_reducible repeat (first|apply Kd.R_alloc|apply Kd.R_drewN|apply Kd.R_drew));exact HO_4.out⟩,⟨by repeat (first|(with_reducible first|exact HB.out|apply below_alloc|apply pw_below_drewN|apply below_drew1|refine below_set ?_ GE686.out)|exact HB.out)⟩⟩
                 ·rw [if_neg c44] at H
                  exact absurd H (by simp)
                ·rw [if_neg c43] at H
                 have c43b0 : decide (0 ≤ (rd y689 ((rd_T49 l0 x7_2).f1))) = false := decide_eq_false c43
                 clear c43
                 by_cases c50 : x3_2.length < 8796093022208
                 ·rw [if_pos c50] at H
                  have LMc50 := Aside0.mk c50
                  clear c50
                  obtain ⟨y703,hy703⟩ : ∃ y_ : List (S49),y_ = (x3_2 ++ [(⟨((rd_T49 l0 x7_2).f0),((rd_T49 l0 x7_2).f1)⟩ : S49)]) := ⟨_,rfl⟩
                  replace H : (spec_lean.l1 kj14 l0 y703 y689 (wrap64 (x6_2 + 1)) (wrap64 (x7_2 + 1))) = some r := by first|(rw [hy703];with_reducible exact H)|(have H2_ := (Option.bind_some _ _).symm.trans H;rw [hy703];with_reducible exact H2_)|(have H2_ := (Option.bind_some _ _).symm.trans H;with_reducible exact H2_)|with_reducible exact H|(rw [hy703];exact H)|exact H
                  have Ny703 := Aside0.mk hy703
                  clear hy703
                  have H' := Aside0.mk H
                  clear H
                  have hcz51_0 : wc.cell? ⟨gb686,0,none⟩ = some (.int .i64 ((rd_T49 l0 x7_2).f0)) := (blk_cell BK686.out 0).trans rfl
                  have hcz51_1 : wc.cell? ⟨gb686,1,none⟩ = some (.int .i64 ((rd_T49 l0 x7_2).f1)) := (blk_cell BK686.out 1).trans rfl
                  have hfz51_0 := blk_frozen BK686.out 0
                  have hfz51_1 := blk_frozen BK686.out 1
                  have p27 : 0 ≤ (((rd_T49 l0 x7_2).f1) : Int) := of_decide_eq_true (by first|(with_reducible assumption)|assumption)
                  have q27 : (((rd_T49 l0 x7_2).f1) : Int) < ((x4_2.length : Int) : Int) := of_decide_eq_true (by first|(with_reducible assumption)|assumption)
                  obtain ⟨go27,co27,eo27,gb27,gl27,cl27,HG27⟩ := Kd.R_form HO_4.out (by omega)
                  (first|cases eo27|(injection eo27 with ea_ en_ ec_;(first|subst ea_|(injection ea_ with ea_;subst ea_));subst ec_;clear en_))
                  have GB27 := Aside0.mk gb27
                  have GG27 := Aside0.mk HG27
                  clear gb27 gl27 HG27
                  obtain ⟨hx27_0,hf27_0⟩ := Kd.R_celln 0 HO_4.out (((rd_T49 l0 x7_2).f1) : Int) p27 q27
                  replace p27 := eq_true p27
                  replace q27 := eq_true q27
                  have HP52 := Kd.R_putg HO_4.out (((rd_T49 l0 x7_2).f1) : Int) x6_2
                  go_wp2_with (first|((with_reducible refine gate_store (t := 3) (p := 46) rfl ?_);refine store_event (t := 3) (p := 46) (v := ?vo_w53) (w1 := (wc.setCell ⟨go27,(((rd_T49 l0 x7_2).f1) : Int).toNat,none⟩ (.int .i64 x6_2))) ?hg ?ho ?hn ?hr ?_;(case ho => rfl);(case hg => rfl);(case hn => rfl);(case hr => first|(go_simp;done)|(go_simp;rfl));intro w53 hw;have hg : wc.grownBy w53 (some go27) := (by rw [hw];exact HP52.2);have hp_ : Kd.R (Kd.int .i64) 3 w53 w.heap.size (fun _ => True) (.slice (some ⟨go27,0,none⟩) x4_2.length co27) y689 := (by rw [hw,Ny689.out];exact HP52.1);clear HP52;have n0_ := Aside0.mk (Kd.R_over' (v := (.slice (some ⟨go27,0,none⟩) x4_2.length co27)) (by (with_reducible repeat (first|apply Kd.R_alloc|apply Kd.R_drewN|apply Kd.R_drew));exact HO_3.out) (Kd.R_typed HO_4.out) (by decide) hg);have n1_ := Aside0.mk (hp_);have n2_ := Aside0.mk (blk_grown (g := gb686) (o := .cells #[.int .i64 ((rd_T49 l0 x7_2).f0),.int .i64 ((rd_T49 l0 x7_2).f1)] 49 (0,0)) (by (with_reducible repeat (first|refine blk_drewN ?_ _|refine blk_drew ?_|refine blk_alloc ?_ _));exact BK686.out) hg (Kd.R_ne HO_4.out BK686.out (by decide)));have n3_ := Aside0.mk ((by rw [hw];exact below_set (HB.out) GB27.out : Below w.heap.size w w53));clear HO_3;clear HO_4;clear BK686;clear HB;have HO_3 := n0_;have HO_4 := n1_;have BK686 := n2_;have HB := n3_;clear n0_ n1_ n2_ n3_;clear hg hw hp_;have hcz54_0 : w53.cell? ⟨gb686,0,none⟩ = some (.int .i64 ((rd_T49 l0 x7_2).f0)) := (blk_cell BK686.out 0).trans rfl;have hcz54_1 : w53.cell? ⟨gb686,1,none⟩ = some (.int .i64 ((rd_T49 l0 x7_2).f1)) := (blk_cell BK686.out 1).trans rfl;have hfz54_0 := blk_frozen BK686.out 0;have hfz54_1 := blk_frozen BK686.out 1;have p698 : 0 ≤ (((rd_T49 l0 x7_2).f1) : Int) := of_decide_eq_true (by first|(with_reducible assumption)|assumption);have q698 : ((rd_T49 l0 x7_2).f1) < (y689.length : Int) := (by have h_ : (((rd_T49 l0 x7_2).f1) : Int) < ((x4_2.length : Int) : Int) := of_decide_eq_true (by first|(with_reducible assumption)|assumption);first|(have e_ := (Kd.R_reads' HO_4.out).1;omega)|simpa only [Ny689.out,List.length_set] using h_);have ql698 : ((((rd_T49 l0 x7_2).f1) : Int) < ((x4_2.length : Int) : Int)) = True := eq_true (of_decide_eq_true (by first|(with_reducible assumption)|assumption));obtain ⟨ad698,e698,hx698_0⟩ := Kd.at_int (Kd.R_reads' HO_4.out).2.2 ((rd_T49 l0 x7_2).f1) p698 q698;obtain rfl : (⟨go27,0,none⟩ : Addr) = ad698 := (by injection e698);(first|simp only [add_plain] at hx698_0|simp only [add_at] at hx698_0|simp only [Addr.add,Nat.zero_add] at hx698_0|skip);replace p698 := eq_true p698;replace q698 := eq_true q698)|((with_reducible refine gate_builtin (b := .append) (xs := #[.tmp 71,.tmp 73]) rfl ?_);at_builtin;refine Kd.R_append k49 (w0 := w) w.heap.size rfl (.tmp 71) (.tmp 73) 25 49 (.agg #[(.int .i64 0),(.int .i64 0)]) 16 rfl Try.underlying25 info49 rfl (by decide) (by omega) u3 x3_2 (⟨((rd_T49 l0 x7_2).f0),((rd_T49 l0 x7_2).f1)⟩ : S49) [.int .i64 ((rd_T49 l0 x7_2).f0),.int .i64 ((rd_T49 l0 x7_2).f1)] (fun k_ => k_ ≠ gb686) (fun _ => False) rfl rfl ?aP (fun _ hk => hk.elim) ?aF ?aO ?aB ?aS ?aL ?_;(case aP => exact k49_mkM _ _ _ (⟨((rd_T49 l0 x7_2).f0),((rd_T49 l0 x7_2).f1)⟩ : S49));(case aB => exact (by repeat (first|(with_reducible first|exact HB.out|apply below_alloc|apply pw_below_drewN|apply below_drew1|refine below_set ?_ GE686.out)|exact HB.out)));(case aF => exact (fun k_ hk => Kd.freshB (g := gb686) (o := .cells #[.int .i64 ((rd_T49 l0 x7_2).f0),.int .i64 ((rd_T49 l0 x7_2).f1)] 49 (0,0)) (by (with_reducible repeat (first|refine blk_drewN ?_ _|refine blk_drew ?_|refine blk_alloc ?_ _));exact BK686.out) k_ hk));(case aO => exact (by (with_reducible repeat (first|apply Kd.R_alloc|apply Kd.R_drewN|apply Kd.R_drew));exact HO_3.out));(case aS => exact (below_size (by repeat (first|(with_reducible first|exact HB.out|apply below_alloc|apply pw_below_drewN|apply below_drew1|refine below_set ?_ GE686.out)|exact HB.out))));(case aL => have := LMc50.out;omega);intro v704 w55 ho hb hg hat;rw [← Ny703.out] at ho;have n0_ := Aside0.mk (Kd.R_over' (by (with_reducible repeat (first|apply Kd.R_alloc|apply Kd.R_drewN|apply Kd.R_drew));exact HO_4.out) (Kd.R_typed (by (with_reducible repeat (first|apply Kd.R_alloc|apply Kd.R_drewN|apply Kd.R_drew));exact HO_3.out)) (by decide) hg);have n1_ := Aside0.mk (blk_grown (g := gb686) (o := .cells #[.int .i64 ((rd_T49 l0 x7_2).f0),.int .i64 ((rd_T49 l0 x7_2).f1)] 49 (0,0)) (by (with_reducible repeat (first|refine blk_drewN ?_ _|refine blk_drew ?_|refine blk_alloc ?_ _));exact BK686.out) hg (Kd.R_away HO_3.out (fun _ hk => hk)));have n2_ := Aside0.mk (hb);have n3_ := Aside0.mk (ho);clear HO_4;clear BK686;clear HB;clear HO_3;have HO_4 := n0_;have BK686 := n1_;have HB := n2_;have HO705 := n3_;clear n0_ n1_ n2_ n3_;clear ho hb hg hat))
                  go_roundg kj14
                  case measure => have := HK1.out;have := HK2.out;have := HJ14.out;omega
                  case rel => exact ⟨(y703),(y689),(wrap64 (x6_2 + 1)),(wrap64 (x7_2 + 1)),(by first|rfl|(simp;done)|(simp [*];done)),(by first|rfl|(simp;done)|(simp [*];done)),H',⟨by have := HK1.out;have := HK2.out;have := HJ14.out;omega⟩,⟨by (with_reducible repeat (first|apply Kd.R_alloc|apply Kd.R_drewN|apply Kd.R_drew));exact Kd.R_mono HO705.out (fun _ hk => trivial)⟩,⟨by (with_reducible repeat (first|apply Kd.R_alloc|apply Kd.R_drewN|apply Kd.R_drew));exact HO_4.out⟩,⟨by repeat (first|(with_reducible first|exact HB.out|apply below_alloc|apply pw_below_drewN|apply below_drew1|refine below_set ?_ GE686.out)|exact HB.out)⟩⟩
                 ·rw [if_neg c50] at H
                  exact absurd H (by simp)
               ·rw [if_neg c42] at H
                have c42b0 : (((rd_T49 l0 x7_2).f0) == 16) = false := beq_eq_false_iff_ne.mpr c42
                have c42b1 : (((rd_T49 l0 x7_2).f0) != 16) = true := bne_iff_ne.mpr c42
                by_cases c56 : x3_2.length < 8796093022208
                ·rw [if_pos c56] at H
                 have LMc56 := Aside0.mk c56
                 clear c56
                 obtain ⟨y706,hy706⟩ : ∃ y_ : List (S49),y_ = (x3_2 ++ [(⟨((rd_T49 l0 x7_2).f0),((rd_T49 l0 x7_2).f1)⟩ : S49)]) := ⟨_,rfl⟩
                 replace H : (spec_lean.l1 kj14 l0 y706 y689 (wrap64 (x6_2 + 1)) (wrap64 (x7_2 + 1))) = some r := by first|(rw [hy706];with_reducible exact H)|(have H2_ := (Option.bind_some _ _).symm.trans H;rw [hy706];with_reducible exact H2_)|(have H2_ := (Option.bind_some _ _).symm.trans H;with_reducible exact H2_)|with_reducible exact H|(rw [hy706];exact H)|exact H
                 have Ny706 := Aside0.mk hy706
                 clear hy706
                 have H' := Aside0.mk H
                 clear H
                 have hcz57_0 : wc.cell? ⟨gb686,0,none⟩ = some (.int .i64 ((rd_T49 l0 x7_2).f0)) := (blk_cell BK686.out 0).trans rfl
                 have hcz57_1 : wc.cell? ⟨gb686,1,none⟩ = some (.int .i64 ((rd_T49 l0 x7_2).f1)) := (blk_cell BK686.out 1).trans rfl
                 have hfz57_0 := blk_frozen BK686.out 0
                 have hfz57_1 := blk_frozen BK686.out 1
                 have p27 : 0 ≤ (((rd_T49 l0 x7_2).f1) : Int) := of_decide_eq_true (by first|(with_reducible assumption)|assumption)
                 have q27 : (((rd_T49 l0 x7_2).f1) : Int) < ((x4_2.length : Int) : Int) := of_decide_eq_true (by first|(with_reducible assumption)|assumption)
                 obtain ⟨go27,co27,eo27,gb27,gl27,cl27,HG27⟩ := Kd.R_form HO_4.out (by omega)
                 (first|cases eo27|(injection eo27 with ea_ en_ ec_;(first|subst ea_|(injection ea_ with ea_;subst ea_));subst ec_;clear en_))
                 have GB27 := Aside0.mk gb27
                 have GG27 := Aside0.mk HG27
                 clear gb27 gl27 HG27
                 obtain ⟨hx27_0,hf27_0⟩ := Kd.R_celln 0 HO_4.out (((rd_T49 l0 x7_2).f1) : Int) p27 q27
                 replace p27 := eq_true p27
                 replace q27 := eq_true q27
                 have HP58 := Kd.R_putg HO_4.out (((rd_T49 l0 x7_2).f1) : Int) x6_2
                 go_wp2_with (first|((with_reducible refine gate_store (t := 3) (p := 46) rfl ?_);refine store_event (t := 3) (p := 46) (v := ?vo_w59) (w1 := (wc.setCell ⟨go27,(((rd_T49 l0 x7_2).f1) : Int).toNat,none⟩ (.int .i64 x6_2))) ?hg ?ho ?hn ?hr ?_;(case ho => rfl);(case hg => rfl);(case hn => rfl);(case hr => first|(go_simp;done)|(go_simp;rfl));intro w59 hw;have hg : wc.grownBy w59 (some go27) := (by rw [hw];exact HP58.2);have hp_ : Kd.R (Kd.int .i64) 3 w59 w.heap.size (fun _ => True) (.slice (some ⟨go27,0,none⟩) x4_2.length co27) y689 := (by rw [hw,Ny689.out];exact HP58.1);clear HP58;have n0_ := Aside0.mk (Kd.R_over' (v := (.slice (some ⟨go27,0,none⟩) x4_2.length co27)) (by (with_reducible repeat (first|apply Kd.R_alloc|apply Kd.R_drewN|apply Kd.R_drew));exact HO_3.out) (Kd.R_typed HO_4.out) (by decide) hg);have n1_ := Aside0.mk (hp_);have n2_ := Aside0.mk (blk_grown (g := gb686) (o := .cells #[.int .i64 ((rd_T49 l0 x7_2).f0),.int .i64 ((rd_T49 l0 x7_2).f1)] 49 (0,0)) (by (with_reducible repeat (first|refine blk_drewN ?_ _|refine blk_drew ?_|refine blk_alloc ?_ _));exact BK686.out) hg (Kd.R_ne HO_4.out BK686.out (by decide)));have n3_ := Aside0.mk ((by rw [hw];exact below_set (HB.out) GB27.out : Below w.heap.size w w59));clear HO_3;clear HO_4;clear BK686;clear HB;have HO_3 := n0_;have HO_4 := n1_;have BK686 := n2_;have HB := n3_;clear n0_ n1_ n2_ n3_;clear hg hw hp_;have hcz60_0 : w59.cell? ⟨gb686,0,none⟩ = some (.int .i64 ((rd_T49 l0 x7_2).f0)) := (blk_cell BK686.out 0).trans rfl;have hcz60_1 : w59.cell? ⟨gb686,1,none⟩ = some (.int .i64 ((rd_T49 l0 x7_2).f1)) := (blk_cell BK686.out 1).trans rfl;have hfz60_0 := blk_frozen BK686.out 0;have hfz60_1 := blk_frozen BK686.out 1)|((with_reducible refine gate_builtin (b := .append) (xs := #[.tmp 71,.tmp 73]) rfl ?_);at_builtin;refine Kd.R_append k49 (w0 := w) w.heap.size rfl (.tmp 71) (.tmp 73) 25 49 (.agg #[(.int .i64 0),(.int .i64 0)]) 16 rfl Try.underlying25 info49 rfl (by decide) (by omega) u3 x3_2 (⟨((rd_T49 l0 x7_2).f0),((rd_T49 l0 x7_2).f1)⟩ : S49) [.int .i64 ((rd_T49 l0 x7_2).f0),.int .i64 ((rd_T49 l0 x7_2).f1)] (fun k_ => k_ ≠ gb686) (fun _ => False) rfl rfl ?aP (fun _ hk => hk.elim) ?aF ?aO ?aB ?aS ?aL ?_;(case aP => exact k49_mkM _ _ _ (⟨((rd_T49 l0 x7_2).f0),((rd_T49 l0 x7_2).f1)⟩ : S49));(case aB => exact (by repeat (first|(with_reducible first|exact HB.out|apply below_alloc|apply pw_below_drewN|apply below_drew1|refine below_set ?_ GE686.out)|exact HB.out)));(case aF => exact (fun k_ hk => Kd.freshB (g := gb686) (o := .cells #[.int .i64 ((rd_T49 l0 x7_2).f0),.int .i64 ((rd_T49 l0 x7_2).f1)] 49 (0,0)) (by (with_reducible repeat (first|refine blk_drewN ?_ _|refine blk_drew ?_|refine blk_alloc ?_ _));exact BK686.out) k_ hk));(case aO => exact (by (with_reducible repeat (first|apply Kd.R_alloc|apply Kd.R_drewN|apply Kd.R_drew));exact HO_3.out));(case aS => exact (below_size (by repeat (first|(with_reducible first|exact HB.out|apply below_alloc|apply pw_below_drewN|apply below_drew1|refine below_set ?_ GE686.out)|exact HB.out))));(case aL => have := LMc56.out;omega);intro v707 w61 ho hb hg hat;rw [← Ny706.out] at ho;have n0_ := Aside0.mk (Kd.R_over' (by (with_reducible repeat (first|apply Kd.R_alloc|apply Kd.R_drewN|apply Kd.R_drew));exact HO_4.out) (Kd.R_typed (by (with_reducible repeat (first|apply Kd.R_alloc|apply Kd.R_drewN|apply Kd.R_drew));exact HO_3.out)) (by decide) hg);have n1_ := Aside0.mk (blk_grown (g := gb686) (o := .cells #[.int .i64 ((rd_T49 l0 x7_2).f0),.int .i64 ((rd_T49 l0 x7_2).f1)] 49 (0,0)) (by (with_reducible repeat (first|refine blk_drewN ?_ _|refine blk_drew ?_|refine blk_alloc ?_ _));exact BK686.out) hg (Kd.R_away HO_3.out (fun _ hk => hk)));have n2_ := Aside0.mk (hb);have n3_ := Aside0.mk (ho);clear HO_4;clear BK686;clear HB;clear HO_3;have HO_4 := n0_;have BK686 := n1_;have HB := n2_;have HO708 := n3_;clear n0_ n1_ n2_ n3_;clear ho hb hg hat))
                 go_roundg kj14
                 case measure => have := HK1.out;have := HK2.out;have := HJ14.out;omega
                 case rel => exact ⟨(y706),(y689),(wrap64 (x6_2 + 1)),(wrap64 (x7_2 + 1)),(by first|rfl|(simp;done)|(simp [*];done)),(by first|rfl|(simp;done)|(simp [*];done)),H',⟨by have := HK1.out;have := HK2.out;have := HJ14.out;omega⟩,⟨by (with_reducible repeat (first|apply Kd.R_alloc|apply Kd.R_drewN|apply Kd.R_drew));exact Kd.R_mono HO708.out (fun _ hk => trivial)⟩,⟨by (with_reducible repeat (first|apply Kd.R_alloc|apply Kd.R_drewN|apply Kd.R_drew));exact HO_4.out⟩,⟨by repeat (first|(with_reducible first|exact HB.out|apply below_alloc|apply pw_below_drewN|apply below_drew1|refine below_set ?_ GE686.out)|exact HB.out)⟩⟩
                ·rw [if_neg c56] at H
                 exact absurd H (by simp)
             ·rw [if_neg c26] at H
              exact absurd H (by simp)
            ·rw [if_neg c25] at H
             exact absurd H (by simp)
           ·replace c24 := Bool.eq_false_iff.mpr c24
            subst c24
            have H1 : (if ((rd_T49 l0 x7_2).f0) = 15 then (if 0 ≤ ((rd_T49 l0 x7_2).f1) then (if ((rd_T49 l0 x7_2).f1) < (x4_2.length : Int) then (if (rd x4_2 ((rd_T49 l0 x7_2).f1)) ≥ 0 then (if x3_2.length < 8796093022208 then (spec_lean.l1 kj14 l0 (x3_2 ++ [(⟨((rd_T49 l0 x7_2).f0),rd x4_2 ((rd_T49 l0 x7_2).f1)⟩ : S49)]) x4_2 x6_2 (wrap64 (x7_2 + 1))) else (none)) else (if x3_2.length < 8796093022208 then (spec_lean.l1 kj14 l0 (x3_2 ++ [(⟨((rd_T49 l0 x7_2).f0),((rd_T49 l0 x7_2).f1)⟩ : S49)]) x4_2 x6_2 (wrap64 (x7_2 + 1))) else (none))) else (none)) else (none)) else (if ((rd_T49 l0 x7_2).f0) = 16 then (if 0 ≤ ((rd_T49 l0 x7_2).f1) then (if ((rd_T49 l0 x7_2).f1) < (x4_2.length : Int) then (if (rd x4_2 ((rd_T49 l0 x7_2).f1)) ≥ 0 then (if x3_2.length < 8796093022208 then (spec_lean.l1 kj14 l0 (x3_2 ++ [(⟨((rd_T49 l0 x7_2).f0),rd x4_2 ((rd_T49 l0 x7_2).f1)⟩ : S49)]) x4_2 x6_2 (wrap64 (x7_2 + 1))) else (none)) else (if x3_2.length < 8796093022208 then (spec_lean.l1 kj14 l0 (x3_2 ++ [(⟨((rd_T49 l0 x7_2).f0),((rd_T49 l0 x7_2).f1)⟩ : S49)]) x4_2 x6_2 (wrap64 (x7_2 + 1))) else (none))) else (none)) else (none)) else (if x3_2.length < 8796093022208 then (spec_lean.l1 kj14 l0 (x3_2 ++ [(⟨((rd_T49 l0 x7_2).f0),((rd_T49 l0 x7_2).f1)⟩ : S49)]) x4_2 x6_2 (wrap64 (x7_2 + 1))) else (none)))) = some r := by rw [if_neg (show ¬ (false = true) by decide)] at H;exact H
            clear H
            have H := H1
            clear H1
            by_cases c62 : ((rd_T49 l0 x7_2).f0) = 15
            ·rw [if_pos c62] at H
             have c62b0 : (((rd_T49 l0 x7_2).f0) == 15) = true := beq_iff_eq.mpr c62
             have c62b1 : (((rd_T49 l0 x7_2).f0) != 15) = false := bne_eq_false_iff_eq.mpr c62
             clear c62
             by_cases c63 : 0 ≤ ((rd_T49 l0 x7_2).f1)
             ·rw [if_pos c63] at H
              have c63b0 : decide (0 ≤ ((rd_T49 l0 x7_2).f1)) = true := decide_eq_true c63
              clear c63
              by_cases c64 : ((rd_T49 l0 x7_2).f1) < (x4_2.length : Int)
              ·rw [if_pos c64] at H
               have c64b0 : decide (((rd_T49 l0 x7_2).f1) < (x4_2.length : Int)) = true := decide_eq_true c64
               clear c64
               by_cases c65 : (rd x4_2 ((rd_T49 l0 x7_2).f1)) ≥ 0
               ·rw [if_pos c65] at H
                have c65b0 : decide (0 ≤ (rd x4_2 ((rd_T49 l0 x7_2).f1))) = true := decide_eq_true c65
                clear c65
                by_cases c66 : x3_2.length < 8796093022208
                ·rw [if_pos c66] at H
                 have LMc66 := Aside0.mk c66
                 clear c66
                 obtain ⟨y711,hy711⟩ : ∃ y_ : List (S49),y_ = (x3_2 ++ [(⟨((rd_T49 l0 x7_2).f0),rd x4_2 ((rd_T49 l0 x7_2).f1)⟩ : S49)]) := ⟨_,rfl⟩
                 replace H : (spec_lean.l1 kj14 l0 y711 x4_2 x6_2 (wrap64 (x7_2 + 1))) = some r := by first|(rw [hy711];with_reducible exact H)|(have H2_ := (Option.bind_some _ _).symm.trans H;rw [hy711];with_reducible exact H2_)|(have H2_ := (Option.bind_some _ _).symm.trans H;with_reducible exact H2_)|with_reducible exact H|(rw [hy711];exact H)|exact H
                 have Ny711 := Aside0.mk hy711
                 clear hy711
                 have H' := Aside0.mk H
                 clear H
                 have hcz67_0 : wc.cell? ⟨gb686,0,none⟩ = some (.int .i64 ((rd_T49 l0 x7_2).f0)) := (blk_cell BK686.out 0).trans rfl
                 have hcz67_1 : wc.cell? ⟨gb686,1,none⟩ = some (.int .i64 ((rd_T49 l0 x7_2).f1)) := (blk_cell BK686.out 1).trans rfl
                 have hfz67_0 := blk_frozen BK686.out 0
                 have hfz67_1 := blk_frozen BK686.out 1
                 obtain ⟨Ao68,co68,eo68⟩ := Kd.R_slice HO_4.out
                 subst eo68
                 have p709 : 0 ≤ (((rd_T49 l0 x7_2).f1) : Int) := of_decide_eq_true (by first|(with_reducible assumption)|assumption)
                 have q709 : ((rd_T49 l0 x7_2).f1) < (x4_2.length : Int) := of_decide_eq_true (by first|(with_reducible assumption)|assumption)
                 obtain ⟨ad709,e709,hx709_0⟩ := Kd.at_int (Kd.R_reads' HO_4.out).2.2 ((rd_T49 l0 x7_2).f1) p709 q709
                 cases e709
                 replace p709 := eq_true p709
                 replace q709 := eq_true q709
                 have p710 : 0 ≤ (((rd_T49 l0 x7_2).f1) : Int) := of_decide_eq_true (by first|(with_reducible assumption)|assumption)
                 have q710 : ((rd_T49 l0 x7_2).f1) < (x4_2.length : Int) := of_decide_eq_true (by first|(with_reducible assumption)|assumption)
                 obtain ⟨ad710,e710,hx710_0⟩ := Kd.at_int (Kd.R_reads' HO_4.out).2.2 ((rd_T49 l0 x7_2).f1) p710 q710
                 obtain rfl : ad709 = ad710 := (by injection e710)
                 replace p710 := eq_true p710
                 replace q710 := eq_true q710
                 go_wp2_with (first|((with_reducible refine gate_builtin (b := .append) (xs := #[.tmp 71,.tmp 73]) rfl ?_);at_builtin;refine Kd.R_append k49 (w0 := w) w.heap.size rfl (.tmp 71) (.tmp 73) 25 49 (.agg #[(.int .i64 0),(.int .i64 0)]) 16 rfl Try.underlying25 info49 rfl (by decide) (by omega) u3 x3_2 (⟨((rd_T49 l0 x7_2).f0),rd x4_2 ((rd_T49 l0 x7_2).f1)⟩ : S49) [.int .i64 ((rd_T49 l0 x7_2).f0),.int .i64 (rd x4_2 ((rd_T49 l0 x7_2).f1))] (fun k_ => k_ ≠ gb686) (fun _ => False) rfl (by first|(go_simp;done)|(go_simp;rfl)) ?aP (fun _ hk => hk.elim) ?aF ?aO ?aB ?aS ?aL ?_;(case aP => exact k49_mkM _ _ _ (⟨((rd_T49 l0 x7_2).f0),rd x4_2 ((rd_T49 l0 x7_2).f1)⟩ : S49));(case aB => exact (by repeat (first|(with_reducible first|exact HB.out|apply below_alloc|apply pw_below_drewN|apply below_drew1|refine below_set ?_ GE686.out)|exact HB.out)));(case aF => exact (fun k_ hk => Kd.freshB (g := gb686) (o := .cells #[.int .i64 ((rd_T49 l0 x7_2).f0),.int .i64 (rd x4_2 ((rd_T49 l0 x7_2).f1))] 49 (0,0)) (by (with_reducible repeat (first|refine blk_drewN ?_ _|refine blk_drew ?_|refine blk_alloc ?_ _));refine blk_put (cs := #[.int .i64 ((rd_T49 l0 x7_2).f0),.int .i64 ((rd_T49 l0 x7_2).f1)]) ?_ 1 _ rfl;(with_reducible repeat (first|refine blk_drewN ?_ _|refine blk_drew ?_|refine blk_alloc ?_ _));exact BK686.out) k_ hk));(case aO => exact (by (with_reducible repeat (first|apply Kd.R_alloc|apply Kd.R_drewN|apply Kd.R_drew));exact Kd.R_mono (Kd.R_far (p := ⟨gb686,1,none⟩) (Kd.R_mono HO_3.out (fun k_ hk => (⟨hk,hk⟩ : _ ∧ k_ ≠ gb686))) (fun _ hk => hk.2) (.int .i64 (rd x4_2 ((rd_T49 l0 x7_2).f1)))) (fun _ hk => hk.1)));(case aS => exact (below_size (by repeat (first|(with_reducible first|exact HB.out|apply below_alloc|apply pw_below_drewN|apply below_drew1|refine below_set ?_ GE686.out)|exact HB.out))));(case aL => have := LMc66.out;omega);intro v712 w69 ho hb hg hat;rw [← Ny711.out] at ho;have n0_ := Aside0.mk (Kd.R_over' (by (with_reducible repeat (first|apply Kd.R_alloc|apply Kd.R_drewN|apply Kd.R_drew));exact (Kd.R_mono (Kd.R_far (p := ⟨gb686,1,none⟩) (Kd.R_types HO_4.out BK686.out (by decide)) (fun _ hk => hk.2) (.int .i64 (rd x4_2 ((rd_T49 l0 x7_2).f1)))) (fun _ h_ => h_.1))) (Kd.R_typed (by (with_reducible repeat (first|apply Kd.R_alloc|apply Kd.R_drewN|apply Kd.R_drew));exact (Kd.R_mono (Kd.R_far (p := ⟨gb686,1,none⟩) (Kd.R_mono HO_3.out (fun k_ hk => (⟨hk,hk⟩ : _ ∧ k_ ≠ gb686))) (fun _ hk => hk.2) (.int .i64 (rd x4_2 ((rd_T49 l0 x7_2).f1)))) (fun _ h_ => h_.1)))) (by decide) hg);have n1_ := Aside0.mk (blk_grown (g := gb686) (o := .cells #[.int .i64 ((rd_T49 l0 x7_2).f0),.int .i64 (rd x4_2 ((rd_T49 l0 x7_2).f1))] 49 (0,0)) (by (with_reducible repeat (first|refine blk_drewN ?_ _|refine blk_drew ?_|refine blk_alloc ?_ _));refine blk_put (cs := #[.int .i64 ((rd_T49 l0 x7_2).f0),.int .i64 ((rd_T49 l0 x7_2).f1)]) ?_ 1 _ rfl;(with_reducible repeat (first|refine blk_drewN ?_ _|refine blk_drew ?_|refine blk_alloc ?_ _));exact BK686.out) hg (Kd.R_away HO_3.out (fun _ hk => hk)));have n2_ := Aside0.mk (hb);have n3_ := Aside0.mk (ho);clear HO_4;clear BK686;clear HB;clear HO_3;have HO_4 := n0_;have BK686 := n1_;have HB := n2_;have HO713 := n3_;clear n0_ n1_ n2_ n3_;clear ho hb hg hat))
                 go_roundg kj14
                 case measure => have := HK1.out;have := HK2.out;have := HJ14.out;omega
                 case rel => exact ⟨(y711),(x4_2),(x6_2),(wrap64 (x7_2 + 1)),(by first|rfl|(simp;done)|(simp [*];done)),(by first|rfl|(simp;done)|(simp [*];done)),H',⟨by have := HK1.out;have := HK2.out;have := HJ14.out;omega⟩,⟨by (with_reducible repeat (first|apply Kd.R_alloc|apply Kd.R_drewN|apply Kd.R_drew));exact Kd.R_mono HO713.out (fun _ hk => trivial)⟩,⟨by (with_reducible repeat (first|apply Kd.R_alloc|apply Kd.R_drewN|apply Kd.R_drew));exact HO_4.out⟩,⟨by repeat (first|(with_reducible first|exact HB.out|apply below_alloc|apply pw_below_drewN|apply below_drew1|refine below_set ?_ GE686.out)|exact HB.out)⟩⟩
                ·rw [if_neg c66] at H
                 exact absurd H (by simp)
               ·rw [if_neg c65] at H
                have c65b0 : decide (0 ≤ (rd x4_2 ((rd_T49 l0 x7_2).f1))) = false := decide_eq_false c65
                clear c65
                by_cases c70 : x3_2.length < 8796093022208
                ·rw [if_pos c70] at H
                 have LMc70 := Aside0.mk c70
                 clear c70
                 obtain ⟨y714,hy714⟩ : ∃ y_ : List (S49),y_ = (x3_2 ++ [(⟨((rd_T49 l0 x7_2).f0),((rd_T49 l0 x7_2).f1)⟩ : S49)]) := ⟨_,rfl⟩
                 replace H : (spec_lean.l1 kj14 l0 y714 x4_2 x6_2 (wrap64 (x7_2 + 1))) = some r := by first|(rw [hy714];with_reducible exact H)|(have H2_ := (Option.bind_some _ _).symm.trans H;rw [hy714];with_reducible exact H2_)|(have H2_ := (Option.bind_some _ _).symm.trans H;with_reducible exact H2_)|with_reducible exact H|(rw [hy714];exact H)|exact H
                 have Ny714 := Aside0.mk hy714
                 clear hy714
                 have H' := Aside0.mk H
                 clear H
                 have hcz71_0 : wc.cell? ⟨gb686,0,none⟩ = some (.int .i64 ((rd_T49 l0 x7_2).f0)) := (blk_cell BK686.out 0).trans rfl
                 have hcz71_1 : wc.cell? ⟨gb686,1,none⟩ = some (.int .i64 ((rd_T49 l0 x7_2).f1)) := (blk_cell BK686.out 1).trans rfl
                 have hfz71_0 := blk_frozen BK686.out 0
                 have hfz71_1 := blk_frozen BK686.out 1
                 obtain ⟨Ao72,co72,eo72⟩ := Kd.R_slice HO_4.out
                 subst eo72
                 have p709 : 0 ≤ (((rd_T49 l0 x7_2).f1) : Int) := of_decide_eq_true (by first|(with_reducible assumption)|assumption)
                 have q709 : ((rd_T49 l0 x7_2).f1) < (x4_2.length : Int) := of_decide_eq_true (by first|(with_reducible assumption)|assumption)
                 obtain ⟨ad709,e709,hx709_0⟩ := Kd.at_int (Kd.R_reads' HO_4.out).2.2 ((rd_T49 l0 x7_2).f1) p709 q709
                 cases e709
                 replace p709 := eq_true p709
                 replace q709 := eq_true q709
                 go_wp2_with (first|((with_reducible refine gate_builtin (b := .append) (xs := #[.tmp 71,.tmp 73]) rfl ?_);at_builtin;refine Kd.R_append k49 (w0 := w) w.heap.size rfl (.tmp 71) (.tmp 73) 25 49 (.agg #[(.int .i64 0),(.int .i64 0)]) 16 rfl Try.underlying25 info49 rfl (by decide) (by omega) u3 x3_2 (⟨((rd_T49 l0 x7_2).f0),((rd_T49 l0 x7_2).f1)⟩ : S49) [.int .i64 ((rd_T49 l0 x7_2).f0),.int .i64 ((rd_T49 l0 x7_2).f1)] (fun k_ => k_ ≠ gb686) (fun _ => False) rfl rfl ?aP (fun _ hk => hk.elim) ?aF ?aO ?aB ?aS ?aL ?_;(case aP => exact k49_mkM _ _ _ (⟨((rd_T49 l0 x7_2).f0),((rd_T49 l0 x7_2).f1)⟩ : S49));(case aB => exact (by repeat (first|(with_reducible first|exact HB.out|apply below_alloc|apply pw_below_drewN|apply below_drew1|refine below_set ?_ GE686.out)|exact HB.out)));(case aF => exact (fun k_ hk => Kd.freshB (g := gb686) (o := .cells #[.int .i64 ((rd_T49 l0 x7_2).f0),.int .i64 ((rd_T49 l0 x7_2).f1)] 49 (0,0)) (by (with_reducible repeat (first|refine blk_drewN ?_ _|refine blk_drew ?_|refine blk_alloc ?_ _));exact BK686.out) k_ hk));(case aO => exact (by (with_reducible repeat (first|apply Kd.R_alloc|apply Kd.R_drewN|apply Kd.R_drew));exact HO_3.out));(case aS => exact (below_size (by repeat (first|(with_reducible first|exact HB.out|apply below_alloc|apply pw_below_drewN|apply below_drew1|refine below_set ?_ GE686.out)|exact HB.out))));(case aL => have := LMc70.out;omega);intro v715 w73 ho hb hg hat;rw [← Ny714.out] at ho;have n0_ := Aside0.mk (Kd.R_over' (by (with_reducible repeat (first|apply Kd.R_alloc|apply Kd.R_drewN|apply Kd.R_drew));exact HO_4.out) (Kd.R_typed (by (with_reducible repeat (first|apply Kd.R_alloc|apply Kd.R_drewN|apply Kd.R_drew));exact HO_3.out)) (by decide) hg);have n1_ := Aside0.mk (blk_grown (g := gb686) (o := .cells #[.int .i64 ((rd_T49 l0 x7_2).f0),.int .i64 ((rd_T49 l0 x7_2).f1)] 49 (0,0)) (by (with_reducible repeat (first|refine blk_drewN ?_ _|refine blk_drew ?_|refine blk_alloc ?_ _));exact BK686.out) hg (Kd.R_away HO_3.out (fun _ hk => hk)));have n2_ := Aside0.mk (hb);have n3_ := Aside0.mk (ho);clear HO_4;clear BK686;clear HB;clear HO_3;have HO_4 := n0_;have BK686 := n1_;have HB := n2_;have HO716 := n3_;clear n0_ n1_ n2_ n3_;clear ho hb hg hat))
                 go_roundg kj14
                 case measure => have := HK1.out;have := HK2.out;have := HJ14.out;omega
                 case rel => exact ⟨(y714),(x4_2),(x6_2),(wrap64 (x7_2 + 1)),(by first|rfl|(simp;done)|(simp [*];done)),(by first|rfl|(simp;done)|(simp [*];done)),H',⟨by have := HK1.out;have := HK2.out;have := HJ14.out;omega⟩,⟨by (with_reducible repeat (first|apply Kd.R_alloc|apply Kd.R_drewN|apply Kd.R_drew));exact Kd.R_mono HO716.out (fun _ hk => trivial)⟩,⟨by (with_reducible repeat (first|apply Kd.R_alloc|apply Kd.R_drewN|apply Kd.R_drew));exact HO_4.out⟩,⟨by repeat (first|(with_reducible first|exact HB.out|apply below_alloc|apply pw_below_drewN|apply below_drew1|refine below_set ?_ GE686.out)|exact HB.out)⟩⟩
                ·rw [if_neg c70] at H
                 exact absurd H (by simp)
              ·rw [if_neg c64] at H
               exact absurd H (by simp)
             ·rw [if_neg c63] at H
              exact absurd H (by simp)
            ·rw [if_neg c62] at H
             have c62b0 : (((rd_T49 l0 x7_2).f0) == 15) = false := beq_eq_false_iff_ne.mpr c62
             have c62b1 : (((rd_T49 l0 x7_2).f0) != 15) = true := bne_iff_ne.mpr c62
             by_cases c74 : ((rd_T49 l0 x7_2).f0) = 16
             ·rw [if_pos c74] at H
              have c74b0 : (((rd_T49 l0 x7_2).f0) == 16) = true := beq_iff_eq.mpr c74
              have c74b1 : (((rd_T49 l0 x7_2).f0) != 16) = false := bne_eq_false_iff_eq.mpr c74
              clear c74
              by_cases c75 : 0 ≤ ((rd_T49 l0 x7_2).f1)
              ·rw [if_pos c75] at H
               have c75b0 : decide (0 ≤ ((rd_T49 l0 x7_2).f1)) = true := decide_eq_true c75
               clear c75
               by_cases c76 : ((rd_T49 l0 x7_2).f1) < (x4_2.length : Int)
               ·rw [if_pos c76] at H
                have c76b0 : decide (((rd_T49 l0 x7_2).f1) < (x4_2.length : Int)) = true := decide_eq_true c76
                clear c76
                by_cases c77 : (rd x4_2 ((rd_T49 l0 x7_2).f1)) ≥ 0
                ·rw [if_pos c77] at H
                 have c77b0 : decide (0 ≤ (rd x4_2 ((rd_T49 l0 x7_2).f1))) = true := decide_eq_true c77
                 clear c77
                 by_cases c78 : x3_2.length < 8796093022208
                 ·rw [if_pos c78] at H
                  have LMc78 := Aside0.mk c78
                  clear c78
                  obtain ⟨y719,hy719⟩ : ∃ y_ : List (S49),y_ = (x3_2 ++ [(⟨((rd_T49 l0 x7_2).f0),rd x4_2 ((rd_T49 l0 x7_2).f1)⟩ : S49)]) := ⟨_,rfl⟩
                  replace H : (spec_lean.l1 kj14 l0 y719 x4_2 x6_2 (wrap64 (x7_2 + 1))) = some r := by first|(rw [hy719];with_reducible exact H)|(have H2_ := (Option.bind_some _ _).symm.trans H;rw [hy719];with_reducible exact H2_)|(have H2_ := (Option.bind_some _ _).symm.trans H;with_reducible exact H2_)|with_reducible exact H|(rw [hy719];exact H)|exact H
                  have Ny719 := Aside0.mk hy719
                  clear hy719
                  have H' := Aside0.mk H
                  clear H
                  have hcz79_0 : wc.cell? ⟨gb686,0,none⟩ = some (.int .i64 ((rd_T49 l0 x7_2).f0)) := (blk_cell BK686.out 0).trans rfl
                  have hcz79_1 : wc.cell? ⟨gb686,1,none⟩ = some (.int .i64 ((rd_T49 l0 x7_2).f1)) := (blk_cell BK686.out 1).trans rfl
                  have hfz79_0 := blk_frozen BK686.out 0
                  have hfz79_1 := blk_frozen BK686.out 1
                  obtain ⟨Ao80,co80,eo80⟩ := Kd.R_slice HO_4.out
                  subst eo80
                  have p717 : 0 ≤ (((rd_T49 l0 x7_2).f1) : Int) := of_decide_eq_true (by first|(with_reducible assumption)|assumption)
                  have q717 : ((rd_T49 l0 x7_2).f1) < (x4_2.length : Int) := of_decide_eq_true (by first|(with_reducible assumption)|assumption)
                  obtain ⟨ad717,e717,hx717_0⟩ := Kd.at_int (Kd.R_reads' HO_4.out).2.2 ((rd_T49 l0 x7_2).f1) p717 q717
                  cases e717
                  replace p717 := eq_true p717
                  replace q717 := eq_true q717
                  have p718 : 0 ≤ (((rd_T49 l0 x7_2).f1) : Int) := of_decide_eq_true (by first|(with_reducible assumption)|assumption)
                  have q718 : ((rd_T49 l0 x7_2).f1) < (x4_2.length : Int) := of_decide_eq_true (by first|(with_reducible assumption)|assumption)
                  obtain ⟨ad718,e718,hx718_0⟩ := Kd.at_int (Kd.R_reads' HO_4.out).2.2 ((rd_T49 l0 x7_2).f1) p718 q718
                  obtain rfl : ad717 = ad718 := (by injection e718)
                  replace p718 := eq_true p718
                  replace q718 := eq_true q718
                  go_wp2_with (first|((with_reducible refine gate_builtin (b := .append) (xs := #[.tmp 71,.tmp 73]) rfl ?_);at_builtin;refine Kd.R_append k49 (w0 := w) w.heap.size rfl (.tmp 71) (.tmp 73) 25 49 (.agg #[(.int .i64 0),(.int .i64 0)]) 16 rfl Try.underlying25 info49 rfl (by decide) (by omega) u3 x3_2 (⟨((rd_T49 l0 x7_2).f0),rd x4_2 ((rd_T49 l0 x7_2).f1)⟩ : S49) [.int .i64 ((rd_T49 l0 x7_2).f0),.int .i64 (rd x4_2 ((rd_T49 l0 x7_2).f1))] (fun k_ => k_ ≠ gb686) (fun _ => False) rfl (by first|(go_simp;done)|(go_simp;rfl)) ?aP (fun _ hk => hk.elim) ?aF ?aO ?aB ?aS ?aL ?_;(case aP => exact k49_mkM _ _ _ (⟨((rd_T49 l0 x7_2).f0),rd x4_2 ((rd_T49 l0 x7_2).f1)⟩ : S49));(case aB => exact (by repeat (first|(with_reducible first|exact HB.out|apply below_alloc|apply pw_below_drewN|apply below_drew1|refine below_set ?_ GE686.out)|exact HB.out)));(case aF => exact (fun k_ hk => Kd.freshB (g := gb686) (o := .cells #[.int .i64 ((rd_T49 l0 x7_2).f0),.int .i64 (rd x4_2 ((rd_T49 l0 x7_2).f1))] 49 (0,0)) (by (with_reducible repeat (first|refine blk_drewN ?_ _|refine blk_drew ?_|refine blk_alloc ?_ _));refine blk_put (cs := #[.int .i64 ((rd_T49 l0 x7_2).f0),.int .i64 ((rd_T49 l0 x7_2).f1)]) ?_ 1 _ rfl;(with_reducible repeat (first|refine blk_drewN ?_ _|refine blk_drew ?_|refine blk_alloc ?_ _));exact BK686.out) k_ hk));(case aO => exact (by (with_reducible repeat (first|apply Kd.R_alloc|apply Kd.R_drewN|apply Kd.R_drew));exact Kd.R_mono (Kd.R_far (p := ⟨gb686,1,none⟩) (Kd.R_mono HO_3.out (fun k_ hk => (⟨hk,hk⟩ : _ ∧ k_ ≠ gb686))) (fun _ hk => hk.2) (.int .i64 (rd x4_2 ((rd_T49 l0 x7_2).f1)))) (fun _ hk => hk.1)));(case aS => exact (below_size (by repeat (first|(with_reducible first|exact HB.out|apply below_alloc|apply pw_below_drewN|apply below_drew1|refine below_set ?_ GE686.out)|exact HB.out))));(case aL => have := LMc78.out;omega);intro v720 w81 ho hb hg hat;rw [← Ny719.out] at ho;have n0_ := Aside0.mk (Kd.R_over' (by (with_reducible repeat (first|apply Kd.R_alloc|apply Kd.R_drewN|apply Kd.R_drew));exact (Kd.R_mono (Kd.R_far (p := ⟨gb686,1,none⟩) (Kd.R_types HO_4.out BK686.out (by decide)) (fun _ hk => hk.2) (.int .i64 (rd x4_2 ((rd_T49 l0 x7_2).f1)))) (fun _ h_ => h_.1))) (Kd.R_typed (by (with_reducible repeat (first|apply Kd.R_alloc|apply Kd.R_drewN|apply Kd.R_drew));exact (Kd.R_mono (Kd.R_far (p := ⟨gb686,1,none⟩) (Kd.R_mono HO_3.out (fun k_ hk => (⟨hk,hk⟩ : _ ∧ k_ ≠ gb686))) (fun _ hk => hk.2) (.int .i64 (rd x4_2 ((rd_T49 l0 x7_2).f1)))) (fun _ h_ => h_.1)))) (by decide) hg);have n1_ := Aside0.mk (blk_grown (g := gb686) (o := .cells #[.int .i64 ((rd_T49 l0 x7_2).f0),.int .i64 (rd x4_2 ((rd_T49 l0 x7_2).f1))] 49 (0,0)) (by (with_reducible repeat (first|refine blk_drewN ?_ _|refine blk_drew ?_|refine blk_alloc ?_ _));refine blk_put (cs := #[.int .i64 ((rd_T49 l0 x7_2).f0),.int .i64 ((rd_T49 l0 x7_2).f1)]) ?_ 1 _ rfl;(with_reducible repeat (first|refine blk_drewN ?_ _|refine blk_drew ?_|refine blk_alloc ?_ _));exact BK686.out) hg (Kd.R_away HO_3.out (fun _ hk => hk)));have n2_ := Aside0.mk (hb);have n3_ := Aside0.mk (ho);clear HO_4;clear BK686;clear HB;clear HO_3;have HO_4 := n0_;have BK686 := n1_;have HB := n2_;have HO721 := n3_;clear n0_ n1_ n2_ n3_;clear ho hb hg hat))
                  go_roundg kj14
                  case measure => have := HK1.out;have := HK2.out;have := HJ14.out;omega
                  case rel => exact ⟨(y719),(x4_2),(x6_2),(wrap64 (x7_2 + 1)),(by first|rfl|(simp;done)|(simp [*];done)),(by first|rfl|(simp;done)|(simp [*];done)),H',⟨by have := HK1.out;have := HK2.out;have := HJ14.out;omega⟩,⟨by (with_reducible repeat (first|apply Kd.R_alloc|apply Kd.R_drewN|apply Kd.R_drew));exact Kd.R_mono HO721.out (fun _ hk => trivial)⟩,⟨by (with_reducible repeat (first|apply Kd.R_alloc|apply Kd.R_drewN|apply Kd.R_drew));exact HO_4.out⟩,⟨by repeat (first|(with_reducible first|exact HB.out|apply below_alloc|apply pw_below_drewN|apply below_drew1|refine below_set ?_ GE686.out)|exact HB.out)⟩⟩
                 ·rw [if_neg c78] at H
                  exact absurd H (by simp)
                ·rw [if_neg c77] at H
                 have c77b0 : decide (0 ≤ (rd x4_2 ((rd_T49 l0 x7_2).f1))) = false := decide_eq_false c77
                 clear c77
                 by_cases c82 : x3_2.length < 8796093022208
                 ·rw [if_pos c82] at H
                  have LMc82 := Aside0.mk c82
                  clear c82
                  obtain ⟨y722,hy722⟩ : ∃ y_ : List (S49),y_ = (x3_2 ++ [(⟨((rd_T49 l0 x7_2).f0),((rd_T49 l0 x7_2).f1)⟩ : S49)]) := ⟨_,rfl⟩
                  replace H : (spec_lean.l1 kj14 l0 y722 x4_2 x6_2 (wrap64 (x7_2 + 1))) = some r := by first|(rw [hy722];with_reducible exact H)|(have H2_ := (Option.bind_some _ _).symm.trans H;rw [hy722];with_reducible exact H2_)|(have H2_ := (Option.bind_some _ _).symm.trans H;with_reducible exact H2_)|with_reducible exact H|(rw [hy722];exact H)|exact H
                  have Ny722 := Aside0.mk hy722
                  clear hy722
                  have H' := Aside0.mk H
                  clear H
                  have hcz83_0 : wc.cell? ⟨gb686,0,none⟩ = some (.int .i64 ((rd_T49 l0 x7_2).f0)) := (blk_cell BK686.out 0).trans rfl
                  have hcz83_1 : wc.cell? ⟨gb686,1,none⟩ = some (.int .i64 ((rd_T49 l0 x7_2).f1)) := (blk_cell BK686.out 1).trans rfl
                  have hfz83_0 := blk_frozen BK686.out 0
                  have hfz83_1 := blk_frozen BK686.out 1
                  obtain ⟨Ao84,co84,eo84⟩ := Kd.R_slice HO_4.out
                  subst eo84
                  have p717 : 0 ≤ (((rd_T49 l0 x7_2).f1) : Int) := of_decide_eq_true (by first|(with_reducible assumption)|assumption)
                  have q717 : ((rd_T49 l0 x7_2).f1) < (x4_2.length : Int) := of_decide_eq_true (by first|(with_reducible assumption)|assumption)
                  obtain ⟨ad717,e717,hx717_0⟩ := Kd.at_int (Kd.R_reads' HO_4.out).2.2 ((rd_T49 l0 x7_2).f1) p717 q717
                  cases e717
                  replace p717 := eq_true p717
                  replace q717 := eq_true q717
                  go_wp2_with (first|((with_reducible refine gate_builtin (b := .append) (xs := #[.tmp 71,.tmp 73]) rfl ?_);at_builtin;refine Kd.R_append k49 (w0 := w) w.heap.size rfl (.tmp 71) (.tmp 73) 25 49 (.agg #[(.int .i64 0),(.int .i64 0)]) 16 rfl Try.underlying25 info49 rfl (by decide) (by omega) u3 x3_2 (⟨((rd_T49 l0 x7_2).f0),((rd_T49 l0 x7_2).f1)⟩ : S49) [.int .i64 ((rd_T49 l0 x7_2).f0),.int .i64 ((rd_T49 l0 x7_2).f1)] (fun k_ => k_ ≠ gb686) (fun _ => False) rfl rfl ?aP (fun _ hk => hk.elim) ?aF ?aO ?aB ?aS ?aL ?_;(case aP => exact k49_mkM _ _ _ (⟨((rd_T49 l0 x7_2).f0),((rd_T49 l0 x7_2).f1)⟩ : S49));(case aB => exact (by repeat (first|(with_reducible first|exact HB.out|apply below_alloc|apply pw_below_drewN|apply below_drew1|refine below_set ?_ GE686.out)|exact HB.out)));(case aF => exact (fun k_ hk => Kd.freshB (g := gb686) (o := .cells #[.int .i64 ((rd_T49 l0 x7_2).f0),.int .i64 ((rd_T49 l0 x7_2).f1)] 49 (0,0)) (by (with_reducible repeat (first|refine blk_drewN ?_ _|refine blk_drew ?_|refine blk_alloc ?_ _));exact BK686.out) k_ hk));(case aO => exact (by (with_reducible repeat (first|apply Kd.R_alloc|apply Kd.R_drewN|apply Kd.R_drew));exact HO_3.out));(case aS => exact (below_size (by repeat (first|(with_reducible first|exact HB.out|apply below_alloc|apply pw_below_drewN|apply below_drew1|refine below_set ?_ GE686.out)|exact HB.out))));(case aL => have := LMc82.out;omega);intro v723 w85 ho hb hg hat;rw [← Ny722.out] at ho;have n0_ := Aside0.mk (Kd.R_over' (by (with_reducible repeat (first|apply Kd.R_alloc|apply Kd.R_drewN|apply Kd.R_drew));exact HO_4.out) (Kd.R_typed (by (with_reducible repeat (first|apply Kd.R_alloc|apply Kd.R_drewN|apply Kd.R_drew));exact HO_3.out)) (by decide) hg);have n1_ := Aside0.mk (blk_grown (g := gb686) (o := .cells #[.int .i64 ((rd_T49 l0 x7_2).f0),.int .i64 ((rd_T49 l0 x7_2).f1)] 49 (0,0)) (by (with_reducible repeat (first|refine blk_drewN ?_ _|refine blk_drew ?_|refine blk_alloc ?_ _));exact BK686.out) hg (Kd.R_away HO_3.out (fun _ hk => hk)));have n2_ := Aside0.mk (hb);have n3_ := Aside0.mk (ho);clear HO_4;clear BK686;clear HB;clear HO_3;have HO_4 := n0_;have BK686 := n1_;have HB := n2_;have HO724 := n3_;clear n0_ n1_ n2_ n3_;clear ho hb hg hat))
                  go_roundg kj14
                  case measure => have := HK1.out;have := HK2.out;have := HJ14.out;omega
                  case rel => exact ⟨(y722),(x4_2),(x6_2),(wrap64 (x7_2 + 1)),(by first|rfl|(simp;done)|(simp [*];done)),(by first|rfl|(simp;done)|(simp [*];done)),H',⟨by have := HK1.out;have := HK2.out;have := HJ14.out;omega⟩,⟨by (with_reducible repeat (first|apply Kd.R_alloc|apply Kd.R_drewN|apply Kd.R_drew));exact Kd.R_mono HO724.out (fun _ hk => trivial)⟩,⟨by (with_reducible repeat (first|apply Kd.R_alloc|apply Kd.R_drewN|apply Kd.R_drew));exact HO_4.out⟩,⟨by repeat (first|(with_reducible first|exact HB.out|apply below_alloc|apply pw_below_drewN|apply below_drew1|refine below_set ?_ GE686.out)|exact HB.out)⟩⟩
                 ·rw [if_neg c82] at H
                  exact absurd H (by simp)
               ·rw [if_neg c76] at H
                exact absurd H (by simp)
              ·rw [if_neg c75] at H
               exact absurd H (by simp)
             ·rw [if_neg c74] at H
              have c74b0 : (((rd_T49 l0 x7_2).f0) == 16) = false := beq_eq_false_iff_ne.mpr c74
              have c74b1 : (((rd_T49 l0 x7_2).f0) != 16) = true := bne_iff_ne.mpr c74
              by_cases c86 : x3_2.length < 8796093022208
              ·rw [if_pos c86] at H
               have LMc86 := Aside0.mk c86
               clear c86
               obtain ⟨y725,hy725⟩ : ∃ y_ : List (S49),y_ = (x3_2 ++ [(⟨((rd_T49 l0 x7_2).f0),((rd_T49 l0 x7_2).f1)⟩ : S49)]) := ⟨_,rfl⟩
               replace H : (spec_lean.l1 kj14 l0 y725 x4_2 x6_2 (wrap64 (x7_2 + 1))) = some r := by first|(rw [hy725];with_reducible exact H)|(have H2_ := (Option.bind_some _ _).symm.trans H;rw [hy725];with_reducible exact H2_)|(have H2_ := (Option.bind_some _ _).symm.trans H;with_reducible exact H2_)|with_reducible exact H|(rw [hy725];exact H)|exact H
               have Ny725 := Aside0.mk hy725
               clear hy725
               have H' := Aside0.mk H
               clear H
               have hcz87_0 : wc.cell? ⟨gb686,0,none⟩ = some (.int .i64 ((rd_T49 l0 x7_2).f0)) := (blk_cell BK686.out 0).trans rfl
               have hcz87_1 : wc.cell? ⟨gb686,1,none⟩ = some (.int .i64 ((rd_T49 l0 x7_2).f1)) := (blk_cell BK686.out 1).trans rfl
               have hfz87_0 := blk_frozen BK686.out 0
               have hfz87_1 := blk_frozen BK686.out 1
               go_wp2_with (first|((with_reducible refine gate_builtin (b := .append) (xs := #[.tmp 71,.tmp 73]) rfl ?_);at_builtin;refine Kd.R_append k49 (w0 := w) w.heap.size rfl (.tmp 71) (.tmp 73) 25 49 (.agg #[(.int .i64 0),(.int .i64 0)]) 16 rfl Try.underlying25 info49 rfl (by decide) (by omega) u3 x3_2 (⟨((rd_T49 l0 x7_2).f0),((rd_T49 l0 x7_2).f1)⟩ : S49) [.int .i64 ((rd_T49 l0 x7_2).f0),.int .i64 ((rd_T49 l0 x7_2).f1)] (fun k_ => k_ ≠ gb686) (fun _ => False) rfl rfl ?aP (fun _ hk => hk.elim) ?aF ?aO ?aB ?aS ?aL ?_;(case aP => exact k49_mkM _ _ _ (⟨((rd_T49 l0 x7_2).f0),((rd_T49 l0 x7_2).f1)⟩ : S49));(case aB => exact (by repeat (first|(with_reducible first|exact HB.out|apply below_alloc|apply pw_below_drewN|apply below_drew1|refine below_set ?_ GE686.out)|exact HB.out)));(case aF => exact (fun k_ hk => Kd.freshB (g := gb686) (o := .cells #[.int .i64 ((rd_T49 l0 x7_2).f0),.int .i64 ((rd_T49 l0 x7_2).f1)] 49 (0,0)) (by (with_reducible repeat (first|refine blk_drewN ?_ _|refine blk_drew ?_|refine blk_alloc ?_ _));exact BK686.out) k_ hk));(case aO => exact (by (with_reducible repeat (first|apply Kd.R_alloc|apply Kd.R_drewN|apply Kd.R_drew));exact HO_3.out));(case aS => exact (below_size (by repeat (first|(with_reducible first|exact HB.out|apply below_alloc|apply pw_below_drewN|apply below_drew1|refine below_set ?_ GE686.out)|exact HB.out))));(case aL => have := LMc86.out;omega);intro v726 w88 ho hb hg hat;rw [← Ny725.out] at ho;have n0_ := Aside0.mk (Kd.R_over' (by (with_reducible repeat (first|apply Kd.R_alloc|apply Kd.R_drewN|apply Kd.R_drew));exact HO_4.out) (Kd.R_typed (by (with_reducible repeat (first|apply Kd.R_alloc|apply Kd.R_drewN|apply Kd.R_drew));exact HO_3.out)) (by decide) hg);have n1_ := Aside0.mk (blk_grown (g := gb686) (o := .cells #[.int .i64 ((rd_T49 l0 x7_2).f0),.int .i64 ((rd_T49 l0 x7_2).f1)] 49 (0,0)) (by (with_reducible repeat (first|refine blk_drewN ?_ _|refine blk_drew ?_|refine blk_alloc ?_ _));exact BK686.out) hg (Kd.R_away HO_3.out (fun _ hk => hk)));have n2_ := Aside0.mk (hb);have n3_ := Aside0.mk (ho);clear HO_4;clear BK686;clear HB;clear HO_3;have HO_4 := n0_;have BK686 := n1_;have HB := n2_;have HO727 := n3_;clear n0_ n1_ n2_ n3_;clear ho hb hg hat))
               go_roundg kj14
               case measure => have := HK1.out;have := HK2.out;have := HJ14.out;omega
               case rel => exact ⟨(y725),(x4_2),(x6_2),(wrap64 (x7_2 + 1)),(by first|rfl|(simp;done)|(simp [*];done)),(by first|rfl|(simp;done)|(simp [*];done)),H',⟨by have := HK1.out;have := HK2.out;have := HJ14.out;omega⟩,⟨by (with_reducible repeat (first|apply Kd.R_alloc|apply Kd.R_drewN|apply Kd.R_drew));exact Kd.R_mono HO727.out (fun _ hk => trivial)⟩,⟨by (with_reducible repeat (first|apply Kd.R_alloc|apply Kd.R_drewN|apply Kd.R_drew));exact HO_4.out⟩,⟨by repeat (first|(with_reducible first|exact HB.out|apply below_alloc|apply pw_below_drewN|apply below_drew1|refine below_set ?_ GE686.out)|exact HB.out)⟩⟩
              ·rw [if_neg c86] at H
               exact absurd H (by simp)
       ·rw [if_neg c10] at H
        exact absurd H (by simp)
      ·rw [if_neg c9] at H
       have c9b0 : decide (x7_2 < (l0.length : Int)) = false := decide_eq_false c9
       clear c9
       obtain rfl := Option.some.inj H
       go_wp2
       go_ret
       exact ⟨_,by first|rfl|(simp [errW_none,errW_some] <;> rfl)|(simp [*,errW_none,errW_some] <;> rfl),by (with_reducible repeat (first|apply Kd.R_alloc|apply Kd.R_drewN|apply Kd.R_drew));exact HO_3.out,by repeat (first|(with_reducible first|exact HB.out|apply below_alloc|apply pw_below_drewN|apply below_drew1)|exact HB.out)⟩

end Go.Proofs.Ytonppkaobnfldaa.Q
