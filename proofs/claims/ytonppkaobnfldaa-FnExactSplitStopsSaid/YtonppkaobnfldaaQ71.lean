-- Written by wip/tools/qprint.py (a program of this claim's author) by means of the kit's printer.
import Derived.Test.YtonppkaobnfldaaQ0
import Derived.Test.YtonppkaobnfldaaQ64
namespace Go.Proofs.Ytonppkaobnfldaa.Q
open Go.RowKit Go.Proofs.YtonppkaobnfldaaW.PrintWords Go.Proofs.YtonppkaobnfldaaW.PrintLast Go.Proofs.YtonppkaobnfldaaW.PrintMore
attribute [local go_sem] max2_int min2_int max_two min_two max_three min_three max_four min_four   -- for this text's walks alone
set_option linter.unusedVariables false
set_option linter.unusedSimpArgs false

/-! ### spec_lean: function 71 -/
mutual
def spec_lean.l0 : Nat → List (S49) → List (S49) → List Int → Int → Option ((List (S49)))
 | 0,_,_,_,_ => none
 | k + 1,x0,x3,x4,x5 => if x5 < 20 then (if x4.length < 17592186044416 then (spec_lean.l0 k x0 x3 (x4 ++ [(-1)]) (wrap64 (x5 + 1))) else (none)) else (spec_lean.l1 k x0 x3 x4 0 0)
def spec_lean.l1 : Nat → List (S49) → List (S49) → List Int → Int → Int → Option ((List (S49)))
 | 0,_,_,_,_,_ => none
 | k + 1,x0,x3,x4,x6,x7 => if x7 < (x0.length : Int) then (if 0 ≤ x7 then ((spec_idle.f k x0 x7).bind fun t716 => (if t716 = true then (spec_lean.l1 k x0 x3 x4 x6 (wrap64 (x7 + 1))) else (if ((rd_T49 x0 x7).f0) = 15 then (if 0 ≤ ((rd_T49 x0 x7).f1) then (if ((rd_T49 x0 x7).f1) < (x4.length : Int) then (spec_lean.j2 k x0 x3 x4 x6 x7 (decide ((rd x4 ((rd_T49 x0 x7).f1)) < 0)) ((rd_T49 x0 x7).f0) ((rd_T49 x0 x7).f1)) else (none)) else (none)) else (spec_lean.j2 k x0 x3 x4 x6 x7 false ((rd_T49 x0 x7).f0) ((rd_T49 x0 x7).f1))))) else (none)) else (some x3)
def spec_lean.j2 : Nat → List (S49) → List (S49) → List Int → Int → Int → Bool → Int → Int → Option ((List (S49)))
 | 0,_,_,_,_,_,_,_,_ => none
 | k + 1,x0,x3,x4,x6,x7,x41,x716000,x716001 => if x41 = true then (if 0 ≤ x716001 then (if x716001 < (x4.length : Int) then ((some (x4.set (x716001 : Int).toNat x6 : List Int)).bind fun y718 => (if x716000 = 15 then (if (rd y718 x716001) ≥ 0 then (if x3.length < 8796093022208 then (spec_lean.l1 k x0 (x3 ++ [(⟨x716000,rd y718 x716001⟩ : S49)]) y718 (wrap64 (x6 + 1)) (wrap64 (x7 + 1))) else (none)) else (if x3.length < 8796093022208 then (spec_lean.l1 k x0 (x3 ++ [(⟨x716000,x716001⟩ : S49)]) y718 (wrap64 (x6 + 1)) (wrap64 (x7 + 1))) else (none))) else (if x716000 = 16 then (if (rd y718 x716001) ≥ 0 then (if x3.length < 8796093022208 then (spec_lean.l1 k x0 (x3 ++ [(⟨x716000,rd y718 x716001⟩ : S49)]) y718 (wrap64 (x6 + 1)) (wrap64 (x7 + 1))) else (none)) else (if x3.length < 8796093022208 then (spec_lean.l1 k x0 (x3 ++ [(⟨x716000,x716001⟩ : S49)]) y718 (wrap64 (x6 + 1)) (wrap64 (x7 + 1))) else (none))) else (if x3.length < 8796093022208 then (spec_lean.l1 k x0 (x3 ++ [(⟨x716000,x716001⟩ : S49)]) y718 (wrap64 (x6 + 1)) (wrap64 (x7 + 1))) else (none))))) else (none)) else (none)) else (if x716000 = 15 then (if 0 ≤ x716001 then (if x716001 < (x4.length : Int) then (if (rd x4 x716001) ≥ 0 then (if x3.length < 8796093022208 then (spec_lean.l1 k x0 (x3 ++ [(⟨x716000,rd x4 x716001⟩ : S49)]) x4 x6 (wrap64 (x7 + 1))) else (none)) else (if x3.length < 8796093022208 then (spec_lean.l1 k x0 (x3 ++ [(⟨x716000,x716001⟩ : S49)]) x4 x6 (wrap64 (x7 + 1))) else (none))) else (none)) else (none)) else (if x716000 = 16 then (if 0 ≤ x716001 then (if x716001 < (x4.length : Int) then (if (rd x4 x716001) ≥ 0 then (if x3.length < 8796093022208 then (spec_lean.l1 k x0 (x3 ++ [(⟨x716000,rd x4 x716001⟩ : S49)]) x4 x6 (wrap64 (x7 + 1))) else (none)) else (if x3.length < 8796093022208 then (spec_lean.l1 k x0 (x3 ++ [(⟨x716000,x716001⟩ : S49)]) x4 x6 (wrap64 (x7 + 1))) else (none))) else (none)) else (none)) else (if x3.length < 8796093022208 then (spec_lean.l1 k x0 (x3 ++ [(⟨x716000,x716001⟩ : S49)]) x4 x6 (wrap64 (x7 + 1))) else (none))))
end
def spec_lean.f (k : Nat) (l0 : List (S49)) : Option ((List (S49))) := spec_lean.l0 k l0 (([] : List (S49))) (([] : List Int)) 0
set_option maxRecDepth 100000 in
theorem spec_lean.mono_l : ∀ k,(∀ y0 y1 y2 y3,LeO (spec_lean.l0 k y0 y1 y2 y3) (spec_lean.l0 (k + 1) y0 y1 y2 y3)) ∧ (∀ y0 y1 y2 y3 y4,LeO (spec_lean.l1 k y0 y1 y2 y3 y4) (spec_lean.l1 (k + 1) y0 y1 y2 y3 y4)) ∧ (∀ y0 y1 y2 y3 y4 y5 y6 y7,LeO (spec_lean.j2 k y0 y1 y2 y3 y4 y5 y6 y7) (spec_lean.j2 (k + 1) y0 y1 y2 y3 y4 y5 y6 y7))
 | 0 => ⟨fun _ _ _ _ r h => (by cases h),fun _ _ _ _ _ r h => (by cases h),fun _ _ _ _ _ _ _ _ r h => (by cases h)⟩
 | k + 1 => by
  obtain ⟨ih0,ih1,ih2⟩ := spec_lean.mono_l k
  refine ⟨?_,?_,?_⟩
  ·intro y0 y1 y2 y3
   unfold spec_lean.l0
   repeat' first
   | (with_reducible exact ih0 _ _ _ _)
   | (with_reducible exact ih1 _ _ _ _ _)
   | (with_reducible exact ih2 _ _ _ _ _ _ _ _)
   | (with_reducible exact spec_idle.mono _ _ _)
   | (with_reducible exact LeO.refl _)
   | (with_reducible exact LeO.none _)
   | (with_reducible refine LeO.ite ?_ ?_)
   | (with_reducible refine LeO.bind ?_ (fun _ => ?_))
   | exact ih0 _ _ _ _
   | exact ih1 _ _ _ _ _
   | exact ih2 _ _ _ _ _ _ _ _
   | exact spec_idle.mono _ _ _
   | exact LeO.none _
   | refine LeO.ite ?_ ?_
   | refine LeO.bind ?_ (fun _ => ?_)
  ·intro y0 y1 y2 y3 y4
   unfold spec_lean.l1
   repeat' first
   | (with_reducible exact ih0 _ _ _ _)
   | (with_reducible exact ih1 _ _ _ _ _)
   | (with_reducible exact ih2 _ _ _ _ _ _ _ _)
   | (with_reducible exact spec_idle.mono _ _ _)
   | (with_reducible exact LeO.refl _)
   | (with_reducible exact LeO.none _)
   | (with_reducible refine LeO.ite ?_ ?_)
   | (with_reducible refine LeO.bind ?_ (fun _ => ?_))
   | exact ih0 _ _ _ _
   | exact ih1 _ _ _ _ _
   | exact ih2 _ _ _ _ _ _ _ _
   | exact spec_idle.mono _ _ _
   | exact LeO.none _
   | refine LeO.ite ?_ ?_
   | refine LeO.bind ?_ (fun _ => ?_)
  ·intro y0 y1 y2 y3 y4 y5 y6 y7
   unfold spec_lean.j2
   repeat' first
   | (with_reducible exact ih0 _ _ _ _)
   | (with_reducible exact ih1 _ _ _ _ _)
   | (with_reducible exact ih2 _ _ _ _ _ _ _ _)
   | (with_reducible exact spec_idle.mono _ _ _)
   | (with_reducible exact LeO.refl _)
   | (with_reducible exact LeO.none _)
   | (with_reducible refine LeO.ite ?_ ?_)
   | (with_reducible refine LeO.bind ?_ (fun _ => ?_))
   | exact ih0 _ _ _ _
   | exact ih1 _ _ _ _ _
   | exact ih2 _ _ _ _ _ _ _ _
   | exact spec_idle.mono _ _ _
   | exact LeO.none _
   | refine LeO.ite ?_ ?_
   | refine LeO.bind ?_ (fun _ => ?_)
set_option maxRecDepth 100000 in
theorem spec_lean.mono : ∀ a0 k,LeO (spec_lean.f k a0) (spec_lean.f (k + 1) a0) := by
 intro a0 k
 obtain ⟨ih0,ih1,ih2⟩ := spec_lean.mono_l k
 unfold spec_lean.f
 repeat' first
   | (with_reducible exact ih0 _ _ _ _)
   | (with_reducible exact ih1 _ _ _ _ _)
   | (with_reducible exact ih2 _ _ _ _ _ _ _ _)
   | (with_reducible exact spec_idle.mono _ _ _)
   | (with_reducible exact LeO.refl _)
   | (with_reducible exact LeO.none _)
   | (with_reducible refine LeO.ite ?_ ?_)
   | (with_reducible refine LeO.bind ?_ (fun _ => ?_))
   | exact ih0 _ _ _ _
   | exact ih1 _ _ _ _ _
   | exact ih2 _ _ _ _ _ _ _ _
   | exact spec_idle.mono _ _ _
   | exact LeO.none _
   | refine LeO.ite ?_ ?_
   | refine LeO.bind ?_ (fun _ => ?_)
set_option maxHeartbeats 8000000 in
set_option maxRecDepth 100000 in
theorem spec_lean.calls (k : Nat) (A0 : Option Addr) (c0 : Nat) (l0 : List (S49)) (r : List (S49)) (w : World) (hr0 : Kd.C k49 w A0 l0.length l0) (hc0 : l0.length ≤ c0) (h : spec_lean.f k l0 = some r) :
  Calls Try.prog 71 #[.slice A0 l0.length c0] w fun e w' => ∃ v0_ : Value,e = .returned (v0_) ∧ Kd.R k49 49 w' w.heap.size (fun _ => True) v0_ r ∧ Below w.heap.size w w' := by
 have hu49 := Try.underlying49
 have HR0 := As_ hr0
 have HC0 := As_ hc0
 clear hr0 hc0
 have HB := As_ (Below.refl w.heap.size w)
 have H : (spec_lean.l0 k l0 (([] : List (S49))) (([] : List Int)) 0) = some r := h
 clear h
 obtain ⟨y705,hy705⟩ : ∃ y_ : List (S49),y_ = (([] : List (S49))) := ⟨_,rfl⟩
 replace H : (spec_lean.l0 k l0 y705 (([] : List Int)) 0) = some r := zH_ H hy705
 have Ny705 := As_ hy705
 clear hy705
 obtain ⟨y708,hy708⟩ : ∃ y_ : List Int,y_ = (([] : List Int)) := ⟨_,rfl⟩
 replace H : (spec_lean.l0 k l0 y705 y708 0) = some r := zH_ H hy708
 have Ny708 := As_ hy708
 clear hy708
 have H' := As_ H
 clear H
 go_enter Try.func71,Try.ntmps71
 go_wp2_with (first|((with_reducible refine gate_dst (N := 9) rfl ?_);refine Kd.R_lit k49 _ 49 ?hg (N := 9) ?hd (xs := ([] : List (S49))) (inner := []) (ok := fun _ => True) (okp := fun _ => True) ?hr ?hp (fun _ hk => hk) trivial (Below.refl _ _) (Nat.le_refl _) (by simp) ?_;(case hd => rfl);(case hg => rfl);(case hr => go_simp <;> rfl);(case hp => exact (Reps.none _ _));intro v706 w2 ho3 hb hg_ hnew_;clear hg_ hnew_;(first|rw [← Ny705.out] at ho3|(simp only [Int.reduceToNat] at ho3;rw [← Ny705.out] at ho3));have n0_ := As_ (Kd.R_lower ho3 (bwZ (zb0 HB.out)));have n1_ := As_ (bwT (zb0 HB.out) hb);clear HB;revert n0_ n1_;intro HO707 HB;clear hb ho3)|((with_reducible refine gate_dst (N := 10) rfl ?_);refine Kd.R_lit (Kd.int .i64) _ 3 ?hg (N := 10) ?hd (xs := ([] : List Int)) (inner := []) (ok := fun _ => True) (okp := fun _ => True) ?hr ?hp (fun _ hk => hk) trivial (Below.refl _ _) (Nat.le_refl _) (by simp) ?_;(case hd => rfl);(case hg => rfl);(case hr => go_simp <;> rfl);(case hp => exact (Reps.none _ _));intro v709 w4 ho5 hb hg_ hnew_;clear hg_ hnew_;(first|rw [← Ny708.out] at ho5|(simp only [Int.reduceToNat] at ho5;rw [← Ny708.out] at ho5));have n0_ := As_ (Kd.R_below (zR_ HO707.out) hb);have n1_ := As_ (Kd.R_lower ho5 (bwZ (zb0 HB.out)));have n2_ := As_ (bwT (zb0 HB.out) hb);clear HO707 HB;revert n0_ n1_ n2_;intro HO707 HO710 HB;clear hb ho5))
 go_loopg [4,5] k (fun kq v4 v5 w' => ∃ (x4_1 : List Int) (x5_1 : Int),v5 = .int .i64 x5_1 ∧ Aside0 (spec_lean.l0 kq l0 y705 x4_1 x5_1 = some r) ∧ Aside0 (kq ≤ k) ∧ Aside0 (Kd.R k49 49 w' w.heap.size (fun _ => True) v706 y705) ∧ Aside0 (Kd.R (Kd.int .i64) 3 w' w.heap.size (fun _ => True) v4 x4_1) ∧ Aside0 (Below w.heap.size w w'))
 case atStart => exact ⟨(y708),(0),zT_,H',⟨Nat.le_refl _⟩,⟨by (with_reducible repeat (first|apply Kd.R_alloc|apply Kd.R_drewN|apply Kd.R_drew));exact HO707.out⟩,⟨by (with_reducible repeat (first|apply Kd.R_alloc|apply Kd.R_drewN|apply Kd.R_drew));exact HO710.out⟩,⟨zb0 HB.out⟩⟩
 case round =>
  clear H'
  obtain ⟨x4_1,x5_1,rfl,HA,HK1,HO_3,HO_4,HB⟩ := hrel
  cases gk with
  | zero => exact absurd HA.out (fun h_ => (by cases h_))
  | succ k1 =>
   have H := HA.out
   clear HA
   simp only [spec_lean.l0] at H
   by_cases c6 : x5_1 < 20
   ·rw [if_pos c6] at H
    have c6b0 : decide (x5_1 < 20) = true := deT c6
    clear c6
    by_cases c7 : x4_1.length < 17592186044416
    rotate_left
    ·rw [if_neg c7] at H
     exact absurd H (by simp)
    rw [if_pos c7] at H
    have LMc7 := As_ c7
    clear c7
    obtain ⟨y711,hy711⟩ : ∃ y_ : List Int,y_ = (x4_1 ++ [(-1)]) := ⟨_,rfl⟩
    replace H : (spec_lean.l0 k1 l0 y705 y711 (wrap64 (x5_1 + 1))) = some r := zH_ H hy711
    have Ny711 := As_ hy711
    clear hy711
    have H' := As_ H
    clear H
    go_wp2_with (first|((with_reducible refine gate_builtin (b := .append) (xs := #[.tmp 15,.tmp 16]) rfl ?_);at_builtin;refine Kd.R_append (Kd.int .i64) (w0 := w) w.heap.size rfl (.tmp 15) (.tmp 16) 29 3 (.int .i64 0) 8 rfl Try.underlying29 info3 rfl (by decide) (by omega) u4 x4_1 (-1) [.int .i64 (-1)] (fun _ => True) (fun _ => False) rfl rfl ?aP (fun _ hk => hk.elim) ?aF ?aO ?aB ?aS ?aL ?_;(case aP => exact rfl);(case aB => exact (zb0 HB.out));(case aF => exact (fun _ _ => trivial));(case aO => exact (zR_ HO_4.out));(case aS => exact (bwZ (zb0 HB.out)));(case aL => have := LMc7.out;omega);intro v712 w8 ho hb hg hat;rw [← Ny711.out] at ho;have n0_ := As_ (Kd.R_over' (zR_ HO_3.out) (Kd.R_typed (zR_ HO_4.out)) (by decide) hg);have n1_ := As_ (hb);have n2_ := As_ (ho);clear HO_3 HB HO_4;revert n0_ n1_ n2_;intro HO_3 HB HO713;clear ho hb hg hat))
    go_roundg k1
    case measure => have := HK1.out;omega
    case rel => exact ⟨(y711),(wrap64 (x5_1 + 1)),zT_,H',⟨by have := HK1.out;omega⟩,⟨by (with_reducible repeat (first|apply Kd.R_alloc|apply Kd.R_drewN|apply Kd.R_drew));exact HO_3.out⟩,⟨by (with_reducible repeat (first|apply Kd.R_alloc|apply Kd.R_drewN|apply Kd.R_drew));exact HO713.out⟩,⟨zb0 HB.out⟩⟩
   rw [if_neg c6] at H
   have c6b0 : decide (x5_1 < 20) = false := deF c6
   clear c6
   have H' := As_ H
   clear H
   go_wp2
   go_loopg [3,6,7] k1 (fun kq v3 v6 v7 w' => ∃ (x3_2 : List (S49)) (x4_2 : List Int) (x6_2 : Int) (x7_2 : Int),v6 = .int .i64 x6_2 ∧ v7 = .int .i64 x7_2 ∧ Aside0 (spec_lean.l1 kq l0 x3_2 x4_2 x6_2 x7_2 = some r) ∧ Aside0 (kq ≤ k1) ∧ Aside0 (Kd.R k49 49 w' w.heap.size (fun _ => True) v3 x3_2) ∧ Aside0 (Kd.R (Kd.int .i64) 3 w' w.heap.size (fun _ => True) u4 x4_2) ∧ Aside0 (Below w.heap.size w w'))
   case atStart => exact ⟨(y705),(x4_1),(0),(0),zT_,zT_,H',⟨Nat.le_refl _⟩,⟨by (with_reducible repeat (first|apply Kd.R_alloc|apply Kd.R_drewN|apply Kd.R_drew));exact HO_3.out⟩,⟨by (with_reducible repeat (first|apply Kd.R_alloc|apply Kd.R_drewN|apply Kd.R_drew));exact HO_4.out⟩,⟨zb0 HB.out⟩⟩
   case round =>
    clear H'
    obtain ⟨x3_2,x4_2,x6_2,x7_2,rfl,rfl,HA,HK2,HO_3,HO_4,HB⟩ := hrel
    cases gk with
    | zero => exact absurd HA.out (fun h_ => (by cases h_))
    | succ k2 =>
     have H := HA.out
     clear HA
     simp only [spec_lean.l1] at H
     by_cases c9 : x7_2 < (l0.length : Int)
     rotate_left
     ·rw [if_neg c9] at H
      have c9b0 : decide (x7_2 < (l0.length : Int)) = false := deF c9
      clear c9
      obtain rfl := Option.some.inj H
      go_wp2
      go_ret
      exact ⟨_,zE_,by (with_reducible repeat (first|apply Kd.R_alloc|apply Kd.R_drewN|apply Kd.R_drew));exact HO_3.out,zb0 HB.out⟩

     rw [if_pos c9] at H
     have c9b0 : decide (x7_2 < (l0.length : Int)) = true := deT c9
     clear c9
     by_cases c10 : 0 ≤ x7_2
     rotate_left
     ·rw [if_neg c10] at H
      exact absurd H (by simp)
     rw [if_pos c10] at H
     have c10b0 : decide (0 ≤ x7_2) = true := deT c10
     clear c10
     replace H := obS H
     obtain ⟨t716,A110,H⟩ := H
     replace H : (if t716 = true then (spec_lean.l1 k2 l0 x3_2 x4_2 x6_2 (wrap64 (x7_2 + 1))) else (if ((rd_T49 l0 x7_2).f0) = 15 then (if 0 ≤ ((rd_T49 l0 x7_2).f1) then (if ((rd_T49 l0 x7_2).f1) < (x4_2.length : Int) then (spec_lean.j2 k2 l0 x3_2 x4_2 x6_2 x7_2 (decide ((rd x4_2 ((rd_T49 l0 x7_2).f1)) < 0)) ((rd_T49 l0 x7_2).f0) ((rd_T49 l0 x7_2).f1)) else (none)) else (none)) else (spec_lean.j2 k2 l0 x3_2 x4_2 x6_2 x7_2 false ((rd_T49 l0 x7_2).f0) ((rd_T49 l0 x7_2).f1)))) = some r := H
     have A11 := As_ A110
     clear A110
     by_cases c12 : t716 = true
     ·subst c12
      have H1 : (spec_lean.l1 k2 l0 x3_2 x4_2 x6_2 (wrap64 (x7_2 + 1))) = some r := by rw [if_pos rfl] at H;exact H
      clear H
      have H := H1
      clear H1
      have H' := As_ H
      clear H
      have p714 : 0 ≤ (x7_2 : Int) := odT zA_
      have q714 : x7_2 < (l0.length : Int) := odT zA_
      obtain ⟨ad714,e714,hx714_0,hx714_1⟩ := at_T49 HR0.out x7_2 p714 q714
      cases e714
      replace hx714_0 := bwC HB.out hx714_0
      replace hx714_1 := bwC HB.out hx714_1
      replace p714 := eq_true p714
      replace q714 := eq_true q714
      go_wp2_with (first|((with_reducible refine gate_dst (N := 8) rfl ?_);refine box_event ?hg (N := 8) ?hd (cs := #[.int .i64 0,.int .i64 0]) (t := 49) ?hr ?_;(case hd => rfl);(case hg => rfl);(case hr => go_simp <;> rfl);intro gb715 hg w13 hbox hb;have n0_ := As_ (Kd.R_below (Kd.R_elderB (zR_ HO_3.out) gb715 (Nat.le_of_eq hg.symm)) hb);have n1_ := As_ (Kd.R_below (zR_ HO_4.out) hb);have n2_ := As_ (bwT (zb0 HB.out) hb);have n3_ := As_ (hbox);have n4_ := As_ ((by rw [hg];exact (bwZ (zb0 HB.out)) : w.heap.size ≤ gb715));have n5_ := As_ ((by rw [hg];exact (bwZ (zb0 HB.out)) : w.heap.size ≤ gb715));clear HO_3 HO_4 HB;revert n0_ n1_ n2_ n3_ n4_ n5_;intro HO_3 HO_4 HB BK715 GW715 GE715;clear hb hbox hg;obtain ⟨hcz14_0,hcz14_1,hfz14_0,hfz14_1⟩ := bk2 BK715.out)|((with_reducible refine gate_callee (f := 64) rfl ?_);refine goesL_ (some 30) rfl rfl Try.func64 (by kernel_rfl) rfl #[.slice (some ad714) l0.length c0,.int .i64 x7_2] rfl zM_ ?_;(with_reducible refine (spec_idle.calls k2 _ _ l0 x7_2 true _ ?side1 ?side2 A11.out).mono ?_);(case side1 => exact Kd.C_below HR0.out (zb1 HB.out GE715.out));(case side2 => exact HC0.out);rintro e w' ⟨rfl,⟨nd,rfl⟩⟩;refine ⟨_,rfl,?_⟩))
      go_roundg k2
      case measure => have := HK1.out;have := HK2.out;omega
      case rel => exact ⟨(x3_2),(x4_2),(x6_2),(wrap64 (x7_2 + 1)),zT_,zT_,H',⟨by have := HK1.out;have := HK2.out;omega⟩,⟨by (with_reducible repeat (first|apply Kd.R_alloc|apply Kd.R_drewN|apply Kd.R_drew));exact Kd.R_mono (Kd.R_far (p := ⟨gb715,1,none⟩) (Kd.R_far (p := ⟨gb715,0,none⟩) (Kd.R_mono HO_3.out (fun k_ hk => (⟨hk,hk.2⟩ : _ ∧ k_ ≠ gb715))) (fun _ hk => hk.2) (.int .i64 ((rd_T49 l0 x7_2).f0))) (fun _ hk => hk.2) (.int .i64 ((rd_T49 l0 x7_2).f1))) (fun _ hk => trivial)⟩,⟨by (with_reducible repeat (first|apply Kd.R_alloc|apply Kd.R_drewN|apply Kd.R_drew));exact Kd.R_mono (Kd.R_far (p := ⟨gb715,1,none⟩) (Kd.R_far (p := ⟨gb715,0,none⟩) (Kd.R_types HO_4.out BK715.out (by decide)) (fun _ hk => hk.2) (.int .i64 ((rd_T49 l0 x7_2).f0))) (fun _ hk => hk.2) (.int .i64 ((rd_T49 l0 x7_2).f1))) (fun _ hk => trivial)⟩,⟨zb1 HB.out GE715.out⟩⟩
     replace c12 := Bool.eq_false_iff.mpr c12
     subst c12
     have H1 : (if ((rd_T49 l0 x7_2).f0) = 15 then (if 0 ≤ ((rd_T49 l0 x7_2).f1) then (if ((rd_T49 l0 x7_2).f1) < (x4_2.length : Int) then (spec_lean.j2 k2 l0 x3_2 x4_2 x6_2 x7_2 (decide ((rd x4_2 ((rd_T49 l0 x7_2).f1)) < 0)) ((rd_T49 l0 x7_2).f0) ((rd_T49 l0 x7_2).f1)) else (none)) else (none)) else (spec_lean.j2 k2 l0 x3_2 x4_2 x6_2 x7_2 false ((rd_T49 l0 x7_2).f0) ((rd_T49 l0 x7_2).f1))) = some r := by rw [if_neg (show ¬ (false = true) by decide)] at H;exact H
     clear H
     have H := H1
     clear H1
     have HC15 := As_ H
     clear H
     have p714 : 0 ≤ (x7_2 : Int) := odT zA_
     have q714 : x7_2 < (l0.length : Int) := odT zA_
     obtain ⟨ad714,e714,hx714_0,hx714_1⟩ := at_T49 HR0.out x7_2 p714 q714
     cases e714
     replace hx714_0 := bwC HB.out hx714_0
     replace hx714_1 := bwC HB.out hx714_1
     replace p714 := eq_true p714
     replace q714 := eq_true q714
     go_upto_region 13 with (first|((with_reducible refine gate_dst (N := 8) rfl ?_);refine box_event ?hg (N := 8) ?hd (cs := #[.int .i64 0,.int .i64 0]) (t := 49) ?hr ?_;(case hd => rfl);(case hg => rfl);(case hr => go_simp <;> rfl);intro gb715 hg w16 hbox hb;have n0_ := As_ (Kd.R_below (Kd.R_elderB (zR_ HO_3.out) gb715 (Nat.le_of_eq hg.symm)) hb);have n1_ := As_ (Kd.R_below (zR_ HO_4.out) hb);have n2_ := As_ (bwT (zb0 HB.out) hb);have n3_ := As_ (hbox);have n4_ := As_ ((by rw [hg];exact (bwZ (zb0 HB.out)) : w.heap.size ≤ gb715));have n5_ := As_ ((by rw [hg];exact (bwZ (zb0 HB.out)) : w.heap.size ≤ gb715));clear HO_3 HO_4 HB;revert n0_ n1_ n2_ n3_ n4_ n5_;intro HO_3 HO_4 HB BK715 GW715 GE715;clear hb hbox hg;obtain ⟨hcz17_0,hcz17_1,hfz17_0,hfz17_1⟩ := bk2 BK715.out)|((with_reducible refine gate_callee (f := 64) rfl ?_);refine goesL_ (some 30) rfl rfl Try.func64 (by kernel_rfl) rfl #[.slice (some ad714) l0.length c0,.int .i64 x7_2] rfl zM_ ?_;(with_reducible refine (spec_idle.calls k2 _ _ l0 x7_2 false _ ?side1 ?side2 A11.out).mono ?_);(case side1 => exact Kd.C_below HR0.out (zb1 HB.out GE715.out));(case side2 => exact HC0.out);rintro e w' ⟨rfl,⟨nd,rfl⟩⟩;refine ⟨_,rfl,?_⟩))
     (try simp only [Act.put,List.setIfInBounds_toArray,List.set_cons_zero,List.set_cons_succ])
     go_cut [41] (fun v41 wc => ∃ (kq : Nat) (x41_14 : Bool),v41 = .bool x41_14 ∧ Aside0 (spec_lean.j2 kq l0 x3_2 x4_2 x6_2 x7_2 x41_14 ((rd_T49 l0 x7_2).f0) ((rd_T49 l0 x7_2).f1) = some r) ∧ Aside0 (kq ≤ k2) ∧ Aside0 (Kd.R k49 49 wc w.heap.size (fun k_ => k_ ≠ gb715) u3 x3_2) ∧ Aside0 (Kd.R (Kd.int .i64) 3 wc w.heap.size (fun _ => True) u4 x4_2) ∧ Aside0 (wc.heap[gb715]? = some (.cells #[.int .i64 ((rd_T49 l0 x7_2).f0),.int .i64 ((rd_T49 l0 x7_2).f1)] 49 (0,0))) ∧ Aside0 (Below w.heap.size w wc))
     case first =>
      have H := HC15.out
      clear HC15
      by_cases c18 : ((rd_T49 l0 x7_2).f0) = 15
      rotate_left
      ·rw [if_neg c18] at H
       have c18b0 : (((rd_T49 l0 x7_2).f0) == 15) = false := beq_eq_false_iff_ne.mpr c18
       have c18b1 : (((rd_T49 l0 x7_2).f0) != 15) = true := bne_iff_ne.mpr c18
       (first|rw [c18b0]|(simp only [i64_w,i32_w];rw [c18b0])|skip)
       have H' := As_ H
       clear H
       obtain ⟨hcz23_0,hcz23_1,hfz23_0,hfz23_1⟩ := bk2 BK715.out
       go_wp2
       go_meet
       case rel => exact ⟨_,(false),zT_,H',⟨by have := HK1.out;have := HK2.out;first|omega|exact Nat.le_refl _⟩,⟨by (with_reducible repeat (first|apply Kd.R_alloc|apply Kd.R_drewN|apply Kd.R_drew));exact Kd.R_mono (Kd.R_far (p := ⟨gb715,1,none⟩) (Kd.R_far (p := ⟨gb715,0,none⟩) (Kd.R_mono HO_3.out (fun k_ hk => (⟨hk,hk.2⟩ : _ ∧ k_ ≠ gb715))) (fun _ hk => hk.2) (.int .i64 ((rd_T49 l0 x7_2).f0))) (fun _ hk => hk.2) (.int .i64 ((rd_T49 l0 x7_2).f1))) (fun _ hk => hk.1.2)⟩,⟨by (with_reducible repeat (first|apply Kd.R_alloc|apply Kd.R_drewN|apply Kd.R_drew));exact Kd.R_mono (Kd.R_far (p := ⟨gb715,1,none⟩) (Kd.R_far (p := ⟨gb715,0,none⟩) (Kd.R_types HO_4.out BK715.out (by decide)) (fun _ hk => hk.2) (.int .i64 ((rd_T49 l0 x7_2).f0))) (fun _ hk => hk.2) (.int .i64 ((rd_T49 l0 x7_2).f1))) (fun _ hk => trivial)⟩,⟨by (with_reducible repeat first|apply bkN|apply bkD|apply bkA);refine blk_put (cs := #[.int .i64 ((rd_T49 l0 x7_2).f0),.int .i64 0]) ?_ 1 _ rfl;(with_reducible repeat first|apply bkN|apply bkD|apply bkA);refine blk_put (cs := #[.int .i64 0,.int .i64 0]) ?_ 0 _ rfl;(with_reducible repeat first|apply bkN|apply bkD|apply bkA);exact BK715.out⟩,⟨zb1 HB.out GE715.out⟩⟩
      rw [if_pos c18] at H
      have c18b0 : (((rd_T49 l0 x7_2).f0) == 15) = true := beq_iff_eq.mpr c18
      have c18b1 : (((rd_T49 l0 x7_2).f0) != 15) = false := bne_eq_false_iff_eq.mpr c18
      clear c18
      (first|rw [c18b0]|(simp only [i64_w,i32_w];rw [c18b0])|skip)
      by_cases c19 : 0 ≤ ((rd_T49 l0 x7_2).f1)
      rotate_left
      ·rw [if_neg c19] at H
       exact absurd H (by simp)
      rw [if_pos c19] at H
      have c19b0 : decide (0 ≤ ((rd_T49 l0 x7_2).f1)) = true := deT c19
      clear c19
      by_cases c20 : ((rd_T49 l0 x7_2).f1) < (x4_2.length : Int)
      rotate_left
      ·rw [if_neg c20] at H
       exact absurd H (by simp)
      rw [if_pos c20] at H
      have c20b0 : decide (((rd_T49 l0 x7_2).f1) < (x4_2.length : Int)) = true := deT c20
      clear c20
      have H' := As_ H
      clear H
      obtain ⟨hcz21_0,hcz21_1,hfz21_0,hfz21_1⟩ := bk2 BK715.out
      obtain ⟨Ao22,co22,eo22⟩ := Kd.R_slice HO_4.out
      subst eo22
      have p717 : 0 ≤ (((rd_T49 l0 x7_2).f1) : Int) := odT zA_
      have q717 : ((rd_T49 l0 x7_2).f1) < (x4_2.length : Int) := odT zA_
      obtain ⟨ad717,e717,hx717_0⟩ := Kd.at_int (Kd.R_reads' HO_4.out).2.2 ((rd_T49 l0 x7_2).f1) p717 q717
      cases e717
      have hn717_0 : ad717.block ≠ gb715 := Kd.own_blk (Kd.R_ne HO_4.out BK715.out (by decide))
      have hn717_1 : ad717.block ≠ gb715 := Kd.own_blk (Kd.R_ne HO_4.out BK715.out (by decide))
      replace hx717_0 := (cell_far (p := ⟨gb715,0,none⟩) (by first|(rw [add_block];exact hn717_0)|(show (Addr.add _ _).block ≠ _;rw [add_block];exact hn717_0)|exact hn717_0) (.int .i64 ((rd_T49 l0 x7_2).f0))).trans hx717_0
      replace hx717_0 := (cell_far (p := ⟨gb715,1,none⟩) (by first|(rw [add_block];exact hn717_1)|(show (Addr.add _ _).block ≠ _;rw [add_block];exact hn717_1)|exact hn717_1) (.int .i64 ((rd_T49 l0 x7_2).f1))).trans hx717_0
      clear hn717_0 hn717_1
      replace p717 := eq_true p717
      replace q717 := eq_true q717
      go_wp2
      go_meet
      case rel => exact ⟨_,(decide ((rd x4_2 ((rd_T49 l0 x7_2).f1)) < 0)),zT_,H',⟨by have := HK1.out;have := HK2.out;first|omega|exact Nat.le_refl _⟩,⟨by (with_reducible repeat (first|apply Kd.R_alloc|apply Kd.R_drewN|apply Kd.R_drew));exact Kd.R_mono (Kd.R_far (p := ⟨gb715,1,none⟩) (Kd.R_far (p := ⟨gb715,0,none⟩) (Kd.R_mono HO_3.out (fun k_ hk => (⟨hk,hk.2⟩ : _ ∧ k_ ≠ gb715))) (fun _ hk => hk.2) (.int .i64 ((rd_T49 l0 x7_2).f0))) (fun _ hk => hk.2) (.int .i64 ((rd_T49 l0 x7_2).f1))) (fun _ hk => hk.1.2)⟩,⟨by (with_reducible repeat (first|apply Kd.R_alloc|apply Kd.R_drewN|apply Kd.R_drew));exact Kd.R_mono (Kd.R_far (p := ⟨gb715,1,none⟩) (Kd.R_far (p := ⟨gb715,0,none⟩) (Kd.R_types HO_4.out BK715.out (by decide)) (fun _ hk => hk.2) (.int .i64 ((rd_T49 l0 x7_2).f0))) (fun _ hk => hk.2) (.int .i64 ((rd_T49 l0 x7_2).f1))) (fun _ hk => trivial)⟩,⟨by (with_reducible repeat first|apply bkN|apply bkD|apply bkA);refine blk_put (cs := #[.int .i64 ((rd_T49 l0 x7_2).f0),.int .i64 0]) ?_ 1 _ rfl;(with_reducible repeat first|apply bkN|apply bkD|apply bkA);refine blk_put (cs := #[.int .i64 0,.int .i64 0]) ?_ 0 _ rfl;(with_reducible repeat first|apply bkN|apply bkD|apply bkA);exact BK715.out⟩,⟨zb1 HB.out GE715.out⟩⟩
     case rest =>
      clear HC15
      obtain ⟨kq,x41_14,rfl,HA,HJ14,HO_3,HO_4,BK715,HB⟩ := hcut
      cases kq with
      | zero => exact absurd HA.out (fun h_ => (by cases h_))
      | succ kj14 =>
       have H := HA.out
       clear HA
       simp only [spec_lean.j2] at H
       by_cases c24 : x41_14 = true
       ·subst c24
        have H1 : (if 0 ≤ ((rd_T49 l0 x7_2).f1) then (if ((rd_T49 l0 x7_2).f1) < (x4_2.length : Int) then ((some (x4_2.set (((rd_T49 l0 x7_2).f1) : Int).toNat x6_2 : List Int)).bind fun y718 => (if ((rd_T49 l0 x7_2).f0) = 15 then (if (rd y718 ((rd_T49 l0 x7_2).f1)) ≥ 0 then (if x3_2.length < 8796093022208 then (spec_lean.l1 kj14 l0 (x3_2 ++ [(⟨((rd_T49 l0 x7_2).f0),rd y718 ((rd_T49 l0 x7_2).f1)⟩ : S49)]) y718 (wrap64 (x6_2 + 1)) (wrap64 (x7_2 + 1))) else (none)) else (if x3_2.length < 8796093022208 then (spec_lean.l1 kj14 l0 (x3_2 ++ [(⟨((rd_T49 l0 x7_2).f0),((rd_T49 l0 x7_2).f1)⟩ : S49)]) y718 (wrap64 (x6_2 + 1)) (wrap64 (x7_2 + 1))) else (none))) else (if ((rd_T49 l0 x7_2).f0) = 16 then (if (rd y718 ((rd_T49 l0 x7_2).f1)) ≥ 0 then (if x3_2.length < 8796093022208 then (spec_lean.l1 kj14 l0 (x3_2 ++ [(⟨((rd_T49 l0 x7_2).f0),rd y718 ((rd_T49 l0 x7_2).f1)⟩ : S49)]) y718 (wrap64 (x6_2 + 1)) (wrap64 (x7_2 + 1))) else (none)) else (if x3_2.length < 8796093022208 then (spec_lean.l1 kj14 l0 (x3_2 ++ [(⟨((rd_T49 l0 x7_2).f0),((rd_T49 l0 x7_2).f1)⟩ : S49)]) y718 (wrap64 (x6_2 + 1)) (wrap64 (x7_2 + 1))) else (none))) else (if x3_2.length < 8796093022208 then (spec_lean.l1 kj14 l0 (x3_2 ++ [(⟨((rd_T49 l0 x7_2).f0),((rd_T49 l0 x7_2).f1)⟩ : S49)]) y718 (wrap64 (x6_2 + 1)) (wrap64 (x7_2 + 1))) else (none))))) else (none)) else (none)) = some r := by rw [if_pos rfl] at H;exact H
        clear H
        have H := H1
        clear H1
        by_cases c25 : 0 ≤ ((rd_T49 l0 x7_2).f1)
        rotate_left
        ·rw [if_neg c25] at H
         exact absurd H (by simp)
        rw [if_pos c25] at H
        have c25b0 : decide (0 ≤ ((rd_T49 l0 x7_2).f1)) = true := deT c25
        clear c25
        by_cases c26 : ((rd_T49 l0 x7_2).f1) < (x4_2.length : Int)
        rotate_left
        ·rw [if_neg c26] at H
         exact absurd H (by simp)
        rw [if_pos c26] at H
        have c26b0 : decide (((rd_T49 l0 x7_2).f1) < (x4_2.length : Int)) = true := deT c26
        clear c26
        obtain ⟨y718,hy718⟩ : ∃ y_ : List Int,y_ = (x4_2.set (((rd_T49 l0 x7_2).f1) : Int).toNat x6_2) := ⟨_,rfl⟩
        replace H : (if ((rd_T49 l0 x7_2).f0) = 15 then (if (rd y718 ((rd_T49 l0 x7_2).f1)) ≥ 0 then (if x3_2.length < 8796093022208 then (spec_lean.l1 kj14 l0 (x3_2 ++ [(⟨((rd_T49 l0 x7_2).f0),rd y718 ((rd_T49 l0 x7_2).f1)⟩ : S49)]) y718 (wrap64 (x6_2 + 1)) (wrap64 (x7_2 + 1))) else (none)) else (if x3_2.length < 8796093022208 then (spec_lean.l1 kj14 l0 (x3_2 ++ [(⟨((rd_T49 l0 x7_2).f0),((rd_T49 l0 x7_2).f1)⟩ : S49)]) y718 (wrap64 (x6_2 + 1)) (wrap64 (x7_2 + 1))) else (none))) else (if ((rd_T49 l0 x7_2).f0) = 16 then (if (rd y718 ((rd_T49 l0 x7_2).f1)) ≥ 0 then (if x3_2.length < 8796093022208 then (spec_lean.l1 kj14 l0 (x3_2 ++ [(⟨((rd_T49 l0 x7_2).f0),rd y718 ((rd_T49 l0 x7_2).f1)⟩ : S49)]) y718 (wrap64 (x6_2 + 1)) (wrap64 (x7_2 + 1))) else (none)) else (if x3_2.length < 8796093022208 then (spec_lean.l1 kj14 l0 (x3_2 ++ [(⟨((rd_T49 l0 x7_2).f0),((rd_T49 l0 x7_2).f1)⟩ : S49)]) y718 (wrap64 (x6_2 + 1)) (wrap64 (x7_2 + 1))) else (none))) else (if x3_2.length < 8796093022208 then (spec_lean.l1 kj14 l0 (x3_2 ++ [(⟨((rd_T49 l0 x7_2).f0),((rd_T49 l0 x7_2).f1)⟩ : S49)]) y718 (wrap64 (x6_2 + 1)) (wrap64 (x7_2 + 1))) else (none)))) = some r := zH_ H hy718
        have Ny718 := As_ hy718
        clear hy718
        by_cases c28 : ((rd_T49 l0 x7_2).f0) = 15
        ·rw [if_pos c28] at H
         have c28b0 : (((rd_T49 l0 x7_2).f0) == 15) = true := beq_iff_eq.mpr c28
         have c28b1 : (((rd_T49 l0 x7_2).f0) != 15) = false := bne_eq_false_iff_eq.mpr c28
         clear c28
         by_cases c29 : (rd y718 ((rd_T49 l0 x7_2).f1)) ≥ 0
         ·rw [if_pos c29] at H
          have c29b0 : decide (0 ≤ (rd y718 ((rd_T49 l0 x7_2).f1))) = true := deT c29
          clear c29
          by_cases c30 : x3_2.length < 8796093022208
          rotate_left
          ·rw [if_neg c30] at H
           exact absurd H (by simp)
          rw [if_pos c30] at H
          have LMc30 := As_ c30
          clear c30
          obtain ⟨y721,hy721⟩ : ∃ y_ : List (S49),y_ = (x3_2 ++ [(⟨((rd_T49 l0 x7_2).f0),rd y718 ((rd_T49 l0 x7_2).f1)⟩ : S49)]) := ⟨_,rfl⟩
          replace H : (spec_lean.l1 kj14 l0 y721 y718 (wrap64 (x6_2 + 1)) (wrap64 (x7_2 + 1))) = some r := zH_ H hy721
          have Ny721 := As_ hy721
          clear hy721
          have H' := As_ H
          clear H
          obtain ⟨hcz31_0,hcz31_1,hfz31_0,hfz31_1⟩ := bk2 BK715.out
          have p27 : 0 ≤ (((rd_T49 l0 x7_2).f1) : Int) := odT zA_
          have q27 : (((rd_T49 l0 x7_2).f1) : Int) < ((x4_2.length : Int) : Int) := odT zA_
          obtain ⟨go27,co27,eo27,gb27,gl27,cl27,HG27⟩ := Kd.R_form HO_4.out (by omega)
          (first|cases eo27|(injection eo27 with ea_ en_ ec_;(first|subst ea_|(injection ea_ with ea_;subst ea_));subst ec_;clear en_))
          have GB27 := As_ gb27
          have GG27 := As_ HG27
          clear gb27 gl27 HG27
          obtain ⟨hx27_0,hf27_0⟩ := Kd.R_celln 0 HO_4.out (((rd_T49 l0 x7_2).f1) : Int) p27 q27
          replace p27 := eq_true p27
          replace q27 := eq_true q27
          have HP32 := Kd.R_putg HO_4.out (((rd_T49 l0 x7_2).f1) : Int) x6_2
          go_wp2_with (first|((with_reducible refine gate_store (t := 3) (p := 46) rfl ?_);refine store_event (t := 3) (p := 46) (v := ?vo_w33) (w1 := (wc.setCell ⟨go27,(((rd_T49 l0 x7_2).f1) : Int).toNat,none⟩ (.int .i64 x6_2))) ?hg ?ho ?hn ?hr ?_;(case ho => rfl);(case hg => rfl);(case hn => rfl);(case hr => go_simp <;> rfl);intro w33 hw;have hg : wc.grownBy w33 (some go27) := (by rw [hw];exact HP32.2);have hp_ : Kd.R (Kd.int .i64) 3 w33 w.heap.size (fun _ => True) (.slice (some ⟨go27,0,none⟩) x4_2.length co27) y718 := (by rw [hw,Ny718.out];exact HP32.1);clear HP32;have n0_ := As_ (Kd.R_over' (v := (.slice (some ⟨go27,0,none⟩) x4_2.length co27)) (zR_ HO_3.out) (Kd.R_typed HO_4.out) (by decide) hg);have n1_ := As_ (hp_);have n2_ := As_ (blk_grown (g := gb715) (o := .cells #[.int .i64 ((rd_T49 l0 x7_2).f0),.int .i64 ((rd_T49 l0 x7_2).f1)] 49 (0,0)) (zk_ BK715.out) hg (Kd.R_ne HO_4.out BK715.out (by decide)));have n3_ := As_ ((by rw [hw];exact bwS (HB.out) GB27.out : Below w.heap.size w w33));clear HO_3 HO_4 BK715 HB;revert n0_ n1_ n2_ n3_;intro HO_3 HO_4 BK715 HB;clear hg hw hp_;obtain ⟨hcz34_0,hcz34_1,hfz34_0,hfz34_1⟩ := bk2 BK715.out;have p719 : 0 ≤ (((rd_T49 l0 x7_2).f1) : Int) := odT zA_;have q719 : ((rd_T49 l0 x7_2).f1) < (y718.length : Int) := (by have h_ : (((rd_T49 l0 x7_2).f1) : Int) < ((x4_2.length : Int) : Int) := odT zA_;first|(have e_ := (Kd.R_reads' HO_4.out).1;omega)|simpa only [Ny718.out,List.length_set] using h_);have ql719 : ((((rd_T49 l0 x7_2).f1) : Int) < ((x4_2.length : Int) : Int)) = True := eq_true (odT zA_);obtain ⟨ad719,e719,hx719_0⟩ := Kd.at_int (Kd.R_reads' HO_4.out).2.2 ((rd_T49 l0 x7_2).f1) p719 q719;obtain rfl : (⟨go27,0,none⟩ : Addr) = ad719 := (by injection e719);(first|simp only [add_plain] at hx719_0|simp only [add_at] at hx719_0|simp only [Addr.add,Nat.zero_add] at hx719_0|skip);replace p719 := eq_true p719;replace q719 := eq_true q719;have p720 : 0 ≤ (((rd_T49 l0 x7_2).f1) : Int) := odT zA_;have q720 : ((rd_T49 l0 x7_2).f1) < (y718.length : Int) := (by have h_ : (((rd_T49 l0 x7_2).f1) : Int) < ((x4_2.length : Int) : Int) := odT zA_;first|(have e_ := (Kd.R_reads' HO_4.out).1;omega)|simpa only [Ny718.out,List.length_set] using h_);have ql720 : ((((rd_T49 l0 x7_2).f1) : Int) < ((x4_2.length : Int) : Int)) = True := eq_true (odT zA_);obtain ⟨ad720,e720,hx720_0⟩ := Kd.at_int (Kd.R_reads' HO_4.out).2.2 ((rd_T49 l0 x7_2).f1) p720 q720;obtain rfl : (⟨go27,0,none⟩ : Addr) = ad720 := (by injection e720);(first|simp only [add_plain] at hx720_0|simp only [add_at] at hx720_0|simp only [Addr.add,Nat.zero_add] at hx720_0|skip);replace p720 := eq_true p720;replace q720 := eq_true q720)|((with_reducible refine gate_builtin (b := .append) (xs := #[.tmp 71,.tmp 73]) rfl ?_);at_builtin;refine Kd.R_append k49 (w0 := w) w.heap.size rfl (.tmp 71) (.tmp 73) 25 49 (.agg #[(.int .i64 0),(.int .i64 0)]) 16 rfl Try.underlying25 info49 rfl (by decide) (by omega) u3 x3_2 (⟨((rd_T49 l0 x7_2).f0),rd y718 ((rd_T49 l0 x7_2).f1)⟩ : S49) [.int .i64 ((rd_T49 l0 x7_2).f0),.int .i64 (rd y718 ((rd_T49 l0 x7_2).f1))] (fun k_ => k_ ≠ gb715) (fun _ => False) rfl (by go_simp <;> rfl) ?aP (fun _ hk => hk.elim) ?aF ?aO ?aB ?aS ?aL ?_;(case aP => exact k49_mkM _ _ _ (⟨((rd_T49 l0 x7_2).f0),rd y718 ((rd_T49 l0 x7_2).f1)⟩ : S49));(case aB => exact (zb1 HB.out GE715.out));(case aF => exact (fun k_ hk => Kd.freshB (g := gb715) (o := .cells #[.int .i64 ((rd_T49 l0 x7_2).f0),.int .i64 (rd y718 ((rd_T49 l0 x7_2).f1))] 49 (0,0)) (by (with_reducible repeat first|apply bkN|apply bkD|apply bkA);refine blk_put (cs := #[.int .i64 ((rd_T49 l0 x7_2).f0),.int .i64 ((rd_T49 l0 x7_2).f1)]) ?_ 1 _ rfl;(with_reducible repeat first|apply bkN|apply bkD|apply bkA);exact BK715.out) k_ hk));(case aO => exact (by (with_reducible repeat (first|apply Kd.R_alloc|apply Kd.R_drewN|apply Kd.R_drew));exact Kd.R_mono (Kd.R_far (p := ⟨gb715,1,none⟩) (Kd.R_mono HO_3.out (fun k_ hk => (⟨hk,hk⟩ : _ ∧ k_ ≠ gb715))) (fun _ hk => hk.2) (.int .i64 (rd y718 ((rd_T49 l0 x7_2).f1)))) (fun _ hk => hk.1)));(case aS => exact (bwZ (zb1 HB.out GE715.out)));(case aL => have := LMc30.out;omega);intro v722 w35 ho hb hg hat;rw [← Ny721.out] at ho;have n0_ := As_ (Kd.R_over' (by (with_reducible repeat (first|apply Kd.R_alloc|apply Kd.R_drewN|apply Kd.R_drew));exact (Kd.R_mono (Kd.R_far (p := ⟨gb715,1,none⟩) (Kd.R_types HO_4.out BK715.out (by decide)) (fun _ hk => hk.2) (.int .i64 (rd y718 ((rd_T49 l0 x7_2).f1)))) (fun _ h_ => h_.1))) (Kd.R_typed (by (with_reducible repeat (first|apply Kd.R_alloc|apply Kd.R_drewN|apply Kd.R_drew));exact (Kd.R_mono (Kd.R_far (p := ⟨gb715,1,none⟩) (Kd.R_mono HO_3.out (fun k_ hk => (⟨hk,hk⟩ : _ ∧ k_ ≠ gb715))) (fun _ hk => hk.2) (.int .i64 (rd y718 ((rd_T49 l0 x7_2).f1)))) (fun _ h_ => h_.1)))) (by decide) hg);have n1_ := As_ (blk_grown (g := gb715) (o := .cells #[.int .i64 ((rd_T49 l0 x7_2).f0),.int .i64 (rd y718 ((rd_T49 l0 x7_2).f1))] 49 (0,0)) (by (with_reducible repeat first|apply bkN|apply bkD|apply bkA);refine blk_put (cs := #[.int .i64 ((rd_T49 l0 x7_2).f0),.int .i64 ((rd_T49 l0 x7_2).f1)]) ?_ 1 _ rfl;(with_reducible repeat first|apply bkN|apply bkD|apply bkA);exact BK715.out) hg (Kd.R_away HO_3.out (fun _ hk => hk)));have n2_ := As_ (hb);have n3_ := As_ (ho);clear HO_4 BK715 HB HO_3;revert n0_ n1_ n2_ n3_;intro HO_4 BK715 HB HO723;clear ho hb hg hat))
          go_roundg kj14
          case measure => have := HK1.out;have := HK2.out;have := HJ14.out;omega
          case rel => exact ⟨(y721),(y718),(wrap64 (x6_2 + 1)),(wrap64 (x7_2 + 1)),zT_,zT_,H',⟨by have := HK1.out;have := HK2.out;have := HJ14.out;omega⟩,⟨by (with_reducible repeat (first|apply Kd.R_alloc|apply Kd.R_drewN|apply Kd.R_drew));exact Kd.R_mono HO723.out (fun _ hk => trivial)⟩,⟨by (with_reducible repeat (first|apply Kd.R_alloc|apply Kd.R_drewN|apply Kd.R_drew));exact HO_4.out⟩,⟨zb1 HB.out GE715.out⟩⟩
         rw [if_neg c29] at H
         have c29b0 : decide (0 ≤ (rd y718 ((rd_T49 l0 x7_2).f1))) = false := deF c29
         clear c29
         by_cases c36 : x3_2.length < 8796093022208
         rotate_left
         ·rw [if_neg c36] at H
          exact absurd H (by simp)
         rw [if_pos c36] at H
         have LMc36 := As_ c36
         clear c36
         obtain ⟨y724,hy724⟩ : ∃ y_ : List (S49),y_ = (x3_2 ++ [(⟨((rd_T49 l0 x7_2).f0),((rd_T49 l0 x7_2).f1)⟩ : S49)]) := ⟨_,rfl⟩
         replace H : (spec_lean.l1 kj14 l0 y724 y718 (wrap64 (x6_2 + 1)) (wrap64 (x7_2 + 1))) = some r := zH_ H hy724
         have Ny724 := As_ hy724
         clear hy724
         have H' := As_ H
         clear H
         obtain ⟨hcz37_0,hcz37_1,hfz37_0,hfz37_1⟩ := bk2 BK715.out
         have p27 : 0 ≤ (((rd_T49 l0 x7_2).f1) : Int) := odT zA_
         have q27 : (((rd_T49 l0 x7_2).f1) : Int) < ((x4_2.length : Int) : Int) := odT zA_
         obtain ⟨go27,co27,eo27,gb27,gl27,cl27,HG27⟩ := Kd.R_form HO_4.out (by omega)
         (first|cases eo27|(injection eo27 with ea_ en_ ec_;(first|subst ea_|(injection ea_ with ea_;subst ea_));subst ec_;clear en_))
         have GB27 := As_ gb27
         have GG27 := As_ HG27
         clear gb27 gl27 HG27
         obtain ⟨hx27_0,hf27_0⟩ := Kd.R_celln 0 HO_4.out (((rd_T49 l0 x7_2).f1) : Int) p27 q27
         replace p27 := eq_true p27
         replace q27 := eq_true q27
         have HP38 := Kd.R_putg HO_4.out (((rd_T49 l0 x7_2).f1) : Int) x6_2
         go_wp2_with (first|((with_reducible refine gate_store (t := 3) (p := 46) rfl ?_);refine store_event (t := 3) (p := 46) (v := ?vo_w39) (w1 := (wc.setCell ⟨go27,(((rd_T49 l0 x7_2).f1) : Int).toNat,none⟩ (.int .i64 x6_2))) ?hg ?ho ?hn ?hr ?_;(case ho => rfl);(case hg => rfl);(case hn => rfl);(case hr => go_simp <;> rfl);intro w39 hw;have hg : wc.grownBy w39 (some go27) := (by rw [hw];exact HP38.2);have hp_ : Kd.R (Kd.int .i64) 3 w39 w.heap.size (fun _ => True) (.slice (some ⟨go27,0,none⟩) x4_2.length co27) y718 := (by rw [hw,Ny718.out];exact HP38.1);clear HP38;have n0_ := As_ (Kd.R_over' (v := (.slice (some ⟨go27,0,none⟩) x4_2.length co27)) (zR_ HO_3.out) (Kd.R_typed HO_4.out) (by decide) hg);have n1_ := As_ (hp_);have n2_ := As_ (blk_grown (g := gb715) (o := .cells #[.int .i64 ((rd_T49 l0 x7_2).f0),.int .i64 ((rd_T49 l0 x7_2).f1)] 49 (0,0)) (zk_ BK715.out) hg (Kd.R_ne HO_4.out BK715.out (by decide)));have n3_ := As_ ((by rw [hw];exact bwS (HB.out) GB27.out : Below w.heap.size w w39));clear HO_3 HO_4 BK715 HB;revert n0_ n1_ n2_ n3_;intro HO_3 HO_4 BK715 HB;clear hg hw hp_;obtain ⟨hcz40_0,hcz40_1,hfz40_0,hfz40_1⟩ := bk2 BK715.out;have p719 : 0 ≤ (((rd_T49 l0 x7_2).f1) : Int) := odT zA_;have q719 : ((rd_T49 l0 x7_2).f1) < (y718.length : Int) := (by have h_ : (((rd_T49 l0 x7_2).f1) : Int) < ((x4_2.length : Int) : Int) := odT zA_;first|(have e_ := (Kd.R_reads' HO_4.out).1;omega)|simpa only [Ny718.out,List.length_set] using h_);have ql719 : ((((rd_T49 l0 x7_2).f1) : Int) < ((x4_2.length : Int) : Int)) = True := eq_true (odT zA_);obtain ⟨ad719,e719,hx719_0⟩ := Kd.at_int (Kd.R_reads' HO_4.out).2.2 ((rd_T49 l0 x7_2).f1) p719 q719;obtain rfl : (⟨go27,0,none⟩ : Addr) = ad719 := (by injection e719);(first|simp only [add_plain] at hx719_0|simp only [add_at] at hx719_0|simp only [Addr.add,Nat.zero_add] at hx719_0|skip);replace p719 := eq_true p719;replace q719 := eq_true q719)|((with_reducible refine gate_builtin (b := .append) (xs := #[.tmp 71,.tmp 73]) rfl ?_);at_builtin;refine Kd.R_append k49 (w0 := w) w.heap.size rfl (.tmp 71) (.tmp 73) 25 49 (.agg #[(.int .i64 0),(.int .i64 0)]) 16 rfl Try.underlying25 info49 rfl (by decide) (by omega) u3 x3_2 (⟨((rd_T49 l0 x7_2).f0),((rd_T49 l0 x7_2).f1)⟩ : S49) [.int .i64 ((rd_T49 l0 x7_2).f0),.int .i64 ((rd_T49 l0 x7_2).f1)] (fun k_ => k_ ≠ gb715) (fun _ => False) rfl rfl ?aP (fun _ hk => hk.elim) ?aF ?aO ?aB ?aS ?aL ?_;(case aP => exact k49_mkM _ _ _ (⟨((rd_T49 l0 x7_2).f0),((rd_T49 l0 x7_2).f1)⟩ : S49));(case aB => exact (zb1 HB.out GE715.out));(case aF => exact (fun k_ hk => Kd.freshB (g := gb715) (o := .cells #[.int .i64 ((rd_T49 l0 x7_2).f0),.int .i64 ((rd_T49 l0 x7_2).f1)] 49 (0,0)) (zk_ BK715.out) k_ hk));(case aO => exact (zR_ HO_3.out));(case aS => exact (bwZ (zb1 HB.out GE715.out)));(case aL => have := LMc36.out;omega);intro v725 w41 ho hb hg hat;rw [← Ny724.out] at ho;have n0_ := As_ (Kd.R_over' (zR_ HO_4.out) (Kd.R_typed (zR_ HO_3.out)) (by decide) hg);have n1_ := As_ (blk_grown (g := gb715) (o := .cells #[.int .i64 ((rd_T49 l0 x7_2).f0),.int .i64 ((rd_T49 l0 x7_2).f1)] 49 (0,0)) (zk_ BK715.out) hg (Kd.R_away HO_3.out (fun _ hk => hk)));have n2_ := As_ (hb);have n3_ := As_ (ho);clear HO_4 BK715 HB HO_3;revert n0_ n1_ n2_ n3_;intro HO_4 BK715 HB HO726;clear ho hb hg hat))
         go_roundg kj14
         case measure => have := HK1.out;have := HK2.out;have := HJ14.out;omega
         case rel => exact ⟨(y724),(y718),(wrap64 (x6_2 + 1)),(wrap64 (x7_2 + 1)),zT_,zT_,H',⟨by have := HK1.out;have := HK2.out;have := HJ14.out;omega⟩,⟨by (with_reducible repeat (first|apply Kd.R_alloc|apply Kd.R_drewN|apply Kd.R_drew));exact Kd.R_mono HO726.out (fun _ hk => trivial)⟩,⟨by (with_reducible repeat (first|apply Kd.R_alloc|apply Kd.R_drewN|apply Kd.R_drew));exact HO_4.out⟩,⟨zb1 HB.out GE715.out⟩⟩
        rw [if_neg c28] at H
        have c28b0 : (((rd_T49 l0 x7_2).f0) == 15) = false := beq_eq_false_iff_ne.mpr c28
        have c28b1 : (((rd_T49 l0 x7_2).f0) != 15) = true := bne_iff_ne.mpr c28
        by_cases c42 : ((rd_T49 l0 x7_2).f0) = 16
        rotate_left
        ·rw [if_neg c42] at H
         have c42b0 : (((rd_T49 l0 x7_2).f0) == 16) = false := beq_eq_false_iff_ne.mpr c42
         have c42b1 : (((rd_T49 l0 x7_2).f0) != 16) = true := bne_iff_ne.mpr c42
         by_cases c56 : x3_2.length < 8796093022208
         rotate_left
         ·rw [if_neg c56] at H
          exact absurd H (by simp)
         rw [if_pos c56] at H
         have LMc56 := As_ c56
         clear c56
         obtain ⟨y735,hy735⟩ : ∃ y_ : List (S49),y_ = (x3_2 ++ [(⟨((rd_T49 l0 x7_2).f0),((rd_T49 l0 x7_2).f1)⟩ : S49)]) := ⟨_,rfl⟩
         replace H : (spec_lean.l1 kj14 l0 y735 y718 (wrap64 (x6_2 + 1)) (wrap64 (x7_2 + 1))) = some r := zH_ H hy735
         have Ny735 := As_ hy735
         clear hy735
         have H' := As_ H
         clear H
         obtain ⟨hcz57_0,hcz57_1,hfz57_0,hfz57_1⟩ := bk2 BK715.out
         have p27 : 0 ≤ (((rd_T49 l0 x7_2).f1) : Int) := odT zA_
         have q27 : (((rd_T49 l0 x7_2).f1) : Int) < ((x4_2.length : Int) : Int) := odT zA_
         obtain ⟨go27,co27,eo27,gb27,gl27,cl27,HG27⟩ := Kd.R_form HO_4.out (by omega)
         (first|cases eo27|(injection eo27 with ea_ en_ ec_;(first|subst ea_|(injection ea_ with ea_;subst ea_));subst ec_;clear en_))
         have GB27 := As_ gb27
         have GG27 := As_ HG27
         clear gb27 gl27 HG27
         obtain ⟨hx27_0,hf27_0⟩ := Kd.R_celln 0 HO_4.out (((rd_T49 l0 x7_2).f1) : Int) p27 q27
         replace p27 := eq_true p27
         replace q27 := eq_true q27
         have HP58 := Kd.R_putg HO_4.out (((rd_T49 l0 x7_2).f1) : Int) x6_2
         go_wp2_with (first|((with_reducible refine gate_store (t := 3) (p := 46) rfl ?_);refine store_event (t := 3) (p := 46) (v := ?vo_w59) (w1 := (wc.setCell ⟨go27,(((rd_T49 l0 x7_2).f1) : Int).toNat,none⟩ (.int .i64 x6_2))) ?hg ?ho ?hn ?hr ?_;(case ho => rfl);(case hg => rfl);(case hn => rfl);(case hr => go_simp <;> rfl);intro w59 hw;have hg : wc.grownBy w59 (some go27) := (by rw [hw];exact HP58.2);have hp_ : Kd.R (Kd.int .i64) 3 w59 w.heap.size (fun _ => True) (.slice (some ⟨go27,0,none⟩) x4_2.length co27) y718 := (by rw [hw,Ny718.out];exact HP58.1);clear HP58;have n0_ := As_ (Kd.R_over' (v := (.slice (some ⟨go27,0,none⟩) x4_2.length co27)) (zR_ HO_3.out) (Kd.R_typed HO_4.out) (by decide) hg);have n1_ := As_ (hp_);have n2_ := As_ (blk_grown (g := gb715) (o := .cells #[.int .i64 ((rd_T49 l0 x7_2).f0),.int .i64 ((rd_T49 l0 x7_2).f1)] 49 (0,0)) (zk_ BK715.out) hg (Kd.R_ne HO_4.out BK715.out (by decide)));have n3_ := As_ ((by rw [hw];exact bwS (HB.out) GB27.out : Below w.heap.size w w59));clear HO_3 HO_4 BK715 HB;revert n0_ n1_ n2_ n3_;intro HO_3 HO_4 BK715 HB;clear hg hw hp_;obtain ⟨hcz60_0,hcz60_1,hfz60_0,hfz60_1⟩ := bk2 BK715.out)|((with_reducible refine gate_builtin (b := .append) (xs := #[.tmp 71,.tmp 73]) rfl ?_);at_builtin;refine Kd.R_append k49 (w0 := w) w.heap.size rfl (.tmp 71) (.tmp 73) 25 49 (.agg #[(.int .i64 0),(.int .i64 0)]) 16 rfl Try.underlying25 info49 rfl (by decide) (by omega) u3 x3_2 (⟨((rd_T49 l0 x7_2).f0),((rd_T49 l0 x7_2).f1)⟩ : S49) [.int .i64 ((rd_T49 l0 x7_2).f0),.int .i64 ((rd_T49 l0 x7_2).f1)] (fun k_ => k_ ≠ gb715) (fun _ => False) rfl rfl ?aP (fun _ hk => hk.elim) ?aF ?aO ?aB ?aS ?aL ?_;(case aP => exact k49_mkM _ _ _ (⟨((rd_T49 l0 x7_2).f0),((rd_T49 l0 x7_2).f1)⟩ : S49));(case aB => exact (zb1 HB.out GE715.out));(case aF => exact (fun k_ hk => Kd.freshB (g := gb715) (o := .cells #[.int .i64 ((rd_T49 l0 x7_2).f0),.int .i64 ((rd_T49 l0 x7_2).f1)] 49 (0,0)) (zk_ BK715.out) k_ hk));(case aO => exact (zR_ HO_3.out));(case aS => exact (bwZ (zb1 HB.out GE715.out)));(case aL => have := LMc56.out;omega);intro v736 w61 ho hb hg hat;rw [← Ny735.out] at ho;have n0_ := As_ (Kd.R_over' (zR_ HO_4.out) (Kd.R_typed (zR_ HO_3.out)) (by decide) hg);have n1_ := As_ (blk_grown (g := gb715) (o := .cells #[.int .i64 ((rd_T49 l0 x7_2).f0),.int .i64 ((rd_T49 l0 x7_2).f1)] 49 (0,0)) (zk_ BK715.out) hg (Kd.R_away HO_3.out (fun _ hk => hk)));have n2_ := As_ (hb);have n3_ := As_ (ho);clear HO_4 BK715 HB HO_3;revert n0_ n1_ n2_ n3_;intro HO_4 BK715 HB HO737;clear ho hb hg hat))
         go_roundg kj14
         case measure => have := HK1.out;have := HK2.out;have := HJ14.out;omega
         case rel => exact ⟨(y735),(y718),(wrap64 (x6_2 + 1)),(wrap64 (x7_2 + 1)),zT_,zT_,H',⟨by have := HK1.out;have := HK2.out;have := HJ14.out;omega⟩,⟨by (with_reducible repeat (first|apply Kd.R_alloc|apply Kd.R_drewN|apply Kd.R_drew));exact Kd.R_mono HO737.out (fun _ hk => trivial)⟩,⟨by (with_reducible repeat (first|apply Kd.R_alloc|apply Kd.R_drewN|apply Kd.R_drew));exact HO_4.out⟩,⟨zb1 HB.out GE715.out⟩⟩
        rw [if_pos c42] at H
        have c42b0 : (((rd_T49 l0 x7_2).f0) == 16) = true := beq_iff_eq.mpr c42
        have c42b1 : (((rd_T49 l0 x7_2).f0) != 16) = false := bne_eq_false_iff_eq.mpr c42
        clear c42
        by_cases c43 : (rd y718 ((rd_T49 l0 x7_2).f1)) ≥ 0
        ·rw [if_pos c43] at H
         have c43b0 : decide (0 ≤ (rd y718 ((rd_T49 l0 x7_2).f1))) = true := deT c43
         clear c43
         by_cases c44 : x3_2.length < 8796093022208
         rotate_left
         ·rw [if_neg c44] at H
          exact absurd H (by simp)
         rw [if_pos c44] at H
         have LMc44 := As_ c44
         clear c44
         obtain ⟨y729,hy729⟩ : ∃ y_ : List (S49),y_ = (x3_2 ++ [(⟨((rd_T49 l0 x7_2).f0),rd y718 ((rd_T49 l0 x7_2).f1)⟩ : S49)]) := ⟨_,rfl⟩
         replace H : (spec_lean.l1 kj14 l0 y729 y718 (wrap64 (x6_2 + 1)) (wrap64 (x7_2 + 1))) = some r := zH_ H hy729
         have Ny729 := As_ hy729
         clear hy729
         have H' := As_ H
         clear H
         obtain ⟨hcz45_0,hcz45_1,hfz45_0,hfz45_1⟩ := bk2 BK715.out
         have p27 : 0 ≤ (((rd_T49 l0 x7_2).f1) : Int) := odT zA_
         have q27 : (((rd_T49 l0 x7_2).f1) : Int) < ((x4_2.length : Int) : Int) := odT zA_
         obtain ⟨go27,co27,eo27,gb27,gl27,cl27,HG27⟩ := Kd.R_form HO_4.out (by omega)
         (first|cases eo27|(injection eo27 with ea_ en_ ec_;(first|subst ea_|(injection ea_ with ea_;subst ea_));subst ec_;clear en_))
         have GB27 := As_ gb27
         have GG27 := As_ HG27
         clear gb27 gl27 HG27
         obtain ⟨hx27_0,hf27_0⟩ := Kd.R_celln 0 HO_4.out (((rd_T49 l0 x7_2).f1) : Int) p27 q27
         replace p27 := eq_true p27
         replace q27 := eq_true q27
         have HP46 := Kd.R_putg HO_4.out (((rd_T49 l0 x7_2).f1) : Int) x6_2
         go_wp2_with (first|((with_reducible refine gate_store (t := 3) (p := 46) rfl ?_);refine store_event (t := 3) (p := 46) (v := ?vo_w47) (w1 := (wc.setCell ⟨go27,(((rd_T49 l0 x7_2).f1) : Int).toNat,none⟩ (.int .i64 x6_2))) ?hg ?ho ?hn ?hr ?_;(case ho => rfl);(case hg => rfl);(case hn => rfl);(case hr => go_simp <;> rfl);intro w47 hw;have hg : wc.grownBy w47 (some go27) := (by rw [hw];exact HP46.2);have hp_ : Kd.R (Kd.int .i64) 3 w47 w.heap.size (fun _ => True) (.slice (some ⟨go27,0,none⟩) x4_2.length co27) y718 := (by rw [hw,Ny718.out];exact HP46.1);clear HP46;have n0_ := As_ (Kd.R_over' (v := (.slice (some ⟨go27,0,none⟩) x4_2.length co27)) (zR_ HO_3.out) (Kd.R_typed HO_4.out) (by decide) hg);have n1_ := As_ (hp_);have n2_ := As_ (blk_grown (g := gb715) (o := .cells #[.int .i64 ((rd_T49 l0 x7_2).f0),.int .i64 ((rd_T49 l0 x7_2).f1)] 49 (0,0)) (zk_ BK715.out) hg (Kd.R_ne HO_4.out BK715.out (by decide)));have n3_ := As_ ((by rw [hw];exact bwS (HB.out) GB27.out : Below w.heap.size w w47));clear HO_3 HO_4 BK715 HB;revert n0_ n1_ n2_ n3_;intro HO_3 HO_4 BK715 HB;clear hg hw hp_;obtain ⟨hcz48_0,hcz48_1,hfz48_0,hfz48_1⟩ := bk2 BK715.out;have p727 : 0 ≤ (((rd_T49 l0 x7_2).f1) : Int) := odT zA_;have q727 : ((rd_T49 l0 x7_2).f1) < (y718.length : Int) := (by have h_ : (((rd_T49 l0 x7_2).f1) : Int) < ((x4_2.length : Int) : Int) := odT zA_;first|(have e_ := (Kd.R_reads' HO_4.out).1;omega)|simpa only [Ny718.out,List.length_set] using h_);have ql727 : ((((rd_T49 l0 x7_2).f1) : Int) < ((x4_2.length : Int) : Int)) = True := eq_true (odT zA_);obtain ⟨ad727,e727,hx727_0⟩ := Kd.at_int (Kd.R_reads' HO_4.out).2.2 ((rd_T49 l0 x7_2).f1) p727 q727;obtain rfl : (⟨go27,0,none⟩ : Addr) = ad727 := (by injection e727);(first|simp only [add_plain] at hx727_0|simp only [add_at] at hx727_0|simp only [Addr.add,Nat.zero_add] at hx727_0|skip);replace p727 := eq_true p727;replace q727 := eq_true q727;have p728 : 0 ≤ (((rd_T49 l0 x7_2).f1) : Int) := odT zA_;have q728 : ((rd_T49 l0 x7_2).f1) < (y718.length : Int) := (by have h_ : (((rd_T49 l0 x7_2).f1) : Int) < ((x4_2.length : Int) : Int) := odT zA_;first|(have e_ := (Kd.R_reads' HO_4.out).1;omega)|simpa only [Ny718.out,List.length_set] using h_);have ql728 : ((((rd_T49 l0 x7_2).f1) : Int) < ((x4_2.length : Int) : Int)) = True := eq_true (odT zA_);obtain ⟨ad728,e728,hx728_0⟩ := Kd.at_int (Kd.R_reads' HO_4.out).2.2 ((rd_T49 l0 x7_2).f1) p728 q728;obtain rfl : (⟨go27,0,none⟩ : Addr) = ad728 := (by injection e728);(first|simp only [add_plain] at hx728_0|simp only [add_at] at hx728_0|simp only [Addr.add,Nat.zero_add] at hx728_0|skip);replace p728 := eq_true p728;replace q728 := eq_true q728)|((with_reducible refine gate_builtin (b := .append) (xs := #[.tmp 71,.tmp 73]) rfl ?_);at_builtin;refine Kd.R_append k49 (w0 := w) w.heap.size rfl (.tmp 71) (.tmp 73) 25 49 (.agg #[(.int .i64 0),(.int .i64 0)]) 16 rfl Try.underlying25 info49 rfl (by decide) (by omega) u3 x3_2 (⟨((rd_T49 l0 x7_2).f0),rd y718 ((rd_T49 l0 x7_2).f1)⟩ : S49) [.int .i64 ((rd_T49 l0 x7_2).f0),.int .i64 (rd y718 ((rd_T49 l0 x7_2).f1))] (fun k_ => k_ ≠ gb715) (fun _ => False) rfl (by go_simp <;> rfl) ?aP (fun _ hk => hk.elim) ?aF ?aO ?aB ?aS ?aL ?_;(case aP => exact k49_mkM _ _ _ (⟨((rd_T49 l0 x7_2).f0),rd y718 ((rd_T49 l0 x7_2).f1)⟩ : S49));(case aB => exact (zb1 HB.out GE715.out));(case aF => exact (fun k_ hk => Kd.freshB (g := gb715) (o := .cells #[.int .i64 ((rd_T49 l0 x7_2).f0),.int .i64 (rd y718 ((rd_T49 l0 x7_2).f1))] 49 (0,0)) (by (with_reducible repeat first|apply bkN|apply bkD|apply bkA);refine blk_put (cs := #[.int .i64 ((rd_T49 l0 x7_2).f0),.int .i64 ((rd_T49 l0 x7_2).f1)]) ?_ 1 _ rfl;(with_reducible repeat first|apply bkN|apply bkD|apply bkA);exact BK715.out) k_ hk));(case aO => exact (by (with_reducible repeat (first|apply Kd.R_alloc|apply Kd.R_drewN|apply Kd.R_drew));exact Kd.R_mono (Kd.R_far (p := ⟨gb715,1,none⟩) (Kd.R_mono HO_3.out (fun k_ hk => (⟨hk,hk⟩ : _ ∧ k_ ≠ gb715))) (fun _ hk => hk.2) (.int .i64 (rd y718 ((rd_T49 l0 x7_2).f1)))) (fun _ hk => hk.1)));(case aS => exact (bwZ (zb1 HB.out GE715.out)));(case aL => have := LMc44.out;omega);intro v730 w49 ho hb hg hat;rw [← Ny729.out] at ho;have n0_ := As_ (Kd.R_over' (by (with_reducible repeat (first|apply Kd.R_alloc|apply Kd.R_drewN|apply Kd.R_drew));exact (Kd.R_mono (Kd.R_far (p := ⟨gb715,1,none⟩) (Kd.R_types HO_4.out BK715.out (by decide)) (fun _ hk => hk.2) (.int .i64 (rd y718 ((rd_T49 l0 x7_2).f1)))) (fun _ h_ => h_.1))) (Kd.R_typed (by (with_reducible repeat (first|apply Kd.R_alloc|apply Kd.R_drewN|apply Kd.R_drew));exact (Kd.R_mono (Kd.R_far (p := ⟨gb715,1,none⟩) (Kd.R_mono HO_3.out (fun k_ hk => (⟨hk,hk⟩ : _ ∧ k_ ≠ gb715))) (fun _ hk => hk.2) (.int .i64 (rd y718 ((rd_T49 l0 x7_2).f1)))) (fun _ h_ => h_.1)))) (by decide) hg);have n1_ := As_ (blk_grown (g := gb715) (o := .cells #[.int .i64 ((rd_T49 l0 x7_2).f0),.int .i64 (rd y718 ((rd_T49 l0 x7_2).f1))] 49 (0,0)) (by (with_reducible repeat first|apply bkN|apply bkD|apply bkA);refine blk_put (cs := #[.int .i64 ((rd_T49 l0 x7_2).f0),.int .i64 ((rd_T49 l0 x7_2).f1)]) ?_ 1 _ rfl;(with_reducible repeat first|apply bkN|apply bkD|apply bkA);exact BK715.out) hg (Kd.R_away HO_3.out (fun _ hk => hk)));have n2_ := As_ (hb);have n3_ := As_ (ho);clear HO_4 BK715 HB HO_3;revert n0_ n1_ n2_ n3_;intro HO_4 BK715 HB HO731;clear ho hb hg hat))
         go_roundg kj14
         case measure => have := HK1.out;have := HK2.out;have := HJ14.out;omega
         case rel => exact ⟨(y729),(y718),(wrap64 (x6_2 + 1)),(wrap64 (x7_2 + 1)),zT_,zT_,H',⟨by have := HK1.out;have := HK2.out;have := HJ14.out;omega⟩,⟨by (with_reducible repeat (first|apply Kd.R_alloc|apply Kd.R_drewN|apply Kd.R_drew));exact Kd.R_mono HO731.out (fun _ hk => trivial)⟩,⟨by (with_reducible repeat (first|apply Kd.R_alloc|apply Kd.R_drewN|apply Kd.R_drew));exact HO_4.out⟩,⟨zb1 HB.out GE715.out⟩⟩
        rw [if_neg c43] at H
        have c43b0 : decide (0 ≤ (rd y718 ((rd_T49 l0 x7_2).f1))) = false := deF c43
        clear c43
        by_cases c50 : x3_2.length < 8796093022208
        rotate_left
        ·rw [if_neg c50] at H
         exact absurd H (by simp)
        rw [if_pos c50] at H
        have LMc50 := As_ c50
        clear c50
        obtain ⟨y732,hy732⟩ : ∃ y_ : List (S49),y_ = (x3_2 ++ [(⟨((rd_T49 l0 x7_2).f0),((rd_T49 l0 x7_2).f1)⟩ : S49)]) := ⟨_,rfl⟩
        replace H : (spec_lean.l1 kj14 l0 y732 y718 (wrap64 (x6_2 + 1)) (wrap64 (x7_2 + 1))) = some r := zH_ H hy732
        have Ny732 := As_ hy732
        clear hy732
        have H' := As_ H
        clear H
        obtain ⟨hcz51_0,hcz51_1,hfz51_0,hfz51_1⟩ := bk2 BK715.out
        have p27 : 0 ≤ (((rd_T49 l0 x7_2).f1) : Int) := odT zA_
        have q27 : (((rd_T49 l0 x7_2).f1) : Int) < ((x4_2.length : Int) : Int) := odT zA_
        obtain ⟨go27,co27,eo27,gb27,gl27,cl27,HG27⟩ := Kd.R_form HO_4.out (by omega)
        (first|cases eo27|(injection eo27 with ea_ en_ ec_;(first|subst ea_|(injection ea_ with ea_;subst ea_));subst ec_;clear en_))
        have GB27 := As_ gb27
        have GG27 := As_ HG27
        clear gb27 gl27 HG27
        obtain ⟨hx27_0,hf27_0⟩ := Kd.R_celln 0 HO_4.out (((rd_T49 l0 x7_2).f1) : Int) p27 q27
        replace p27 := eq_true p27
        replace q27 := eq_true q27
        have HP52 := Kd.R_putg HO_4.out (((rd_T49 l0 x7_2).f1) : Int) x6_2
        go_wp2_with (first|((with_reducible refine gate_store (t := 3) (p := 46) rfl ?_);refine store_event (t := 3) (p := 46) (v := ?vo_w53) (w1 := (wc.setCell ⟨go27,(((rd_T49 l0 x7_2).f1) : Int).toNat,none⟩ (.int .i64 x6_2))) ?hg ?ho ?hn ?hr ?_;(case ho => rfl);(case hg => rfl);(case hn => rfl);(case hr => go_simp <;> rfl);intro w53 hw;have hg : wc.grownBy w53 (some go27) := (by rw [hw];exact HP52.2);have hp_ : Kd.R (Kd.int .i64) 3 w53 w.heap.size (fun _ => True) (.slice (some ⟨go27,0,none⟩) x4_2.length co27) y718 := (by rw [hw,Ny718.out];exact HP52.1);clear HP52;have n0_ := As_ (Kd.R_over' (v := (.slice (some ⟨go27,0,none⟩) x4_2.length co27)) (zR_ HO_3.out) (Kd.R_typed HO_4.out) (by decide) hg);have n1_ := As_ (hp_);have n2_ := As_ (blk_grown (g := gb715) (o := .cells #[.int .i64 ((rd_T49 l0 x7_2).f0),.int .i64 ((rd_T49 l0 x7_2).f1)] 49 (0,0)) (zk_ BK715.out) hg (Kd.R_ne HO_4.out BK715.out (by decide)));have n3_ := As_ ((by rw [hw];exact bwS (HB.out) GB27.out : Below w.heap.size w w53));clear HO_3 HO_4 BK715 HB;revert n0_ n1_ n2_ n3_;intro HO_3 HO_4 BK715 HB;clear hg hw hp_;obtain ⟨hcz54_0,hcz54_1,hfz54_0,hfz54_1⟩ := bk2 BK715.out;have p727 : 0 ≤ (((rd_T49 l0 x7_2).f1) : Int) := odT zA_;have q727 : ((rd_T49 l0 x7_2).f1) < (y718.length : Int) := (by have h_ : (((rd_T49 l0 x7_2).f1) : Int) < ((x4_2.length : Int) : Int) := odT zA_;first|(have e_ := (Kd.R_reads' HO_4.out).1;omega)|simpa only [Ny718.out,List.length_set] using h_);have ql727 : ((((rd_T49 l0 x7_2).f1) : Int) < ((x4_2.length : Int) : Int)) = True := eq_true (odT zA_);obtain ⟨ad727,e727,hx727_0⟩ := Kd.at_int (Kd.R_reads' HO_4.out).2.2 ((rd_T49 l0 x7_2).f1) p727 q727;obtain rfl : (⟨go27,0,none⟩ : Addr) = ad727 := (by injection e727);(first|simp only [add_plain] at hx727_0|simp only [add_at] at hx727_0|simp only [Addr.add,Nat.zero_add] at hx727_0|skip);replace p727 := eq_true p727;replace q727 := eq_true q727)|((with_reducible refine gate_builtin (b := .append) (xs := #[.tmp 71,.tmp 73]) rfl ?_);at_builtin;refine Kd.R_append k49 (w0 := w) w.heap.size rfl (.tmp 71) (.tmp 73) 25 49 (.agg #[(.int .i64 0),(.int .i64 0)]) 16 rfl Try.underlying25 info49 rfl (by decide) (by omega) u3 x3_2 (⟨((rd_T49 l0 x7_2).f0),((rd_T49 l0 x7_2).f1)⟩ : S49) [.int .i64 ((rd_T49 l0 x7_2).f0),.int .i64 ((rd_T49 l0 x7_2).f1)] (fun k_ => k_ ≠ gb715) (fun _ => False) rfl rfl ?aP (fun _ hk => hk.elim) ?aF ?aO ?aB ?aS ?aL ?_;(case aP => exact k49_mkM _ _ _ (⟨((rd_T49 l0 x7_2).f0),((rd_T49 l0 x7_2).f1)⟩ : S49));(case aB => exact (zb1 HB.out GE715.out));(case aF => exact (fun k_ hk => Kd.freshB (g := gb715) (o := .cells #[.int .i64 ((rd_T49 l0 x7_2).f0),.int .i64 ((rd_T49 l0 x7_2).f1)] 49 (0,0)) (zk_ BK715.out) k_ hk));(case aO => exact (zR_ HO_3.out));(case aS => exact (bwZ (zb1 HB.out GE715.out)));(case aL => have := LMc50.out;omega);intro v733 w55 ho hb hg hat;rw [← Ny732.out] at ho;have n0_ := As_ (Kd.R_over' (zR_ HO_4.out) (Kd.R_typed (zR_ HO_3.out)) (by decide) hg);have n1_ := As_ (blk_grown (g := gb715) (o := .cells #[.int .i64 ((rd_T49 l0 x7_2).f0),.int .i64 ((rd_T49 l0 x7_2).f1)] 49 (0,0)) (zk_ BK715.out) hg (Kd.R_away HO_3.out (fun _ hk => hk)));have n2_ := As_ (hb);have n3_ := As_ (ho);clear HO_4 BK715 HB HO_3;revert n0_ n1_ n2_ n3_;intro HO_4 BK715 HB HO734;clear ho hb hg hat))
        go_roundg kj14
        case measure => have := HK1.out;have := HK2.out;have := HJ14.out;omega
        case rel => exact ⟨(y732),(y718),(wrap64 (x6_2 + 1)),(wrap64 (x7_2 + 1)),zT_,zT_,H',⟨by have := HK1.out;have := HK2.out;have := HJ14.out;omega⟩,⟨by (with_reducible repeat (first|apply Kd.R_alloc|apply Kd.R_drewN|apply Kd.R_drew));exact Kd.R_mono HO734.out (fun _ hk => trivial)⟩,⟨by (with_reducible repeat (first|apply Kd.R_alloc|apply Kd.R_drewN|apply Kd.R_drew));exact HO_4.out⟩,⟨zb1 HB.out GE715.out⟩⟩
       replace c24 := Bool.eq_false_iff.mpr c24
       subst c24
       have H1 : (if ((rd_T49 l0 x7_2).f0) = 15 then (if 0 ≤ ((rd_T49 l0 x7_2).f1) then (if ((rd_T49 l0 x7_2).f1) < (x4_2.length : Int) then (if (rd x4_2 ((rd_T49 l0 x7_2).f1)) ≥ 0 then (if x3_2.length < 8796093022208 then (spec_lean.l1 kj14 l0 (x3_2 ++ [(⟨((rd_T49 l0 x7_2).f0),rd x4_2 ((rd_T49 l0 x7_2).f1)⟩ : S49)]) x4_2 x6_2 (wrap64 (x7_2 + 1))) else (none)) else (if x3_2.length < 8796093022208 then (spec_lean.l1 kj14 l0 (x3_2 ++ [(⟨((rd_T49 l0 x7_2).f0),((rd_T49 l0 x7_2).f1)⟩ : S49)]) x4_2 x6_2 (wrap64 (x7_2 + 1))) else (none))) else (none)) else (none)) else (if ((rd_T49 l0 x7_2).f0) = 16 then (if 0 ≤ ((rd_T49 l0 x7_2).f1) then (if ((rd_T49 l0 x7_2).f1) < (x4_2.length : Int) then (if (rd x4_2 ((rd_T49 l0 x7_2).f1)) ≥ 0 then (if x3_2.length < 8796093022208 then (spec_lean.l1 kj14 l0 (x3_2 ++ [(⟨((rd_T49 l0 x7_2).f0),rd x4_2 ((rd_T49 l0 x7_2).f1)⟩ : S49)]) x4_2 x6_2 (wrap64 (x7_2 + 1))) else (none)) else (if x3_2.length < 8796093022208 then (spec_lean.l1 kj14 l0 (x3_2 ++ [(⟨((rd_T49 l0 x7_2).f0),((rd_T49 l0 x7_2).f1)⟩ : S49)]) x4_2 x6_2 (wrap64 (x7_2 + 1))) else (none))) else (none)) else (none)) else (if x3_2.length < 8796093022208 then (spec_lean.l1 kj14 l0 (x3_2 ++ [(⟨((rd_T49 l0 x7_2).f0),((rd_T49 l0 x7_2).f1)⟩ : S49)]) x4_2 x6_2 (wrap64 (x7_2 + 1))) else (none)))) = some r := by rw [if_neg (show ¬ (false = true) by decide)] at H;exact H
       clear H
       have H := H1
       clear H1
       by_cases c62 : ((rd_T49 l0 x7_2).f0) = 15
       ·rw [if_pos c62] at H
        have c62b0 : (((rd_T49 l0 x7_2).f0) == 15) = true := beq_iff_eq.mpr c62
        have c62b1 : (((rd_T49 l0 x7_2).f0) != 15) = false := bne_eq_false_iff_eq.mpr c62
        clear c62
        by_cases c63 : 0 ≤ ((rd_T49 l0 x7_2).f1)
        rotate_left
        ·rw [if_neg c63] at H
         exact absurd H (by simp)
        rw [if_pos c63] at H
        have c63b0 : decide (0 ≤ ((rd_T49 l0 x7_2).f1)) = true := deT c63
        clear c63
        by_cases c64 : ((rd_T49 l0 x7_2).f1) < (x4_2.length : Int)
        rotate_left
        ·rw [if_neg c64] at H
         exact absurd H (by simp)
        rw [if_pos c64] at H
        have c64b0 : decide (((rd_T49 l0 x7_2).f1) < (x4_2.length : Int)) = true := deT c64
        clear c64
        by_cases c65 : (rd x4_2 ((rd_T49 l0 x7_2).f1)) ≥ 0
        rotate_left
        ·rw [if_neg c65] at H
         have c65b0 : decide (0 ≤ (rd x4_2 ((rd_T49 l0 x7_2).f1))) = false := deF c65
         clear c65
         by_cases c70 : x3_2.length < 8796093022208
         rotate_left
         ·rw [if_neg c70] at H
          exact absurd H (by simp)
         rw [if_pos c70] at H
         have LMc70 := As_ c70
         clear c70
         obtain ⟨y743,hy743⟩ : ∃ y_ : List (S49),y_ = (x3_2 ++ [(⟨((rd_T49 l0 x7_2).f0),((rd_T49 l0 x7_2).f1)⟩ : S49)]) := ⟨_,rfl⟩
         replace H : (spec_lean.l1 kj14 l0 y743 x4_2 x6_2 (wrap64 (x7_2 + 1))) = some r := zH_ H hy743
         have Ny743 := As_ hy743
         clear hy743
         have H' := As_ H
         clear H
         obtain ⟨hcz71_0,hcz71_1,hfz71_0,hfz71_1⟩ := bk2 BK715.out
         obtain ⟨Ao72,co72,eo72⟩ := Kd.R_slice HO_4.out
         subst eo72
         have p738 : 0 ≤ (((rd_T49 l0 x7_2).f1) : Int) := odT zA_
         have q738 : ((rd_T49 l0 x7_2).f1) < (x4_2.length : Int) := odT zA_
         obtain ⟨ad738,e738,hx738_0⟩ := Kd.at_int (Kd.R_reads' HO_4.out).2.2 ((rd_T49 l0 x7_2).f1) p738 q738
         cases e738
         replace p738 := eq_true p738
         replace q738 := eq_true q738
         go_wp2_with (first|((with_reducible refine gate_builtin (b := .append) (xs := #[.tmp 71,.tmp 73]) rfl ?_);at_builtin;refine Kd.R_append k49 (w0 := w) w.heap.size rfl (.tmp 71) (.tmp 73) 25 49 (.agg #[(.int .i64 0),(.int .i64 0)]) 16 rfl Try.underlying25 info49 rfl (by decide) (by omega) u3 x3_2 (⟨((rd_T49 l0 x7_2).f0),((rd_T49 l0 x7_2).f1)⟩ : S49) [.int .i64 ((rd_T49 l0 x7_2).f0),.int .i64 ((rd_T49 l0 x7_2).f1)] (fun k_ => k_ ≠ gb715) (fun _ => False) rfl rfl ?aP (fun _ hk => hk.elim) ?aF ?aO ?aB ?aS ?aL ?_;(case aP => exact k49_mkM _ _ _ (⟨((rd_T49 l0 x7_2).f0),((rd_T49 l0 x7_2).f1)⟩ : S49));(case aB => exact (zb1 HB.out GE715.out));(case aF => exact (fun k_ hk => Kd.freshB (g := gb715) (o := .cells #[.int .i64 ((rd_T49 l0 x7_2).f0),.int .i64 ((rd_T49 l0 x7_2).f1)] 49 (0,0)) (zk_ BK715.out) k_ hk));(case aO => exact (zR_ HO_3.out));(case aS => exact (bwZ (zb1 HB.out GE715.out)));(case aL => have := LMc70.out;omega);intro v744 w73 ho hb hg hat;rw [← Ny743.out] at ho;have n0_ := As_ (Kd.R_over' (zR_ HO_4.out) (Kd.R_typed (zR_ HO_3.out)) (by decide) hg);have n1_ := As_ (blk_grown (g := gb715) (o := .cells #[.int .i64 ((rd_T49 l0 x7_2).f0),.int .i64 ((rd_T49 l0 x7_2).f1)] 49 (0,0)) (zk_ BK715.out) hg (Kd.R_away HO_3.out (fun _ hk => hk)));have n2_ := As_ (hb);have n3_ := As_ (ho);clear HO_4 BK715 HB HO_3;revert n0_ n1_ n2_ n3_;intro HO_4 BK715 HB HO745;clear ho hb hg hat))
         go_roundg kj14
         case measure => have := HK1.out;have := HK2.out;have := HJ14.out;omega
         case rel => exact ⟨(y743),(x4_2),(x6_2),(wrap64 (x7_2 + 1)),zT_,zT_,H',⟨by have := HK1.out;have := HK2.out;have := HJ14.out;omega⟩,⟨by (with_reducible repeat (first|apply Kd.R_alloc|apply Kd.R_drewN|apply Kd.R_drew));exact Kd.R_mono HO745.out (fun _ hk => trivial)⟩,⟨by (with_reducible repeat (first|apply Kd.R_alloc|apply Kd.R_drewN|apply Kd.R_drew));exact HO_4.out⟩,⟨zb1 HB.out GE715.out⟩⟩
        rw [if_pos c65] at H
        have c65b0 : decide (0 ≤ (rd x4_2 ((rd_T49 l0 x7_2).f1))) = true := deT c65
        clear c65
        by_cases c66 : x3_2.length < 8796093022208
        rotate_left
        ·rw [if_neg c66] at H
         exact absurd H (by simp)
        rw [if_pos c66] at H
        have LMc66 := As_ c66
        clear c66
        obtain ⟨y740,hy740⟩ : ∃ y_ : List (S49),y_ = (x3_2 ++ [(⟨((rd_T49 l0 x7_2).f0),rd x4_2 ((rd_T49 l0 x7_2).f1)⟩ : S49)]) := ⟨_,rfl⟩
        replace H : (spec_lean.l1 kj14 l0 y740 x4_2 x6_2 (wrap64 (x7_2 + 1))) = some r := zH_ H hy740
        have Ny740 := As_ hy740
        clear hy740
        have H' := As_ H
        clear H
        obtain ⟨hcz67_0,hcz67_1,hfz67_0,hfz67_1⟩ := bk2 BK715.out
        obtain ⟨Ao68,co68,eo68⟩ := Kd.R_slice HO_4.out
        subst eo68
        have p738 : 0 ≤ (((rd_T49 l0 x7_2).f1) : Int) := odT zA_
        have q738 : ((rd_T49 l0 x7_2).f1) < (x4_2.length : Int) := odT zA_
        obtain ⟨ad738,e738,hx738_0⟩ := Kd.at_int (Kd.R_reads' HO_4.out).2.2 ((rd_T49 l0 x7_2).f1) p738 q738
        cases e738
        replace p738 := eq_true p738
        replace q738 := eq_true q738
        have p739 : 0 ≤ (((rd_T49 l0 x7_2).f1) : Int) := odT zA_
        have q739 : ((rd_T49 l0 x7_2).f1) < (x4_2.length : Int) := odT zA_
        obtain ⟨ad739,e739,hx739_0⟩ := Kd.at_int (Kd.R_reads' HO_4.out).2.2 ((rd_T49 l0 x7_2).f1) p739 q739
        obtain rfl : ad738 = ad739 := (by injection e739)
        replace p739 := eq_true p739
        replace q739 := eq_true q739
        go_wp2_with (first|((with_reducible refine gate_builtin (b := .append) (xs := #[.tmp 71,.tmp 73]) rfl ?_);at_builtin;refine Kd.R_append k49 (w0 := w) w.heap.size rfl (.tmp 71) (.tmp 73) 25 49 (.agg #[(.int .i64 0),(.int .i64 0)]) 16 rfl Try.underlying25 info49 rfl (by decide) (by omega) u3 x3_2 (⟨((rd_T49 l0 x7_2).f0),rd x4_2 ((rd_T49 l0 x7_2).f1)⟩ : S49) [.int .i64 ((rd_T49 l0 x7_2).f0),.int .i64 (rd x4_2 ((rd_T49 l0 x7_2).f1))] (fun k_ => k_ ≠ gb715) (fun _ => False) rfl (by go_simp <;> rfl) ?aP (fun _ hk => hk.elim) ?aF ?aO ?aB ?aS ?aL ?_;(case aP => exact k49_mkM _ _ _ (⟨((rd_T49 l0 x7_2).f0),rd x4_2 ((rd_T49 l0 x7_2).f1)⟩ : S49));(case aB => exact (zb1 HB.out GE715.out));(case aF => exact (fun k_ hk => Kd.freshB (g := gb715) (o := .cells #[.int .i64 ((rd_T49 l0 x7_2).f0),.int .i64 (rd x4_2 ((rd_T49 l0 x7_2).f1))] 49 (0,0)) (by (with_reducible repeat first|apply bkN|apply bkD|apply bkA);refine blk_put (cs := #[.int .i64 ((rd_T49 l0 x7_2).f0),.int .i64 ((rd_T49 l0 x7_2).f1)]) ?_ 1 _ rfl;(with_reducible repeat first|apply bkN|apply bkD|apply bkA);exact BK715.out) k_ hk));(case aO => exact (by (with_reducible repeat (first|apply Kd.R_alloc|apply Kd.R_drewN|apply Kd.R_drew));exact Kd.R_mono (Kd.R_far (p := ⟨gb715,1,none⟩) (Kd.R_mono HO_3.out (fun k_ hk => (⟨hk,hk⟩ : _ ∧ k_ ≠ gb715))) (fun _ hk => hk.2) (.int .i64 (rd x4_2 ((rd_T49 l0 x7_2).f1)))) (fun _ hk => hk.1)));(case aS => exact (bwZ (zb1 HB.out GE715.out)));(case aL => have := LMc66.out;omega);intro v741 w69 ho hb hg hat;rw [← Ny740.out] at ho;have n0_ := As_ (Kd.R_over' (by (with_reducible repeat (first|apply Kd.R_alloc|apply Kd.R_drewN|apply Kd.R_drew));exact (Kd.R_mono (Kd.R_far (p := ⟨gb715,1,none⟩) (Kd.R_types HO_4.out BK715.out (by decide)) (fun _ hk => hk.2) (.int .i64 (rd x4_2 ((rd_T49 l0 x7_2).f1)))) (fun _ h_ => h_.1))) (Kd.R_typed (by (with_reducible repeat (first|apply Kd.R_alloc|apply Kd.R_drewN|apply Kd.R_drew));exact (Kd.R_mono (Kd.R_far (p := ⟨gb715,1,none⟩) (Kd.R_mono HO_3.out (fun k_ hk => (⟨hk,hk⟩ : _ ∧ k_ ≠ gb715))) (fun _ hk => hk.2) (.int .i64 (rd x4_2 ((rd_T49 l0 x7_2).f1)))) (fun _ h_ => h_.1)))) (by decide) hg);have n1_ := As_ (blk_grown (g := gb715) (o := .cells #[.int .i64 ((rd_T49 l0 x7_2).f0),.int .i64 (rd x4_2 ((rd_T49 l0 x7_2).f1))] 49 (0,0)) (by (with_reducible repeat first|apply bkN|apply bkD|apply bkA);refine blk_put (cs := #[.int .i64 ((rd_T49 l0 x7_2).f0),.int .i64 ((rd_T49 l0 x7_2).f1)]) ?_ 1 _ rfl;(with_reducible repeat first|apply bkN|apply bkD|apply bkA);exact BK715.out) hg (Kd.R_away HO_3.out (fun _ hk => hk)));have n2_ := As_ (hb);have n3_ := As_ (ho);clear HO_4 BK715 HB HO_3;revert n0_ n1_ n2_ n3_;intro HO_4 BK715 HB HO742;clear ho hb hg hat))
        go_roundg kj14
        case measure => have := HK1.out;have := HK2.out;have := HJ14.out;omega
        case rel => exact ⟨(y740),(x4_2),(x6_2),(wrap64 (x7_2 + 1)),zT_,zT_,H',⟨by have := HK1.out;have := HK2.out;have := HJ14.out;omega⟩,⟨by (with_reducible repeat (first|apply Kd.R_alloc|apply Kd.R_drewN|apply Kd.R_drew));exact Kd.R_mono HO742.out (fun _ hk => trivial)⟩,⟨by (with_reducible repeat (first|apply Kd.R_alloc|apply Kd.R_drewN|apply Kd.R_drew));exact HO_4.out⟩,⟨zb1 HB.out GE715.out⟩⟩
       rw [if_neg c62] at H
       have c62b0 : (((rd_T49 l0 x7_2).f0) == 15) = false := beq_eq_false_iff_ne.mpr c62
       have c62b1 : (((rd_T49 l0 x7_2).f0) != 15) = true := bne_iff_ne.mpr c62
       by_cases c74 : ((rd_T49 l0 x7_2).f0) = 16
       rotate_left
       ·rw [if_neg c74] at H
        have c74b0 : (((rd_T49 l0 x7_2).f0) == 16) = false := beq_eq_false_iff_ne.mpr c74
        have c74b1 : (((rd_T49 l0 x7_2).f0) != 16) = true := bne_iff_ne.mpr c74
        by_cases c86 : x3_2.length < 8796093022208
        rotate_left
        ·rw [if_neg c86] at H
         exact absurd H (by simp)
        rw [if_pos c86] at H
        have LMc86 := As_ c86
        clear c86
        obtain ⟨y754,hy754⟩ : ∃ y_ : List (S49),y_ = (x3_2 ++ [(⟨((rd_T49 l0 x7_2).f0),((rd_T49 l0 x7_2).f1)⟩ : S49)]) := ⟨_,rfl⟩
        replace H : (spec_lean.l1 kj14 l0 y754 x4_2 x6_2 (wrap64 (x7_2 + 1))) = some r := zH_ H hy754
        have Ny754 := As_ hy754
        clear hy754
        have H' := As_ H
        clear H
        obtain ⟨hcz87_0,hcz87_1,hfz87_0,hfz87_1⟩ := bk2 BK715.out
        go_wp2_with (first|((with_reducible refine gate_builtin (b := .append) (xs := #[.tmp 71,.tmp 73]) rfl ?_);at_builtin;refine Kd.R_append k49 (w0 := w) w.heap.size rfl (.tmp 71) (.tmp 73) 25 49 (.agg #[(.int .i64 0),(.int .i64 0)]) 16 rfl Try.underlying25 info49 rfl (by decide) (by omega) u3 x3_2 (⟨((rd_T49 l0 x7_2).f0),((rd_T49 l0 x7_2).f1)⟩ : S49) [.int .i64 ((rd_T49 l0 x7_2).f0),.int .i64 ((rd_T49 l0 x7_2).f1)] (fun k_ => k_ ≠ gb715) (fun _ => False) rfl rfl ?aP (fun _ hk => hk.elim) ?aF ?aO ?aB ?aS ?aL ?_;(case aP => exact k49_mkM _ _ _ (⟨((rd_T49 l0 x7_2).f0),((rd_T49 l0 x7_2).f1)⟩ : S49));(case aB => exact (zb1 HB.out GE715.out));(case aF => exact (fun k_ hk => Kd.freshB (g := gb715) (o := .cells #[.int .i64 ((rd_T49 l0 x7_2).f0),.int .i64 ((rd_T49 l0 x7_2).f1)] 49 (0,0)) (zk_ BK715.out) k_ hk));(case aO => exact (zR_ HO_3.out));(case aS => exact (bwZ (zb1 HB.out GE715.out)));(case aL => have := LMc86.out;omega);intro v755 w88 ho hb hg hat;rw [← Ny754.out] at ho;have n0_ := As_ (Kd.R_over' (zR_ HO_4.out) (Kd.R_typed (zR_ HO_3.out)) (by decide) hg);have n1_ := As_ (blk_grown (g := gb715) (o := .cells #[.int .i64 ((rd_T49 l0 x7_2).f0),.int .i64 ((rd_T49 l0 x7_2).f1)] 49 (0,0)) (zk_ BK715.out) hg (Kd.R_away HO_3.out (fun _ hk => hk)));have n2_ := As_ (hb);have n3_ := As_ (ho);clear HO_4 BK715 HB HO_3;revert n0_ n1_ n2_ n3_;intro HO_4 BK715 HB HO756;clear ho hb hg hat))
        go_roundg kj14
        case measure => have := HK1.out;have := HK2.out;have := HJ14.out;omega
        case rel => exact ⟨(y754),(x4_2),(x6_2),(wrap64 (x7_2 + 1)),zT_,zT_,H',⟨by have := HK1.out;have := HK2.out;have := HJ14.out;omega⟩,⟨by (with_reducible repeat (first|apply Kd.R_alloc|apply Kd.R_drewN|apply Kd.R_drew));exact Kd.R_mono HO756.out (fun _ hk => trivial)⟩,⟨by (with_reducible repeat (first|apply Kd.R_alloc|apply Kd.R_drewN|apply Kd.R_drew));exact HO_4.out⟩,⟨zb1 HB.out GE715.out⟩⟩
       rw [if_pos c74] at H
       have c74b0 : (((rd_T49 l0 x7_2).f0) == 16) = true := beq_iff_eq.mpr c74
       have c74b1 : (((rd_T49 l0 x7_2).f0) != 16) = false := bne_eq_false_iff_eq.mpr c74
       clear c74
       by_cases c75 : 0 ≤ ((rd_T49 l0 x7_2).f1)
       rotate_left
       ·rw [if_neg c75] at H
        exact absurd H (by simp)
       rw [if_pos c75] at H
       have c75b0 : decide (0 ≤ ((rd_T49 l0 x7_2).f1)) = true := deT c75
       clear c75
       by_cases c76 : ((rd_T49 l0 x7_2).f1) < (x4_2.length : Int)
       rotate_left
       ·rw [if_neg c76] at H
        exact absurd H (by simp)
       rw [if_pos c76] at H
       have c76b0 : decide (((rd_T49 l0 x7_2).f1) < (x4_2.length : Int)) = true := deT c76
       clear c76
       by_cases c77 : (rd x4_2 ((rd_T49 l0 x7_2).f1)) ≥ 0
       rotate_left
       ·rw [if_neg c77] at H
        have c77b0 : decide (0 ≤ (rd x4_2 ((rd_T49 l0 x7_2).f1))) = false := deF c77
        clear c77
        by_cases c82 : x3_2.length < 8796093022208
        rotate_left
        ·rw [if_neg c82] at H
         exact absurd H (by simp)
        rw [if_pos c82] at H
        have LMc82 := As_ c82
        clear c82
        obtain ⟨y751,hy751⟩ : ∃ y_ : List (S49),y_ = (x3_2 ++ [(⟨((rd_T49 l0 x7_2).f0),((rd_T49 l0 x7_2).f1)⟩ : S49)]) := ⟨_,rfl⟩
        replace H : (spec_lean.l1 kj14 l0 y751 x4_2 x6_2 (wrap64 (x7_2 + 1))) = some r := zH_ H hy751
        have Ny751 := As_ hy751
        clear hy751
        have H' := As_ H
        clear H
        obtain ⟨hcz83_0,hcz83_1,hfz83_0,hfz83_1⟩ := bk2 BK715.out
        obtain ⟨Ao84,co84,eo84⟩ := Kd.R_slice HO_4.out
        subst eo84
        have p746 : 0 ≤ (((rd_T49 l0 x7_2).f1) : Int) := odT zA_
        have q746 : ((rd_T49 l0 x7_2).f1) < (x4_2.length : Int) := odT zA_
        obtain ⟨ad746,e746,hx746_0⟩ := Kd.at_int (Kd.R_reads' HO_4.out).2.2 ((rd_T49 l0 x7_2).f1) p746 q746
        cases e746
        replace p746 := eq_true p746
        replace q746 := eq_true q746
        go_wp2_with (first|((with_reducible refine gate_builtin (b := .append) (xs := #[.tmp 71,.tmp 73]) rfl ?_);at_builtin;refine Kd.R_append k49 (w0 := w) w.heap.size rfl (.tmp 71) (.tmp 73) 25 49 (.agg #[(.int .i64 0),(.int .i64 0)]) 16 rfl Try.underlying25 info49 rfl (by decide) (by omega) u3 x3_2 (⟨((rd_T49 l0 x7_2).f0),((rd_T49 l0 x7_2).f1)⟩ : S49) [.int .i64 ((rd_T49 l0 x7_2).f0),.int .i64 ((rd_T49 l0 x7_2).f1)] (fun k_ => k_ ≠ gb715) (fun _ => False) rfl rfl ?aP (fun _ hk => hk.elim) ?aF ?aO ?aB ?aS ?aL ?_;(case aP => exact k49_mkM _ _ _ (⟨((rd_T49 l0 x7_2).f0),((rd_T49 l0 x7_2).f1)⟩ : S49));(case aB => exact (zb1 HB.out GE715.out));(case aF => exact (fun k_ hk => Kd.freshB (g := gb715) (o := .cells #[.int .i64 ((rd_T49 l0 x7_2).f0),.int .i64 ((rd_T49 l0 x7_2).f1)] 49 (0,0)) (zk_ BK715.out) k_ hk));(case aO => exact (zR_ HO_3.out));(case aS => exact (bwZ (zb1 HB.out GE715.out)));(case aL => have := LMc82.out;omega);intro v752 w85 ho hb hg hat;rw [← Ny751.out] at ho;have n0_ := As_ (Kd.R_over' (zR_ HO_4.out) (Kd.R_typed (zR_ HO_3.out)) (by decide) hg);have n1_ := As_ (blk_grown (g := gb715) (o := .cells #[.int .i64 ((rd_T49 l0 x7_2).f0),.int .i64 ((rd_T49 l0 x7_2).f1)] 49 (0,0)) (zk_ BK715.out) hg (Kd.R_away HO_3.out (fun _ hk => hk)));have n2_ := As_ (hb);have n3_ := As_ (ho);clear HO_4 BK715 HB HO_3;revert n0_ n1_ n2_ n3_;intro HO_4 BK715 HB HO753;clear ho hb hg hat))
        go_roundg kj14
        case measure => have := HK1.out;have := HK2.out;have := HJ14.out;omega
        case rel => exact ⟨(y751),(x4_2),(x6_2),(wrap64 (x7_2 + 1)),zT_,zT_,H',⟨by have := HK1.out;have := HK2.out;have := HJ14.out;omega⟩,⟨by (with_reducible repeat (first|apply Kd.R_alloc|apply Kd.R_drewN|apply Kd.R_drew));exact Kd.R_mono HO753.out (fun _ hk => trivial)⟩,⟨by (with_reducible repeat (first|apply Kd.R_alloc|apply Kd.R_drewN|apply Kd.R_drew));exact HO_4.out⟩,⟨zb1 HB.out GE715.out⟩⟩
       rw [if_pos c77] at H
       have c77b0 : decide (0 ≤ (rd x4_2 ((rd_T49 l0 x7_2).f1))) = true := deT c77
       clear c77
       by_cases c78 : x3_2.length < 8796093022208
       rotate_left
       ·rw [if_neg c78] at H
        exact absurd H (by simp)
       rw [if_pos c78] at H
       have LMc78 := As_ c78
       clear c78
       obtain ⟨y748,hy748⟩ : ∃ y_ : List (S49),y_ = (x3_2 ++ [(⟨((rd_T49 l0 x7_2).f0),rd x4_2 ((rd_T49 l0 x7_2).f1)⟩ : S49)]) := ⟨_,rfl⟩
       replace H : (spec_lean.l1 kj14 l0 y748 x4_2 x6_2 (wrap64 (x7_2 + 1))) = some r := zH_ H hy748
       have Ny748 := As_ hy748
       clear hy748
       have H' := As_ H
       clear H
       obtain ⟨hcz79_0,hcz79_1,hfz79_0,hfz79_1⟩ := bk2 BK715.out
       obtain ⟨Ao80,co80,eo80⟩ := Kd.R_slice HO_4.out
       subst eo80
       have p746 : 0 ≤ (((rd_T49 l0 x7_2).f1) : Int) := odT zA_
       have q746 : ((rd_T49 l0 x7_2).f1) < (x4_2.length : Int) := odT zA_
       obtain ⟨ad746,e746,hx746_0⟩ := Kd.at_int (Kd.R_reads' HO_4.out).2.2 ((rd_T49 l0 x7_2).f1) p746 q746
       cases e746
       replace p746 := eq_true p746
       replace q746 := eq_true q746
       have p747 : 0 ≤ (((rd_T49 l0 x7_2).f1) : Int) := odT zA_
       have q747 : ((rd_T49 l0 x7_2).f1) < (x4_2.length : Int) := odT zA_
       obtain ⟨ad747,e747,hx747_0⟩ := Kd.at_int (Kd.R_reads' HO_4.out).2.2 ((rd_T49 l0 x7_2).f1) p747 q747
       obtain rfl : ad746 = ad747 := (by injection e747)
       replace p747 := eq_true p747
       replace q747 := eq_true q747
       go_wp2_with (first|((with_reducible refine gate_builtin (b := .append) (xs := #[.tmp 71,.tmp 73]) rfl ?_);at_builtin;refine Kd.R_append k49 (w0 := w) w.heap.size rfl (.tmp 71) (.tmp 73) 25 49 (.agg #[(.int .i64 0),(.int .i64 0)]) 16 rfl Try.underlying25 info49 rfl (by decide) (by omega) u3 x3_2 (⟨((rd_T49 l0 x7_2).f0),rd x4_2 ((rd_T49 l0 x7_2).f1)⟩ : S49) [.int .i64 ((rd_T49 l0 x7_2).f0),.int .i64 (rd x4_2 ((rd_T49 l0 x7_2).f1))] (fun k_ => k_ ≠ gb715) (fun _ => False) rfl (by go_simp <;> rfl) ?aP (fun _ hk => hk.elim) ?aF ?aO ?aB ?aS ?aL ?_;(case aP => exact k49_mkM _ _ _ (⟨((rd_T49 l0 x7_2).f0),rd x4_2 ((rd_T49 l0 x7_2).f1)⟩ : S49));(case aB => exact (zb1 HB.out GE715.out));(case aF => exact (fun k_ hk => Kd.freshB (g := gb715) (o := .cells #[.int .i64 ((rd_T49 l0 x7_2).f0),.int .i64 (rd x4_2 ((rd_T49 l0 x7_2).f1))] 49 (0,0)) (by (with_reducible repeat first|apply bkN|apply bkD|apply bkA);refine blk_put (cs := #[.int .i64 ((rd_T49 l0 x7_2).f0),.int .i64 ((rd_T49 l0 x7_2).f1)]) ?_ 1 _ rfl;(with_reducible repeat first|apply bkN|apply bkD|apply bkA);exact BK715.out) k_ hk));(case aO => exact (by (with_reducible repeat (first|apply Kd.R_alloc|apply Kd.R_drewN|apply Kd.R_drew));exact Kd.R_mono (Kd.R_far (p := ⟨gb715,1,none⟩) (Kd.R_mono HO_3.out (fun k_ hk => (⟨hk,hk⟩ : _ ∧ k_ ≠ gb715))) (fun _ hk => hk.2) (.int .i64 (rd x4_2 ((rd_T49 l0 x7_2).f1)))) (fun _ hk => hk.1)));(case aS => exact (bwZ (zb1 HB.out GE715.out)));(case aL => have := LMc78.out;omega);intro v749 w81 ho hb hg hat;rw [← Ny748.out] at ho;have n0_ := As_ (Kd.R_over' (by (with_reducible repeat (first|apply Kd.R_alloc|apply Kd.R_drewN|apply Kd.R_drew));exact (Kd.R_mono (Kd.R_far (p := ⟨gb715,1,none⟩) (Kd.R_types HO_4.out BK715.out (by decide)) (fun _ hk => hk.2) (.int .i64 (rd x4_2 ((rd_T49 l0 x7_2).f1)))) (fun _ h_ => h_.1))) (Kd.R_typed (by (with_reducible repeat (first|apply Kd.R_alloc|apply Kd.R_drewN|apply Kd.R_drew));exact (Kd.R_mono (Kd.R_far (p := ⟨gb715,1,none⟩) (Kd.R_mono HO_3.out (fun k_ hk => (⟨hk,hk⟩ : _ ∧ k_ ≠ gb715))) (fun _ hk => hk.2) (.int .i64 (rd x4_2 ((rd_T49 l0 x7_2).f1)))) (fun _ h_ => h_.1)))) (by decide) hg);have n1_ := As_ (blk_grown (g := gb715) (o := .cells #[.int .i64 ((rd_T49 l0 x7_2).f0),.int .i64 (rd x4_2 ((rd_T49 l0 x7_2).f1))] 49 (0,0)) (by (with_reducible repeat first|apply bkN|apply bkD|apply bkA);refine blk_put (cs := #[.int .i64 ((rd_T49 l0 x7_2).f0),.int .i64 ((rd_T49 l0 x7_2).f1)]) ?_ 1 _ rfl;(with_reducible repeat first|apply bkN|apply bkD|apply bkA);exact BK715.out) hg (Kd.R_away HO_3.out (fun _ hk => hk)));have n2_ := As_ (hb);have n3_ := As_ (ho);clear HO_4 BK715 HB HO_3;revert n0_ n1_ n2_ n3_;intro HO_4 BK715 HB HO750;clear ho hb hg hat))
       go_roundg kj14
       case measure => have := HK1.out;have := HK2.out;have := HJ14.out;omega
       case rel => exact ⟨(y748),(x4_2),(x6_2),(wrap64 (x7_2 + 1)),zT_,zT_,H',⟨by have := HK1.out;have := HK2.out;have := HJ14.out;omega⟩,⟨by (with_reducible repeat (first|apply Kd.R_alloc|apply Kd.R_drewN|apply Kd.R_drew));exact Kd.R_mono HO750.out (fun _ hk => trivial)⟩,⟨by (with_reducible repeat (first|apply Kd.R_alloc|apply Kd.R_drewN|apply Kd.R_drew));exact HO_4.out⟩,⟨zb1 HB.out GE715.out⟩⟩
end Go.Proofs.Ytonppkaobnfldaa.Q
