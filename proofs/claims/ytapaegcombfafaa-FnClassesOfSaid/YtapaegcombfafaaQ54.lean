-- Written by wip/tools/qprint.py (a program of this claim's author) by means of the kit's printer.
import Derived.Test.YtapaegcombfafaaQ0
import Derived.Test.YtapaegcombfafaaQ49
import Derived.Test.YtapaegcombfafaaQ89
namespace Go.Proofs.Ytapaegcombfafaa.Q
open Go.RowKit Go.Proofs.YtapaegcombfafaaW.PrintWords Go.Proofs.YtapaegcombfafaaW.PrintLast Go.Proofs.YtapaegcombfafaaW.PrintMore
attribute [local go_sem] max2_int min2_int max_two min_two max_three min_three max_four min_four   -- for this text's walks alone
set_option linter.unusedVariables false
set_option linter.unusedSimpArgs false

/-! ### spec_classes: function 54 -/
mutual
def spec_classes.l0 : Nat → List (S58) → List Int → Int → Option (List Int)
 | 0,_,_,_ => none
 | k + 1,x0,x3,x4 => if x4 ≤ (x0.length : Int) then (spec_classes.l1 k x0 x3 x4 (([] : List Int)) 0) else (some x3)
def spec_classes.l1 : Nat → List (S58) → List Int → Int → List Int → Int → Option (List Int)
 | 0,_,_,_,_,_ => none
 | k + 1,x0,x3,x4,x5,x6 => if x6 < (x0.length : Int) then (spec_classes.l2 k x0 x3 x4 x5 x6 0) else (spec_classes.l0 k x0 x5 (wrap64 (x4 + 1)))
def spec_classes.l2 : Nat → List (S58) → List Int → Int → List Int → Int → Int → Option (List Int)
 | 0,_,_,_,_,_,_ => none
 | k + 1,x0,x3,x4,x5,x6,x7 => if x7 < x6 then ((spec_sameClass.f k x0 x3 x6 x7).bind fun t715 => (if t715 = true then (if 0 ≤ x7 then (if x7 < (x5.length : Int) then (if x5.length < 17592186044416 then (spec_classes.l1 k x0 x3 x4 (x5 ++ [rd x5 x7]) (wrap64 (x6 + 1))) else (none)) else (none)) else (none)) else (spec_classes.l2 k x0 x3 x4 x5 x6 (wrap64 (x7 + 1))))) else (if x5.length < 17592186044416 then (spec_classes.l1 k x0 x3 x4 (x5 ++ [x6]) (wrap64 (x6 + 1))) else (none))
end
def spec_classes.f (k : Nat) (l0 : List (S58)) : Option (List Int) := if 0 ≤ (l0.length : Int) then (if ((l0.length : Int) : Int).toNat ≤ 35184372088832 then (spec_classes.l0 k l0 (List.replicate ((l0.length : Int) : Int).toNat 0) 0) else (none)) else (none)
set_option maxRecDepth 100000 in
theorem spec_classes.mono_l : ∀ k,(∀ y0 y1 y2,LeO (spec_classes.l0 k y0 y1 y2) (spec_classes.l0 (k + 1) y0 y1 y2)) ∧ (∀ y0 y1 y2 y3 y4,LeO (spec_classes.l1 k y0 y1 y2 y3 y4) (spec_classes.l1 (k + 1) y0 y1 y2 y3 y4)) ∧ (∀ y0 y1 y2 y3 y4 y5,LeO (spec_classes.l2 k y0 y1 y2 y3 y4 y5) (spec_classes.l2 (k + 1) y0 y1 y2 y3 y4 y5))
 | 0 => ⟨fun _ _ _ r h => (by cases h),fun _ _ _ _ _ r h => (by cases h),fun _ _ _ _ _ _ r h => (by cases h)⟩
 | k + 1 => by
  obtain ⟨ih0,ih1,ih2⟩ := spec_classes.mono_l k
  refine ⟨?_,?_,?_⟩
  ·intro y0 y1 y2
   unfold spec_classes.l0
   repeat' first
   | (with_reducible exact ih0 _ _ _)
   | (with_reducible exact ih1 _ _ _ _ _)
   | (with_reducible exact ih2 _ _ _ _ _ _)
   | (with_reducible exact spec_sameClass.mono _ _ _ _ _)
   | (with_reducible exact LeO.refl _)
   | (with_reducible exact LeO.none _)
   | (with_reducible refine LeO.ite ?_ ?_)
   | (with_reducible refine LeO.bind ?_ (fun _ => ?_))
   | exact ih0 _ _ _
   | exact ih1 _ _ _ _ _
   | exact ih2 _ _ _ _ _ _
   | exact spec_sameClass.mono _ _ _ _ _
   | exact LeO.none _
   | refine LeO.ite ?_ ?_
   | refine LeO.bind ?_ (fun _ => ?_)
  ·intro y0 y1 y2 y3 y4
   unfold spec_classes.l1
   repeat' first
   | (with_reducible exact ih0 _ _ _)
   | (with_reducible exact ih1 _ _ _ _ _)
   | (with_reducible exact ih2 _ _ _ _ _ _)
   | (with_reducible exact spec_sameClass.mono _ _ _ _ _)
   | (with_reducible exact LeO.refl _)
   | (with_reducible exact LeO.none _)
   | (with_reducible refine LeO.ite ?_ ?_)
   | (with_reducible refine LeO.bind ?_ (fun _ => ?_))
   | exact ih0 _ _ _
   | exact ih1 _ _ _ _ _
   | exact ih2 _ _ _ _ _ _
   | exact spec_sameClass.mono _ _ _ _ _
   | exact LeO.none _
   | refine LeO.ite ?_ ?_
   | refine LeO.bind ?_ (fun _ => ?_)
  ·intro y0 y1 y2 y3 y4 y5
   unfold spec_classes.l2
   repeat' first
   | (with_reducible exact ih0 _ _ _)
   | (with_reducible exact ih1 _ _ _ _ _)
   | (with_reducible exact ih2 _ _ _ _ _ _)
   | (with_reducible exact spec_sameClass.mono _ _ _ _ _)
   | (with_reducible exact LeO.refl _)
   | (with_reducible exact LeO.none _)
   | (with_reducible refine LeO.ite ?_ ?_)
   | (with_reducible refine LeO.bind ?_ (fun _ => ?_))
   | exact ih0 _ _ _
   | exact ih1 _ _ _ _ _
   | exact ih2 _ _ _ _ _ _
   | exact spec_sameClass.mono _ _ _ _ _
   | exact LeO.none _
   | refine LeO.ite ?_ ?_
   | refine LeO.bind ?_ (fun _ => ?_)
set_option maxRecDepth 100000 in
theorem spec_classes.mono : ∀ a0 k,LeO (spec_classes.f k a0) (spec_classes.f (k + 1) a0) := by
 intro a0 k
 obtain ⟨ih0,ih1,ih2⟩ := spec_classes.mono_l k
 unfold spec_classes.f
 repeat' first
   | (with_reducible exact ih0 _ _ _)
   | (with_reducible exact ih1 _ _ _ _ _)
   | (with_reducible exact ih2 _ _ _ _ _ _)
   | (with_reducible exact spec_sameClass.mono _ _ _ _ _)
   | (with_reducible exact LeO.refl _)
   | (with_reducible exact LeO.none _)
   | (with_reducible refine LeO.ite ?_ ?_)
   | (with_reducible refine LeO.bind ?_ (fun _ => ?_))
   | exact ih0 _ _ _
   | exact ih1 _ _ _ _ _
   | exact ih2 _ _ _ _ _ _
   | exact spec_sameClass.mono _ _ _ _ _
   | exact LeO.none _
   | refine LeO.ite ?_ ?_
   | refine LeO.bind ?_ (fun _ => ?_)
set_option maxHeartbeats 8000000 in
set_option maxRecDepth 100000 in
theorem spec_classes.calls (k : Nat) (A0 : Option Addr) (c0 : Nat) (l0 : List (S58)) (r : List Int) (w : World) (hr0 : Kd.C k58 w A0 l0.length l0) (hc0 : l0.length ≤ c0) (h : spec_classes.f k l0 = some r) :
  Calls Try.prog 54 #[.slice A0 l0.length c0] w fun e w' => ∃ v0_ : Value,e = .returned (v0_) ∧ Kd.R (Kd.int .i64) 3 w' w.heap.size (fun _ => True) v0_ r ∧ Below w.heap.size w w' := by
 have HR0 := As_ hr0
 have HC0 := As_ hc0
 clear hr0 hc0
 have HB := As_ (Below.refl w.heap.size w)
 have H : (if 0 ≤ (l0.length : Int) then (if ((l0.length : Int) : Int).toNat ≤ 35184372088832 then (spec_classes.l0 k l0 (List.replicate ((l0.length : Int) : Int).toNat 0) 0) else (none)) else (none)) = some r := h
 clear h
 by_cases c2 : 0 ≤ (l0.length : Int)
 rotate_left
 ·rw [if_neg c2] at H
  exact absurd H (by simp)
 rw [if_pos c2] at H
 have c2b0 := eq_true c2
 have c2b1 : decide (0 ≤ (l0.length : Int)) = true := deT c2
 clear c2
 by_cases c3 : ((l0.length : Int) : Int).toNat ≤ 35184372088832
 rotate_left
 ·rw [if_neg c3] at H
  exact absurd H (by simp)
 rw [if_pos c3] at H
 have c3b0 := eq_true c3
 have c3b1 : decide (((l0.length : Int) : Int).toNat ≤ 35184372088832) = true := deT c3
 clear c3
 obtain ⟨y709,hy709⟩ : ∃ y_ : List Int,y_ = (List.replicate ((l0.length : Int) : Int).toNat 0) := ⟨_,rfl⟩
 replace H : (spec_classes.l0 k l0 y709 0) = some r := zH_ H hy709
 have Ny709 := As_ hy709
 clear hy709
 have H' := As_ H
 clear H
 go_enter Try.func54,Try.ntmps54
 go_wp2_with (first|((with_reducible refine gate_dst (N := 10) rfl ?_);refine Kd.R_make (Kd.int .i64) _ 3 rfl (N := 10) rfl 26 _ _ rfl (l0.length : Int) rfl rfl Try.underlying26 (.int .i64 0) 8 info3 rfl (by decide) (by omega) 0 (ok := fun _ => True) (okp := fun _ => True) rfl (fun _ hk => hk) trivial (odT zA_) (Nat.le_trans (Nat.mul_le_mul_right _ (odT zA_ : (l0.length : Int).toNat ≤ 35184372088832)) (by omega)) (Below.refl _ _) (Nat.le_refl _) ?_;intro v710 w4 ho5 hb hg_ hnew_;clear hg_ hnew_;(first|rw [← Ny709.out] at ho5|(simp only [Int.reduceToNat] at ho5;rw [← Ny709.out] at ho5));have n0_ := As_ (Kd.R_lower ho5 (bwZ (zb0 HB.out)));have n1_ := As_ (bwT (zb0 HB.out) hb);clear HB;revert n0_ n1_;intro HO711 HB;clear hb ho5))
 go_loopg [3,4] k (fun kq v3 v4 w' => ∃ (x3_1 : List Int) (x4_1 : Int),v4 = .int .i64 x4_1 ∧ Aside0 (spec_classes.l0 kq l0 x3_1 x4_1 = some r) ∧ Aside0 (kq ≤ k) ∧ Aside0 (Kd.R (Kd.int .i64) 3 w' w.heap.size (fun _ => True) v3 x3_1) ∧ Aside0 (Below w.heap.size w w'))
 case atStart => exact ⟨(y709),(0),zT_,H',⟨Nat.le_refl _⟩,⟨by (with_reducible repeat (first|apply Kd.R_alloc|apply Kd.R_drewN|apply Kd.R_drew));exact HO711.out⟩,⟨zb0 HB.out⟩⟩
 case round =>
  clear H'
  obtain ⟨x3_1,x4_1,rfl,HA,HK1,HO_3,HB⟩ := hrel
  cases gk with
  | zero => exact absurd HA.out (fun h_ => (by cases h_))
  | succ k1 =>
   have H := HA.out
   clear HA
   simp only [spec_classes.l0] at H
   by_cases c6 : x4_1 ≤ (l0.length : Int)
   rotate_left
   ·rw [if_neg c6] at H
    have c6b0 : decide (x4_1 ≤ (l0.length : Int)) = false := deF c6
    clear c6
    obtain rfl := Option.some.inj H
    go_wp2
    go_ret
    exact ⟨_,zE_,by (with_reducible repeat (first|apply Kd.R_alloc|apply Kd.R_drewN|apply Kd.R_drew));exact HO_3.out,zb0 HB.out⟩

   rw [if_pos c6] at H
   have c6b0 : decide (x4_1 ≤ (l0.length : Int)) = true := deT c6
   clear c6
   obtain ⟨y712,hy712⟩ : ∃ y_ : List Int,y_ = (([] : List Int)) := ⟨_,rfl⟩
   replace H : (spec_classes.l1 k1 l0 x3_1 x4_1 y712 0) = some r := zH_ H hy712
   have Ny712 := As_ hy712
   clear hy712
   have H' := As_ H
   clear H
   go_wp2_with (first|((with_reducible refine gate_dst (N := 17) rfl ?_);refine Kd.R_lit (Kd.int .i64) _ 3 ?hg (N := 17) ?hd (xs := ([] : List Int)) (inner := []) (ok := fun _ => True) (okp := fun _ => True) ?hr ?hp (fun _ hk => hk) trivial (Below.refl _ _) (Nat.le_refl _) (by simp) ?_;(case hd => rfl);(case hg => rfl);(case hr => go_simp <;> rfl);(case hp => exact (Reps.none _ _));intro v713 w7 ho8 hb hg_ hnew_;clear hg_ hnew_;(first|rw [← Ny712.out] at ho8|(simp only [Int.reduceToNat] at ho8;rw [← Ny712.out] at ho8));have n0_ := As_ (Kd.R_elder' (zR_ HO_3.out) (Kd.R_base ho8) hb);have n1_ := As_ (Kd.R_lower (Kd.R_new' ho8 (Kd.R_lt (zR_ HO_3.out))) (bwZ (zb0 HB.out)));have n2_ := As_ (bwT (zb0 HB.out) hb);clear HO_3 HB;revert n0_ n1_ n2_;intro HO_3 HO714 HB;clear hb ho8))
   go_loopg [5,6] k1 (fun kq v5 v6 w' => ∃ (x5_2 : List Int) (x6_2 : Int),v6 = .int .i64 x6_2 ∧ Aside0 (spec_classes.l1 kq l0 x3_1 x4_1 x5_2 x6_2 = some r) ∧ Aside0 (kq ≤ k1) ∧ Aside0 (Kd.R (Kd.int .i64) 3 w' w.heap.size (fun k_ => some k_ ≠ (v5 : Value).ownBlock) u3 x3_1) ∧ Aside0 (Kd.R (Kd.int .i64) 3 w' w.heap.size (fun k_ => some k_ ≠ (u3 : Value).ownBlock) v5 x5_2) ∧ Aside0 (Below w.heap.size w w'))
   case atStart => exact ⟨(y712),(0),zT_,H',⟨Nat.le_refl _⟩,⟨by (with_reducible repeat (first|apply Kd.R_alloc|apply Kd.R_drewN|apply Kd.R_drew));exact Kd.R_mono HO_3.out (fun _ hk => hk.2)⟩,⟨by (with_reducible repeat (first|apply Kd.R_alloc|apply Kd.R_drewN|apply Kd.R_drew));exact Kd.R_mono HO714.out (fun _ hk => hk.2)⟩,⟨zb0 HB.out⟩⟩
   case round =>
    clear H'
    obtain ⟨x5_2,x6_2,rfl,HA,HK2,HO_3,HO_5,HB⟩ := hrel
    cases gk with
    | zero => exact absurd HA.out (fun h_ => (by cases h_))
    | succ k2 =>
     have H := HA.out
     clear HA
     simp only [spec_classes.l1] at H
     by_cases c9 : x6_2 < (l0.length : Int)
     rotate_left
     ·rw [if_neg c9] at H
      have c9b0 : decide (x6_2 < (l0.length : Int)) = false := deF c9
      clear c9
      have H' := As_ H
      clear H
      go_wp2
      go_roundg k2
      case measure => have := HK1.out;have := HK2.out;omega
      case rel => exact ⟨(x5_2),(wrap64 (x4_1 + 1)),zT_,H',⟨by have := HK1.out;have := HK2.out;omega⟩,⟨by (with_reducible repeat (first|apply Kd.R_alloc|apply Kd.R_drewN|apply Kd.R_drew));exact Kd.R_mono HO_5.out (fun _ hk => trivial)⟩,⟨zb0 HB.out⟩⟩
     rw [if_pos c9] at H
     have c9b0 : decide (x6_2 < (l0.length : Int)) = true := deT c9
     clear c9
     have H' := As_ H
     clear H
     go_wp2
     go_loopg [7] k2 (fun kq v7 w' => ∃ (x7_3 : Int),v7 = .int .i64 x7_3 ∧ Aside0 (spec_classes.l2 kq l0 x3_1 x4_1 x5_2 x6_2 x7_3 = some r) ∧ Aside0 (kq ≤ k2) ∧ Aside0 (Kd.R (Kd.int .i64) 3 w' w.heap.size (fun k_ => some k_ ≠ (u5 : Value).ownBlock) u3 x3_1) ∧ Aside0 (Kd.R (Kd.int .i64) 3 w' w.heap.size (fun k_ => some k_ ≠ (u3 : Value).ownBlock) u5 x5_2) ∧ Aside0 (Below w.heap.size w w'))
     case atStart => exact ⟨(0),zT_,H',⟨Nat.le_refl _⟩,⟨by (with_reducible repeat (first|apply Kd.R_alloc|apply Kd.R_drewN|apply Kd.R_drew));exact HO_3.out⟩,⟨by (with_reducible repeat (first|apply Kd.R_alloc|apply Kd.R_drewN|apply Kd.R_drew));exact HO_5.out⟩,⟨zb0 HB.out⟩⟩
     case round =>
      clear H'
      obtain ⟨x7_3,rfl,HA,HK3,HO_3,HO_5,HB⟩ := hrel
      cases gk with
      | zero => exact absurd HA.out (fun h_ => (by cases h_))
      | succ k3 =>
       have H := HA.out
       clear HA
       simp only [spec_classes.l2] at H
       by_cases c10 : x7_3 < x6_2
       rotate_left
       ·rw [if_neg c10] at H
        have c10b0 : decide (x7_3 < x6_2) = false := deF c10
        clear c10
        by_cases c22 : x5_2.length < 17592186044416
        rotate_left
        ·rw [if_neg c22] at H
         exact absurd H (by simp)
        rw [if_pos c22] at H
        have LMc22 := As_ c22
        clear c22
        obtain ⟨y720,hy720⟩ : ∃ y_ : List Int,y_ = (x5_2 ++ [x6_2]) := ⟨_,rfl⟩
        replace H : (spec_classes.l1 k3 l0 x3_1 x4_1 y720 (wrap64 (x6_2 + 1))) = some r := zH_ H hy720
        have Ny720 := As_ hy720
        clear hy720
        have H' := As_ H
        clear H
        go_wp2_with (first|((with_reducible refine gate_builtin (b := .append) (xs := #[.tmp 47,.tmp 49]) rfl ?_);at_builtin;refine Kd.R_append (Kd.int .i64) (w0 := w) w.heap.size rfl (.tmp 47) (.tmp 49) 26 3 (.int .i64 0) 8 rfl Try.underlying26 info3 rfl (by decide) (by omega) u5 x5_2 x6_2 [.int .i64 x6_2] (fun k_ => some k_ ≠ (u3 : Value).ownBlock) (fun _ => False) rfl rfl ?aP (fun _ hk => hk.elim) ?aF ?aO ?aB ?aS ?aL ?_;(case aP => exact rfl);(case aB => exact (zb0 HB.out));(case aF => exact (fun k_ hk => Kd.fresh' (Kd.R_lt (zR_ HO_3.out)) k_ hk));(case aO => exact (zR_ HO_5.out));(case aS => exact (bwZ (zb0 HB.out)));(case aL => have := LMc22.out;omega);intro v721 w23 ho hb hg hat;rw [← Ny720.out] at ho;have n0_ := As_ (Kd.R_after (ok := (fun _ => True)) (by (with_reducible repeat (first|apply Kd.R_alloc|apply Kd.R_drewN|apply Kd.R_drew));exact Kd.R_mono HO_3.out (fun _ hk => ⟨trivial,hk⟩)) hg hat);have n1_ := As_ (hb);have n2_ := As_ (ho);clear HO_3 HB HO_5;revert n0_ n1_ n2_;intro HO_3 HB HO722;clear ho hb hg hat))
        go_roundg k3
        case measure => have := HK1.out;have := HK2.out;have := HK3.out;omega
        case rel => exact ⟨(y720),(wrap64 (x6_2 + 1)),zT_,H',⟨by have := HK1.out;have := HK2.out;have := HK3.out;omega⟩,⟨by (with_reducible repeat (first|apply Kd.R_alloc|apply Kd.R_drewN|apply Kd.R_drew));exact Kd.R_mono HO_3.out (fun _ hk => hk.2)⟩,⟨by (with_reducible repeat (first|apply Kd.R_alloc|apply Kd.R_drewN|apply Kd.R_drew));exact HO722.out⟩,⟨zb0 HB.out⟩⟩
       rw [if_pos c10] at H
       have c10b0 : decide (x7_3 < x6_2) = true := deT c10
       clear c10
       replace H := obS H
       obtain ⟨t715,A110,H⟩ := H
       replace H : (if t715 = true then (if 0 ≤ x7_3 then (if x7_3 < (x5_2.length : Int) then (if x5_2.length < 17592186044416 then (spec_classes.l1 k3 l0 x3_1 x4_1 (x5_2 ++ [rd x5_2 x7_3]) (wrap64 (x6_2 + 1))) else (none)) else (none)) else (none)) else (spec_classes.l2 k3 l0 x3_1 x4_1 x5_2 x6_2 (wrap64 (x7_3 + 1)))) = some r := H
       have A11 := As_ A110
       clear A110
       by_cases c12 : t715 = true
       rotate_left
       ·replace c12 := Bool.eq_false_iff.mpr c12
        subst c12
        have H1 : (spec_classes.l2 k3 l0 x3_1 x4_1 x5_2 x6_2 (wrap64 (x7_3 + 1))) = some r := by rw [if_neg (show ¬ (false = true) by decide)] at H;exact H
        clear H
        have H := H1
        clear H1
        have H' := As_ H
        clear H
        obtain ⟨Ao20,co20,eo20⟩ := Kd.R_slice HO_3.out
        subst eo20
        go_wp2_with (first|(go_at_call 89;(with_reducible refine (spec_sameClass.calls k3 _ _ l0 _ _ x3_1 x6_2 x7_3 false _ ?side1 ?side2 ?side3 ?side4 A11.out).mono ?_);(case side1 => exact zC_ (Kd.C_below HR0.out HB.out));(case side2 => exact HC0.out);(case side3 => exact zC_ (Kd.R_reads' HO_3.out).2.2);(case side4 => exact (Kd.R_reads' HO_3.out).2.1);rintro e w21 ⟨rfl,hb⟩;have n0_ := As_ (Kd.R_below (zR_ HO_3.out) hb);have n1_ := As_ (Kd.R_below (zR_ HO_5.out) hb);have n2_ := As_ (bwT (zb0 HB.out) hb);clear HO_3 HO_5 HB;revert n0_ n1_ n2_;intro HO_3 HO_5 HB))
        go_roundg k3
        case measure => have := HK1.out;have := HK2.out;have := HK3.out;omega
        case rel => exact ⟨(wrap64 (x7_3 + 1)),zT_,H',⟨by have := HK1.out;have := HK2.out;have := HK3.out;omega⟩,⟨by (with_reducible repeat (first|apply Kd.R_alloc|apply Kd.R_drewN|apply Kd.R_drew));exact HO_3.out⟩,⟨by (with_reducible repeat (first|apply Kd.R_alloc|apply Kd.R_drewN|apply Kd.R_drew));exact HO_5.out⟩,⟨zb0 HB.out⟩⟩
       subst c12
       have H1 : (if 0 ≤ x7_3 then (if x7_3 < (x5_2.length : Int) then (if x5_2.length < 17592186044416 then (spec_classes.l1 k3 l0 x3_1 x4_1 (x5_2 ++ [rd x5_2 x7_3]) (wrap64 (x6_2 + 1))) else (none)) else (none)) else (none)) = some r := by rw [if_pos rfl] at H;exact H
       clear H
       have H := H1
       clear H1
       by_cases c13 : 0 ≤ x7_3
       rotate_left
       ·rw [if_neg c13] at H
        exact absurd H (by simp)
       rw [if_pos c13] at H
       have c13b0 : decide (0 ≤ x7_3) = true := deT c13
       clear c13
       by_cases c14 : x7_3 < (x5_2.length : Int)
       rotate_left
       ·rw [if_neg c14] at H
        exact absurd H (by simp)
       rw [if_pos c14] at H
       have c14b0 : decide (x7_3 < (x5_2.length : Int)) = true := deT c14
       clear c14
       by_cases c15 : x5_2.length < 17592186044416
       rotate_left
       ·rw [if_neg c15] at H
        exact absurd H (by simp)
       rw [if_pos c15] at H
       have LMc15 := As_ c15
       clear c15
       obtain ⟨y717,hy717⟩ : ∃ y_ : List Int,y_ = (x5_2 ++ [rd x5_2 x7_3]) := ⟨_,rfl⟩
       replace H : (spec_classes.l1 k3 l0 x3_1 x4_1 y717 (wrap64 (x6_2 + 1))) = some r := zH_ H hy717
       have Ny717 := As_ hy717
       clear hy717
       have H' := As_ H
       clear H
       obtain ⟨Ao16,co16,eo16⟩ := Kd.R_slice HO_3.out
       subst eo16
       go_wp2_with (first|(go_at_call 89;(with_reducible refine (spec_sameClass.calls k3 _ _ l0 _ _ x3_1 x6_2 x7_3 true _ ?side1 ?side2 ?side3 ?side4 A11.out).mono ?_);(case side1 => exact zC_ (Kd.C_below HR0.out HB.out));(case side2 => exact HC0.out);(case side3 => exact zC_ (Kd.R_reads' HO_3.out).2.2);(case side4 => exact (Kd.R_reads' HO_3.out).2.1);rintro e w17 ⟨rfl,hb⟩;have n0_ := As_ (Kd.R_below (zR_ HO_3.out) hb);have n1_ := As_ (Kd.R_below (zR_ HO_5.out) hb);have n2_ := As_ (bwT (zb0 HB.out) hb);clear HO_3 HO_5 HB;revert n0_ n1_ n2_;intro HO_3 HO_5 HB;obtain ⟨Ao18,co18,eo18⟩ := Kd.R_slice HO_5.out;subst eo18;have p716 : 0 ≤ (x7_3 : Int) := odT zA_;have q716 : x7_3 < (x5_2.length : Int) := odT zA_;obtain ⟨ad716,e716,hx716_0⟩ := Kd.at_int (Kd.R_reads' HO_5.out).2.2 x7_3 p716 q716;cases e716;replace p716 := eq_true p716;replace q716 := eq_true q716)|((with_reducible refine gate_builtin (b := .append) (xs := #[.tmp 40,.tmp 45]) rfl ?_);at_builtin;refine Kd.R_append (Kd.int .i64) (w0 := w) w.heap.size rfl (.tmp 40) (.tmp 45) 26 3 (.int .i64 0) 8 rfl Try.underlying26 info3 rfl (by decide) (by omega) (.slice (some ad716) x5_2.length co18) x5_2 (rd x5_2 x7_3) [.int .i64 (rd x5_2 x7_3)] (fun k_ => some k_ ≠ (.slice Ao16 x3_1.length co16 : Value).ownBlock) (fun _ => False) rfl rfl ?aP (fun _ hk => hk.elim) ?aF ?aO ?aB ?aS ?aL ?_;(case aP => exact rfl);(case aB => exact (zb0 HB.out));(case aF => exact (fun k_ hk => Kd.fresh' (Kd.R_lt (zR_ HO_3.out)) k_ hk));(case aO => exact (zR_ HO_5.out));(case aS => exact (bwZ (zb0 HB.out)));(case aL => have := LMc15.out;omega);intro v718 w19 ho hb hg hat;rw [← Ny717.out] at ho;have n0_ := As_ (Kd.R_after (ok := (fun _ => True)) (by (with_reducible repeat (first|apply Kd.R_alloc|apply Kd.R_drewN|apply Kd.R_drew));exact Kd.R_mono HO_3.out (fun _ hk => ⟨trivial,hk⟩)) hg hat);have n1_ := As_ (hb);have n2_ := As_ (ho);clear HO_3 HB HO_5;revert n0_ n1_ n2_;intro HO_3 HB HO719;clear ho hb hg hat))
       go_roundg k3
       case measure => have := HK1.out;have := HK2.out;have := HK3.out;omega
       case rel => exact ⟨(y717),(wrap64 (x6_2 + 1)),zT_,H',⟨by have := HK1.out;have := HK2.out;have := HK3.out;omega⟩,⟨by (with_reducible repeat (first|apply Kd.R_alloc|apply Kd.R_drewN|apply Kd.R_drew));exact Kd.R_mono HO_3.out (fun _ hk => hk.2)⟩,⟨by (with_reducible repeat (first|apply Kd.R_alloc|apply Kd.R_drewN|apply Kd.R_drew));exact HO719.out⟩,⟨zb0 HB.out⟩⟩
/-! ### spec_ClassesOf: function 28 -/
def spec_ClassesOf.f (k : Nat) (l0_0 : List (S58)) (a0_1 : Int) : Option (List Int) := (spec_validGraph.f k l0_0 a0_1).bind fun t724 => (if t724 = true then ((spec_classes.f k l0_0).bind fun t725 => (some t725)) else (some ([] : List Int)))
set_option maxRecDepth 100000 in
theorem spec_ClassesOf.mono : ∀ a0 a1 k,LeO (spec_ClassesOf.f k a0 a1) (spec_ClassesOf.f (k + 1) a0 a1) := by
 intro a0 a1 k
 unfold spec_ClassesOf.f
 repeat' first
   | (with_reducible exact spec_classes.mono _ _)
   | (with_reducible exact spec_validGraph.mono _ _ _)
   | (with_reducible exact LeO.refl _)
   | (with_reducible exact LeO.none _)
   | (with_reducible refine LeO.ite ?_ ?_)
   | (with_reducible refine LeO.bind ?_ (fun _ => ?_))
   | exact spec_classes.mono _ _
   | exact spec_validGraph.mono _ _ _
   | exact LeO.none _
   | refine LeO.ite ?_ ?_
   | refine LeO.bind ?_ (fun _ => ?_)
set_option maxHeartbeats 8000000 in
set_option maxRecDepth 100000 in
theorem spec_ClassesOf.calls (k : Nat) (A0_0 : Option Addr) (c0_0 : Nat) (l0_0 : List (S58)) (a0_1 : Int) (r : List Int) (w : World) (hr0_0 : Kd.C k58 w A0_0 l0_0.length l0_0) (hc0_0 : l0_0.length ≤ c0_0) (h : spec_ClassesOf.f k l0_0 a0_1 = some r) :
  Calls Try.prog 28 #[.agg #[.slice A0_0 l0_0.length c0_0,.int .i64 a0_1]] w fun e w' => ∃ v0_ : Value,e = .returned (v0_) ∧ Kd.R (Kd.int .i64) 3 w' w.heap.size (fun _ => True) v0_ r ∧ Below w.heap.size w w' := by
 have hu25 := Try.underlying25
 have HR0_0 := As_ hr0_0
 have HC0_0 := As_ hc0_0
 clear hr0_0 hc0_0
 have HB := As_ (Below.refl w.heap.size w)
 have H : ((spec_validGraph.f k l0_0 a0_1).bind fun t724 => (if t724 = true then ((spec_classes.f k l0_0).bind fun t725 => (some t725)) else (some ([] : List Int)))) = some r := h
 clear h
 replace H := obS H
 obtain ⟨t724,A20,H⟩ := H
 replace H : (if t724 = true then ((spec_classes.f k l0_0).bind fun t725 => (some t725)) else (some ([] : List Int))) = some r := H
 have A2 := As_ A20
 clear A20
 by_cases c3 : t724 = true
 rotate_left
 ·replace c3 := Bool.eq_false_iff.mpr c3
  subst c3
  have H1 : (some ([] : List Int)) = some r := by rw [if_neg (show ¬ (false = true) by decide)] at H;exact H
  clear H
  have H := H1
  clear H1
  obtain rfl := Option.some.inj H
  go_enter Try.func28,Try.ntmps28
  go_wp2_with (first|((with_reducible refine gate_dst (N := 1) rfl ?_);refine box_event ?hg (N := 1) ?hd (cs := #[.slice A0_0 l0_0.length c0_0,.int .i64 a0_1]) (t := 25) ?hr ?_;(case hd => rfl);(case hg => rfl);(case hr => go_simp <;> rfl);intro gb723 hg w10 hbox hb;have n0_ := As_ (bwT (zb0 HB.out) hb);have n1_ := As_ (hbox);have n2_ := As_ ((by rw [hg];exact (bwZ (zb0 HB.out)) : w.heap.size ≤ gb723));have n3_ := As_ ((by rw [hg];exact (bwZ (zb0 HB.out)) : w.heap.size ≤ gb723));clear HB;revert n0_ n1_ n2_ n3_;intro HB BK723 GW723 GE723;clear hb hbox hg;obtain ⟨hcz11_0,hcz11_1,hfz11_0,hfz11_1⟩ := bk2 BK723.out)|((with_reducible refine gate_callee (f := 49) rfl ?_);refine goesL_ (some 4) rfl rfl Try.func49 (by kernel_rfl) rfl #[.agg #[.slice A0_0 l0_0.length c0_0,.int .i64 a0_1]] rfl zM_ ?_;(with_reducible refine (spec_validGraph.calls k _ _ l0_0 a0_1 false _ ?side1 ?side2 A2.out).mono ?_);(case side1 => exact zC_ (Kd.C_below HR0_0.out HB.out));(case side2 => exact HC0_0.out);rintro e w12 ⟨rfl,hb⟩;refine ⟨_,rfl,?_⟩;have n0_ := As_ (zkb BK723.out hb);have n1_ := As_ (bwT (zb1 HB.out GE723.out) hb);clear BK723 HB;revert n0_ n1_;intro BK723 HB))
  go_ret
  exact ⟨_,zE_,by first|exact Kd.R_nil _ _ _ _ _|exact Kd.N_nil _ _ _ _ _|exact Kd.V_nil _ _ _ _ _|exact Kd.Q_nil _ _ _ _ _|exact Kd.S_nil _ _ _ _ _,zb1 HB.out GE723.out⟩

 subst c3
 have H1 : ((spec_classes.f k l0_0).bind fun t725 => (some t725)) = some r := by rw [if_pos rfl] at H;exact H
 clear H
 have H := H1
 clear H1
 replace H := obS H
 obtain ⟨t725,A40,H⟩ := H
 replace H : (some t725) = some r := H
 have A4 := As_ A40
 clear A40
 obtain rfl := Option.some.inj H
 go_enter Try.func28,Try.ntmps28
 go_wp2_with (first|((with_reducible refine gate_dst (N := 1) rfl ?_);refine box_event ?hg (N := 1) ?hd (cs := #[.slice A0_0 l0_0.length c0_0,.int .i64 a0_1]) (t := 25) ?hr ?_;(case hd => rfl);(case hg => rfl);(case hr => go_simp <;> rfl);intro gb723 hg w5 hbox hb;have n0_ := As_ (bwT (zb0 HB.out) hb);have n1_ := As_ (hbox);have n2_ := As_ ((by rw [hg];exact (bwZ (zb0 HB.out)) : w.heap.size ≤ gb723));have n3_ := As_ ((by rw [hg];exact (bwZ (zb0 HB.out)) : w.heap.size ≤ gb723));clear HB;revert n0_ n1_ n2_ n3_;intro HB BK723 GW723 GE723;clear hb hbox hg;obtain ⟨hcz6_0,hcz6_1,hfz6_0,hfz6_1⟩ := bk2 BK723.out)|((with_reducible refine gate_callee (f := 49) rfl ?_);refine goesL_ (some 4) rfl rfl Try.func49 (by kernel_rfl) rfl #[.agg #[.slice A0_0 l0_0.length c0_0,.int .i64 a0_1]] rfl zM_ ?_;(with_reducible refine (spec_validGraph.calls k _ _ l0_0 a0_1 true _ ?side1 ?side2 A2.out).mono ?_);(case side1 => exact zC_ (Kd.C_below HR0_0.out HB.out));(case side2 => exact HC0_0.out);rintro e w7 ⟨rfl,hb⟩;refine ⟨_,rfl,?_⟩;have n0_ := As_ (zkb BK723.out hb);have n1_ := As_ (bwT (zb1 HB.out GE723.out) hb);clear BK723 HB;revert n0_ n1_;intro BK723 HB;obtain ⟨hcz8_0,hcz8_1,hfz8_0,hfz8_1⟩ := bk2 BK723.out)|((with_reducible refine gate_callee (f := 54) rfl ?_);refine goesL_ (some 8) rfl rfl Try.func54 (by kernel_rfl) rfl #[.slice A0_0 l0_0.length c0_0] rfl zM_ ?_;(with_reducible refine (spec_classes.calls k _ _ l0_0 t725 _ ?side1 ?side2 A4.out).mono ?_);(case side1 => exact zC_ (Kd.C_below HR0_0.out HB.out));(case side2 => exact HC0_0.out);rintro e w9 ⟨v726,rfl,ho0,hb⟩;refine ⟨_,rfl,?_⟩;have n0_ := As_ (Kd.R_lower ho0 (bwZ (zb1 HB.out GE723.out)));have n1_ := As_ (zkb BK723.out hb);have n2_ := As_ (bwT (zb1 HB.out GE723.out) hb);clear BK723 HB;revert n0_ n1_ n2_;intro HO727 BK723 HB))
 go_ret
 exact ⟨_,zE_,by (with_reducible repeat (first|apply Kd.R_alloc|apply Kd.R_drewN|apply Kd.R_drew));exact HO727.out,zb1 HB.out GE723.out⟩
end Go.Proofs.Ytapaegcombfafaa.Q
