-- Written by wip/tools/qprint.py (a program of this claim's author) by means of the kit's printer.
import Derived.Test.YtfhakhbmbnbneaaQ0
import Derived.Test.YtfhakhbmbnbneaaQ48
import Derived.Test.YtfhakhbmbnbneaaQ49
import Derived.Test.YtfhakhbmbnbneaaQ84
namespace Go.Proofs.Ytfhakhbmbnbneaa.Q
open Go.RowKit Go.Proofs.YtfhakhbmbnbneaaW.PrintWords Go.Proofs.YtfhakhbmbnbneaaW.PrintLast Go.Proofs.YtfhakhbmbnbneaaW.PrintMore
attribute [local go_sem] max2_int min2_int max_two min_two max_three min_three max_four min_four   -- for this text's walks alone
set_option linter.unusedVariables false
set_option linter.unusedSimpArgs false

/-! ### spec_classes: function 50 -/
mutual
def spec_classes.l0 : Nat → List (S45) → List Int → Int → Option (List Int)
 | 0,_,_,_ => none
 | k + 1,x0,x3,x4 => if x4 ≤ (x0.length : Int) then (spec_classes.l1 k x0 x3 x4 (([] : List Int)) 0) else (some x3)
def spec_classes.l1 : Nat → List (S45) → List Int → Int → List Int → Int → Option (List Int)
 | 0,_,_,_,_,_ => none
 | k + 1,x0,x3,x4,x5,x6 => if x6 < (x0.length : Int) then (spec_classes.l2 k x0 x3 x4 x5 x6 0) else (spec_classes.l0 k x0 x5 (wrap64 (x4 + 1)))
def spec_classes.l2 : Nat → List (S45) → List Int → Int → List Int → Int → Int → Option (List Int)
 | 0,_,_,_,_,_,_ => none
 | k + 1,x0,x3,x4,x5,x6,x7 => if x7 < x6 then ((spec_sameClass.f k x0 x3 x6 x7).bind fun t217 => (if t217 = true then (if 0 ≤ x7 then (if x7 < (x5.length : Int) then (if x5.length < 17592186044416 then (spec_classes.l1 k x0 x3 x4 (x5 ++ [rd x5 x7]) (wrap64 (x6 + 1))) else (none)) else (none)) else (none)) else (spec_classes.l2 k x0 x3 x4 x5 x6 (wrap64 (x7 + 1))))) else (if x5.length < 17592186044416 then (spec_classes.l1 k x0 x3 x4 (x5 ++ [x6]) (wrap64 (x6 + 1))) else (none))
end
def spec_classes.f (k : Nat) (l0 : List (S45)) : Option (List Int) := if 0 ≤ (l0.length : Int) then (if ((l0.length : Int) : Int).toNat ≤ 35184372088832 then (spec_classes.l0 k l0 (List.replicate ((l0.length : Int) : Int).toNat 0) 0) else (none)) else (none)
set_option maxRecDepth 100000 in
theorem spec_classes.mono_l : ∀ k,(∀ y0 y1 y2,LeO (spec_classes.l0 k y0 y1 y2) (spec_classes.l0 (k + 1) y0 y1 y2)) ∧ (∀ y0 y1 y2 y3 y4,LeO (spec_classes.l1 k y0 y1 y2 y3 y4) (spec_classes.l1 (k + 1) y0 y1 y2 y3 y4)) ∧ (∀ y0 y1 y2 y3 y4 y5,LeO (spec_classes.l2 k y0 y1 y2 y3 y4 y5) (spec_classes.l2 (k + 1) y0 y1 y2 y3 y4 y5))
 | 0 => ⟨fun _ _ _ r h => (by cases h),fun _ _ _ _ _ r h => (by cases h),fun _ _ _ _ _ _ r h => (by cases h)⟩
 | k + 1 => by
  obtain ⟨ih0,ih1,ih2⟩ := spec_classes.mono_l k
  refine ⟨?_,?_,?_⟩
  ·intro y0 y1 y2
   unfold spec_classes.l0
   repeat' first
   | (with_reducible exact ih0 _ _ _)
   | (with_reducible exact ih1 _ _ _ _ _)
   | (with_reducible exact ih2 _ _ _ _ _ _)
   | (with_reducible exact spec_sameClass.mono _ _ _ _ _)
   | (with_reducible exact LeO.refl _)
   | (with_reducible exact LeO.none _)
   | (with_reducible refine LeO.ite ?_ ?_)
   | (with_reducible refine LeO.bind ?_ (fun _ => ?_))
   | exact ih0 _ _ _
   | exact ih1 _ _ _ _ _
   | exact ih2 _ _ _ _ _ _
   | exact spec_sameClass.mono _ _ _ _ _
   | exact LeO.none _
   | refine LeO.ite ?_ ?_
   | refine LeO.bind ?_ (fun _ => ?_)
  ·intro y0 y1 y2 y3 y4
   unfold spec_classes.l1
   repeat' first
   | (with_reducible exact ih0 _ _ _)
   | (with_reducible exact ih1 _ _ _ _ _)
   | (with_reducible exact ih2 _ _ _ _ _ _)
   | (with_reducible exact spec_sameClass.mono _ _ _ _ _)
   | (with_reducible exact LeO.refl _)
   | (with_reducible exact LeO.none _)
   | (with_reducible refine LeO.ite ?_ ?_)
   | (with_reducible refine LeO.bind ?_ (fun _ => ?_))
   | exact ih0 _ _ _
   | exact ih1 _ _ _ _ _
   | exact ih2 _ _ _ _ _ _
   | exact spec_sameClass.mono _ _ _ _ _
   | exact LeO.none _
   | refine LeO.ite ?_ ?_
   | refine LeO.bind ?_ (fun _ => ?_)
  ·intro y0 y1 y2 y3 y4 y5
   unfold spec_classes.l2
   repeat' first
   | (with_reducible exact ih0 _ _ _)
   | (with_reducible exact ih1 _ _ _ _ _)
   | (with_reducible exact ih2 _ _ _ _ _ _)
   | (with_reducible exact spec_sameClass.mono _ _ _ _ _)
   | (with_reducible exact LeO.refl _)
   | (with_reducible exact LeO.none _)
   | (with_reducible refine LeO.ite ?_ ?_)
   | (with_reducible refine LeO.bind ?_ (fun _ => ?_))
   | exact ih0 _ _ _
   | exact ih1 _ _ _ _ _
   | exact ih2 _ _ _ _ _ _
   | exact spec_sameClass.mono _ _ _ _ _
   | exact LeO.none _
   | refine LeO.ite ?_ ?_
   | refine LeO.bind ?_ (fun _ => ?_)
set_option maxRecDepth 100000 in
theorem spec_classes.mono : ∀ a0 k,LeO (spec_classes.f k a0) (spec_classes.f (k + 1) a0) := by
 intro a0 k
 obtain ⟨ih0,ih1,ih2⟩ := spec_classes.mono_l k
 unfold spec_classes.f
 repeat' first
   | (with_reducible exact ih0 _ _ _)
   | (with_reducible exact ih1 _ _ _ _ _)
   | (with_reducible exact ih2 _ _ _ _ _ _)
   | (with_reducible exact spec_sameClass.mono _ _ _ _ _)
   | (with_reducible exact LeO.refl _)
   | (with_reducible exact LeO.none _)
   | (with_reducible refine LeO.ite ?_ ?_)
   | (with_reducible refine LeO.bind ?_ (fun _ => ?_))
   | exact ih0 _ _ _
   | exact ih1 _ _ _ _ _
   | exact ih2 _ _ _ _ _ _
   | exact spec_sameClass.mono _ _ _ _ _
   | exact LeO.none _
   | refine LeO.ite ?_ ?_
   | refine LeO.bind ?_ (fun _ => ?_)
set_option maxHeartbeats 8000000 in
set_option maxRecDepth 100000 in
theorem spec_classes.calls (k : Nat) (A0 : Option Addr) (c0 : Nat) (l0 : List (S45)) (r : List Int) (w : World) (hr0 : Kd.C k45 w A0 l0.length l0) (hc0 : l0.length ≤ c0) (h : spec_classes.f k l0 = some r) :
  Calls Try.prog 50 #[.slice A0 l0.length c0] w fun e w' => ∃ v0_ : Value,e = .returned (v0_) ∧ Kd.R (Kd.int .i64) 3 w' w.heap.size (fun _ => True) v0_ r ∧ Below w.heap.size w w' := by
 have HR0 := As_ hr0
 have HC0 := As_ hc0
 clear hr0 hc0
 have HB := As_ (Below.refl w.heap.size w)
 have H : (if 0 ≤ (l0.length : Int) then (if ((l0.length : Int) : Int).toNat ≤ 35184372088832 then (spec_classes.l0 k l0 (List.replicate ((l0.length : Int) : Int).toNat 0) 0) else (none)) else (none)) = some r := h
 clear h
 by_cases c2 : 0 ≤ (l0.length : Int)
 rotate_left
 ·rw [if_neg c2] at H
  exact absurd H (by simp)
 rw [if_pos c2] at H
 have c2b0 := eq_true c2
 have c2b1 : decide (0 ≤ (l0.length : Int)) = true := deT c2
 clear c2
 by_cases c3 : ((l0.length : Int) : Int).toNat ≤ 35184372088832
 rotate_left
 ·rw [if_neg c3] at H
  exact absurd H (by simp)
 rw [if_pos c3] at H
 have c3b0 := eq_true c3
 have c3b1 : decide (((l0.length : Int) : Int).toNat ≤ 35184372088832) = true := deT c3
 clear c3
 obtain ⟨y211,hy211⟩ : ∃ y_ : List Int,y_ = (List.replicate ((l0.length : Int) : Int).toNat 0) := ⟨_,rfl⟩
 replace H : (spec_classes.l0 k l0 y211 0) = some r := by first|(rw [hy211];with_reducible exact H)|(have H2_ := (Option.bind_some _ _).symm.trans H;rw [hy211];with_reducible exact H2_)|(have H2_ := (Option.bind_some _ _).symm.trans H;with_reducible exact H2_)|with_reducible exact H|(rw [hy211];exact H)|exact H
 have Ny211 := As_ hy211
 clear hy211
 have H' := As_ H
 clear H
 go_enter Try.func50,Try.ntmps50
 go_wp2_with (first|((with_reducible refine gate_dst (N := 10) rfl ?_);refine Kd.R_make (Kd.int .i64) _ 3 rfl (N := 10) rfl 37 _ _ rfl (l0.length : Int) rfl rfl Try.underlying37 (.int .i64 0) 8 info3 rfl (by decide) (by omega) 0 (ok := fun _ => True) (okp := fun _ => True) rfl (fun _ hk => hk) trivial (odT zA_) (Nat.le_trans (Nat.mul_le_mul_right _ (odT zA_ : (l0.length : Int).toNat ≤ 35184372088832)) (by omega)) (Below.refl _ _) (Nat.le_refl _) ?_;intro v212 w4 ho5 hb hg_ hnew_;clear hg_ hnew_;(first|rw [← Ny211.out] at ho5|(simp only [Int.reduceToNat] at ho5;rw [← Ny211.out] at ho5));have n0_ := As_ (Kd.R_lower ho5 (bwZ (zb0 HB.out)));have n1_ := As_ (bwT (zb0 HB.out) hb);clear HB;have HO213 := n0_;have HB := n1_;clear n0_ n1_;clear hb ho5))
 go_loopg [3,4] k (fun kq v3 v4 w' => ∃ (x3_1 : List Int) (x4_1 : Int),v4 = .int .i64 x4_1 ∧ Aside0 (spec_classes.l0 kq l0 x3_1 x4_1 = some r) ∧ Aside0 (kq ≤ k) ∧ Aside0 (Kd.R (Kd.int .i64) 3 w' w.heap.size (fun _ => True) v3 x3_1) ∧ Aside0 (Below w.heap.size w w'))
 case atStart => exact ⟨(y211),(0),zT_,H',⟨Nat.le_refl _⟩,⟨by (with_reducible repeat (first|apply Kd.R_alloc|apply Kd.R_drewN|apply Kd.R_drew));exact HO213.out⟩,⟨by repeat (first|(with_reducible first|exact HB.out|apply bwA|apply bwN|apply bwD)|exact HB.out)⟩⟩
 case round =>
  clear H'
  try clear c2
  try clear c2b0
  try clear c2b1
  try clear p2
  try clear c3
  try clear c3b0
  try clear c3b1
  try clear c5
  obtain ⟨x3_1,x4_1,rfl,HA,HK1,HO_3,HB⟩ := hrel
  cases gk with
  | zero => exact absurd HA.out (fun h_ => (by cases h_))
  | succ k1 =>
   have H := HA.out
   clear HA
   simp only [spec_classes.l0] at H
   by_cases c6 : x4_1 ≤ (l0.length : Int)
   ·rw [if_pos c6] at H
    have c6b0 : decide (x4_1 ≤ (l0.length : Int)) = true := deT c6
    clear c6
    obtain ⟨y214,hy214⟩ : ∃ y_ : List Int,y_ = (([] : List Int)) := ⟨_,rfl⟩
    replace H : (spec_classes.l1 k1 l0 x3_1 x4_1 y214 0) = some r := by first|(rw [hy214];with_reducible exact H)|(have H2_ := (Option.bind_some _ _).symm.trans H;rw [hy214];with_reducible exact H2_)|(have H2_ := (Option.bind_some _ _).symm.trans H;with_reducible exact H2_)|with_reducible exact H|(rw [hy214];exact H)|exact H
    have Ny214 := As_ hy214
    clear hy214
    have H' := As_ H
    clear H
    go_wp2_with (first|((with_reducible refine gate_dst (N := 17) rfl ?_);refine Kd.R_lit (Kd.int .i64) _ 3 ?hg (N := 17) ?hd (xs := ([] : List Int)) (inner := []) (ok := fun _ => True) (okp := fun _ => True) ?hr ?hp (fun _ hk => hk) trivial (Below.refl _ _) (Nat.le_refl _) (by simp) ?_;(case hd => rfl);(case hg => rfl);(case hr => go_simp <;> rfl);(case hp => exact (Reps.none _ _));intro v215 w7 ho8 hb hg_ hnew_;clear hg_ hnew_;(first|rw [← Ny214.out] at ho8|(simp only [Int.reduceToNat] at ho8;rw [← Ny214.out] at ho8));have n0_ := As_ (Kd.R_elder' (zR_ HO_3.out) (Kd.R_base ho8) hb);have n1_ := As_ (Kd.R_lower (Kd.R_new' ho8 (Kd.R_lt (zR_ HO_3.out))) (bwZ (zb0 HB.out)));have n2_ := As_ (bwT (zb0 HB.out) hb);clear HO_3;clear HB;have HO_3 := n0_;have HO216 := n1_;have HB := n2_;clear n0_ n1_ n2_;clear hb ho8))
    go_loopg [5,6] k1 (fun kq v5 v6 w' => ∃ (x5_2 : List Int) (x6_2 : Int),v6 = .int .i64 x6_2 ∧ Aside0 (spec_classes.l1 kq l0 x3_1 x4_1 x5_2 x6_2 = some r) ∧ Aside0 (kq ≤ k1) ∧ Aside0 (Kd.R (Kd.int .i64) 3 w' w.heap.size (fun k_ => some k_ ≠ (v5 : Value).ownBlock) u3 x3_1) ∧ Aside0 (Kd.R (Kd.int .i64) 3 w' w.heap.size (fun k_ => some k_ ≠ (u3 : Value).ownBlock) v5 x5_2) ∧ Aside0 (Below w.heap.size w w'))
    case atStart => exact ⟨(y214),(0),zT_,H',⟨Nat.le_refl _⟩,⟨by (with_reducible repeat (first|apply Kd.R_alloc|apply Kd.R_drewN|apply Kd.R_drew));exact Kd.R_mono HO_3.out (fun _ hk => hk.2)⟩,⟨by (with_reducible repeat (first|apply Kd.R_alloc|apply Kd.R_drewN|apply Kd.R_drew));exact Kd.R_mono HO216.out (fun _ hk => hk.2)⟩,⟨by repeat (first|(with_reducible first|exact HB.out|apply bwA|apply bwN|apply bwD)|exact HB.out)⟩⟩
    case round =>
     clear H'
     try clear c2
     try clear c2b0
     try clear c2b1
     try clear p2
     try clear c3
     try clear c3b0
     try clear c3b1
     try clear c5
     try clear c6
     try clear c6b0
     try clear p2
     obtain ⟨x5_2,x6_2,rfl,HA,HK2,HO_3,HO_5,HB⟩ := hrel
     cases gk with
     | zero => exact absurd HA.out (fun h_ => (by cases h_))
     | succ k2 =>
      have H := HA.out
      clear HA
      simp only [spec_classes.l1] at H
      by_cases c9 : x6_2 < (l0.length : Int)
      ·rw [if_pos c9] at H
       have c9b0 : decide (x6_2 < (l0.length : Int)) = true := deT c9
       clear c9
       have H' := As_ H
       clear H
       go_wp2
       go_loopg [7] k2 (fun kq v7 w' => ∃ (x7_3 : Int),v7 = .int .i64 x7_3 ∧ Aside0 (spec_classes.l2 kq l0 x3_1 x4_1 x5_2 x6_2 x7_3 = some r) ∧ Aside0 (kq ≤ k2) ∧ Aside0 (Kd.R (Kd.int .i64) 3 w' w.heap.size (fun k_ => some k_ ≠ (u5 : Value).ownBlock) u3 x3_1) ∧ Aside0 (Kd.R (Kd.int .i64) 3 w' w.heap.size (fun k_ => some k_ ≠ (u3 : Value).ownBlock) u5 x5_2) ∧ Aside0 (Below w.heap.size w w'))
       case atStart => exact ⟨(0),zT_,H',⟨Nat.le_refl _⟩,⟨by (with_reducible repeat (first|apply Kd.R_alloc|apply Kd.R_drewN|apply Kd.R_drew));exact HO_3.out⟩,⟨by (with_reducible repeat (first|apply Kd.R_alloc|apply Kd.R_drewN|apply Kd.R_drew));exact HO_5.out⟩,⟨by repeat (first|(with_reducible first|exact HB.out|apply bwA|apply bwN|apply bwD)|exact HB.out)⟩⟩
       case round =>
        clear H'
        try clear c2
        try clear c2b0
        try clear c2b1
        try clear p2
        try clear c3
        try clear c3b0
        try clear c3b1
        try clear c5
        try clear c6
        try clear c6b0
        try clear c9
        try clear c9b0
        try clear p2
        obtain ⟨x7_3,rfl,HA,HK3,HO_3,HO_5,HB⟩ := hrel
        cases gk with
        | zero => exact absurd HA.out (fun h_ => (by cases h_))
        | succ k3 =>
         have H := HA.out
         clear HA
         simp only [spec_classes.l2] at H
         by_cases c10 : x7_3 < x6_2
         ·rw [if_pos c10] at H
          have c10b0 : decide (x7_3 < x6_2) = true := deT c10
          clear c10
          replace H := obS H
          obtain ⟨t217,A110,H⟩ := H
          replace H : (if t217 = true then (if 0 ≤ x7_3 then (if x7_3 < (x5_2.length : Int) then (if x5_2.length < 17592186044416 then (spec_classes.l1 k3 l0 x3_1 x4_1 (x5_2 ++ [rd x5_2 x7_3]) (wrap64 (x6_2 + 1))) else (none)) else (none)) else (none)) else (spec_classes.l2 k3 l0 x3_1 x4_1 x5_2 x6_2 (wrap64 (x7_3 + 1)))) = some r := H
          have A11 := As_ A110
          clear A110
          by_cases c12 : t217 = true
          ·subst c12
           have H1 : (if 0 ≤ x7_3 then (if x7_3 < (x5_2.length : Int) then (if x5_2.length < 17592186044416 then (spec_classes.l1 k3 l0 x3_1 x4_1 (x5_2 ++ [rd x5_2 x7_3]) (wrap64 (x6_2 + 1))) else (none)) else (none)) else (none)) = some r := by rw [if_pos rfl] at H;exact H
           clear H
           have H := H1
           clear H1
           by_cases c13 : 0 ≤ x7_3
           rotate_left
           ·rw [if_neg c13] at H
            exact absurd H (by simp)
           rw [if_pos c13] at H
           have c13b0 : decide (0 ≤ x7_3) = true := deT c13
           clear c13
           by_cases c14 : x7_3 < (x5_2.length : Int)
           rotate_left
           ·rw [if_neg c14] at H
            exact absurd H (by simp)
           rw [if_pos c14] at H
           have c14b0 : decide (x7_3 < (x5_2.length : Int)) = true := deT c14
           clear c14
           by_cases c15 : x5_2.length < 17592186044416
           rotate_left
           ·rw [if_neg c15] at H
            exact absurd H (by simp)
           rw [if_pos c15] at H
           have LMc15 := As_ c15
           clear c15
           obtain ⟨y219,hy219⟩ : ∃ y_ : List Int,y_ = (x5_2 ++ [rd x5_2 x7_3]) := ⟨_,rfl⟩
           replace H : (spec_classes.l1 k3 l0 x3_1 x4_1 y219 (wrap64 (x6_2 + 1))) = some r := by first|(rw [hy219];with_reducible exact H)|(have H2_ := (Option.bind_some _ _).symm.trans H;rw [hy219];with_reducible exact H2_)|(have H2_ := (Option.bind_some _ _).symm.trans H;with_reducible exact H2_)|with_reducible exact H|(rw [hy219];exact H)|exact H
           have Ny219 := As_ hy219
           clear hy219
           have H' := As_ H
           clear H
           obtain ⟨Ao16,co16,eo16⟩ := Kd.R_slice HO_3.out
           subst eo16
           go_wp2_with (first|(go_at_call 84;(with_reducible refine (spec_sameClass.calls k3 _ _ l0 _ _ x3_1 x6_2 x7_3 true _ ?side1 ?side2 ?side3 ?side4 A11.out).mono ?_);(case side1 => repeat (first|exact (Kd.C_below HR0.out HB.out)|(with_reducible refine Kd.C_alloc ?_ _)|(with_reducible refine Kd.C_drewN ?_ _)|(with_reducible refine Kd.C_drew ?_)));(case side2 => exact HC0.out);(case side3 => repeat (first|exact (Kd.R_reads' HO_3.out).2.2|(with_reducible refine Kd.C_alloc ?_ _)|(with_reducible refine Kd.C_drewN ?_ _)|(with_reducible refine Kd.C_drew ?_)));(case side4 => exact (Kd.R_reads' HO_3.out).2.1);rintro e w17 ⟨rfl,hb⟩;have n0_ := As_ (Kd.R_below (zR_ HO_3.out) hb);have n1_ := As_ (Kd.R_below (zR_ HO_5.out) hb);have n2_ := As_ (bwT (zb0 HB.out) hb);clear HO_3;clear HO_5;clear HB;have HO_3 := n0_;have HO_5 := n1_;have HB := n2_;clear n0_ n1_ n2_;(try clear hb);(try clear hb2);(try clear hk);(try clear hi);obtain ⟨Ao18,co18,eo18⟩ := Kd.R_slice HO_5.out;subst eo18;have p218 : 0 ≤ (x7_3 : Int) := odT zA_;have q218 : x7_3 < (x5_2.length : Int) := odT zA_;obtain ⟨ad218,e218,hx218_0⟩ := Kd.at_int (Kd.R_reads' HO_5.out).2.2 x7_3 p218 q218;cases e218;replace p218 := eq_true p218;replace q218 := eq_true q218)|((with_reducible refine gate_builtin (b := .append) (xs := #[.tmp 40,.tmp 45]) rfl ?_);at_builtin;refine Kd.R_append (Kd.int .i64) (w0 := w) w.heap.size rfl (.tmp 40) (.tmp 45) 37 3 (.int .i64 0) 8 rfl Try.underlying37 info3 rfl (by decide) (by omega) (.slice (some ad218) x5_2.length co18) x5_2 (rd x5_2 x7_3) [.int .i64 (rd x5_2 x7_3)] (fun k_ => some k_ ≠ (.slice Ao16 x3_1.length co16 : Value).ownBlock) (fun _ => False) rfl rfl ?aP (fun _ hk => hk.elim) ?aF ?aO ?aB ?aS ?aL ?_;(case aP => exact rfl);(case aB => exact (zb0 HB.out));(case aF => exact (fun k_ hk => Kd.fresh' (Kd.R_lt (zR_ HO_3.out)) k_ hk));(case aO => exact (zR_ HO_5.out));(case aS => exact (bwZ (zb0 HB.out)));(case aL => have := LMc15.out;omega);intro v220 w19 ho hb hg hat;rw [← Ny219.out] at ho;have n0_ := As_ (Kd.R_after (ok := (fun _ => True)) (by (with_reducible repeat (first|apply Kd.R_alloc|apply Kd.R_drewN|apply Kd.R_drew));exact Kd.R_mono HO_3.out (fun _ hk => ⟨trivial,hk⟩)) hg hat);have n1_ := As_ (hb);have n2_ := As_ (ho);clear HO_3;clear HB;clear HO_5;have HO_3 := n0_;have HB := n1_;have HO221 := n2_;clear n0_ n1_ n2_;clear ho hb hg hat))
           go_roundg k3
           case measure => have := HK1.out;have := HK2.out;have := HK3.out;omega
           case rel => exact ⟨(y219),(wrap64 (x6_2 + 1)),zT_,H',⟨by have := HK1.out;have := HK2.out;have := HK3.out;omega⟩,⟨by (with_reducible repeat (first|apply Kd.R_alloc|apply Kd.R_drewN|apply Kd.R_drew));exact Kd.R_mono HO_3.out (fun _ hk => hk.2)⟩,⟨by (with_reducible repeat (first|apply Kd.R_alloc|apply Kd.R_drewN|apply Kd.R_drew));exact HO221.out⟩,⟨by repeat (first|(with_reducible first|exact HB.out|apply bwA|apply bwN|apply bwD)|exact HB.out)⟩⟩
          ·replace c12 := Bool.eq_false_iff.mpr c12
           subst c12
           have H1 : (spec_classes.l2 k3 l0 x3_1 x4_1 x5_2 x6_2 (wrap64 (x7_3 + 1))) = some r := by rw [if_neg (show ¬ (false = true) by decide)] at H;exact H
           clear H
           have H := H1
           clear H1
           have H' := As_ H
           clear H
           obtain ⟨Ao20,co20,eo20⟩ := Kd.R_slice HO_3.out
           subst eo20
           go_wp2_with (first|(go_at_call 84;(with_reducible refine (spec_sameClass.calls k3 _ _ l0 _ _ x3_1 x6_2 x7_3 false _ ?side1 ?side2 ?side3 ?side4 A11.out).mono ?_);(case side1 => repeat (first|exact (Kd.C_below HR0.out HB.out)|(with_reducible refine Kd.C_alloc ?_ _)|(with_reducible refine Kd.C_drewN ?_ _)|(with_reducible refine Kd.C_drew ?_)));(case side2 => exact HC0.out);(case side3 => repeat (first|exact (Kd.R_reads' HO_3.out).2.2|(with_reducible refine Kd.C_alloc ?_ _)|(with_reducible refine Kd.C_drewN ?_ _)|(with_reducible refine Kd.C_drew ?_)));(case side4 => exact (Kd.R_reads' HO_3.out).2.1);rintro e w21 ⟨rfl,hb⟩;have n0_ := As_ (Kd.R_below (zR_ HO_3.out) hb);have n1_ := As_ (Kd.R_below (zR_ HO_5.out) hb);have n2_ := As_ (bwT (zb0 HB.out) hb);clear HO_3;clear HO_5;clear HB;have HO_3 := n0_;have HO_5 := n1_;have HB := n2_;clear n0_ n1_ n2_;(try clear hb);(try clear hb2);(try clear hk);(try clear hi)))
           go_roundg k3
           case measure => have := HK1.out;have := HK2.out;have := HK3.out;omega
           case rel => exact ⟨(wrap64 (x7_3 + 1)),zT_,H',⟨by have := HK1.out;have := HK2.out;have := HK3.out;omega⟩,⟨by (with_reducible repeat (first|apply Kd.R_alloc|apply Kd.R_drewN|apply Kd.R_drew));exact HO_3.out⟩,⟨by (with_reducible repeat (first|apply Kd.R_alloc|apply Kd.R_drewN|apply Kd.R_drew));exact HO_5.out⟩,⟨by repeat (first|(with_reducible first|exact HB.out|apply bwA|apply bwN|apply bwD)|exact HB.out)⟩⟩
         ·rw [if_neg c10] at H
          have c10b0 : decide (x7_3 < x6_2) = false := deF c10
          clear c10
          by_cases c22 : x5_2.length < 17592186044416
          rotate_left
          ·rw [if_neg c22] at H
           exact absurd H (by simp)
          rw [if_pos c22] at H
          have LMc22 := As_ c22
          clear c22
          obtain ⟨y222,hy222⟩ : ∃ y_ : List Int,y_ = (x5_2 ++ [x6_2]) := ⟨_,rfl⟩
          replace H : (spec_classes.l1 k3 l0 x3_1 x4_1 y222 (wrap64 (x6_2 + 1))) = some r := by first|(rw [hy222];with_reducible exact H)|(have H2_ := (Option.bind_some _ _).symm.trans H;rw [hy222];with_reducible exact H2_)|(have H2_ := (Option.bind_some _ _).symm.trans H;with_reducible exact H2_)|with_reducible exact H|(rw [hy222];exact H)|exact H
          have Ny222 := As_ hy222
          clear hy222
          have H' := As_ H
          clear H
          go_wp2_with (first|((with_reducible refine gate_builtin (b := .append) (xs := #[.tmp 47,.tmp 49]) rfl ?_);at_builtin;refine Kd.R_append (Kd.int .i64) (w0 := w) w.heap.size rfl (.tmp 47) (.tmp 49) 37 3 (.int .i64 0) 8 rfl Try.underlying37 info3 rfl (by decide) (by omega) u5 x5_2 x6_2 [.int .i64 x6_2] (fun k_ => some k_ ≠ (u3 : Value).ownBlock) (fun _ => False) rfl rfl ?aP (fun _ hk => hk.elim) ?aF ?aO ?aB ?aS ?aL ?_;(case aP => exact rfl);(case aB => exact (zb0 HB.out));(case aF => exact (fun k_ hk => Kd.fresh' (Kd.R_lt (zR_ HO_3.out)) k_ hk));(case aO => exact (zR_ HO_5.out));(case aS => exact (bwZ (zb0 HB.out)));(case aL => have := LMc22.out;omega);intro v223 w23 ho hb hg hat;rw [← Ny222.out] at ho;have n0_ := As_ (Kd.R_after (ok := (fun _ => True)) (by (with_reducible repeat (first|apply Kd.R_alloc|apply Kd.R_drewN|apply Kd.R_drew));exact Kd.R_mono HO_3.out (fun _ hk => ⟨trivial,hk⟩)) hg hat);have n1_ := As_ (hb);have n2_ := As_ (ho);clear HO_3;clear HB;clear HO_5;have HO_3 := n0_;have HB := n1_;have HO224 := n2_;clear n0_ n1_ n2_;clear ho hb hg hat))
          go_roundg k3
          case measure => have := HK1.out;have := HK2.out;have := HK3.out;omega
          case rel => exact ⟨(y222),(wrap64 (x6_2 + 1)),zT_,H',⟨by have := HK1.out;have := HK2.out;have := HK3.out;omega⟩,⟨by (with_reducible repeat (first|apply Kd.R_alloc|apply Kd.R_drewN|apply Kd.R_drew));exact Kd.R_mono HO_3.out (fun _ hk => hk.2)⟩,⟨by (with_reducible repeat (first|apply Kd.R_alloc|apply Kd.R_drewN|apply Kd.R_drew));exact HO224.out⟩,⟨by repeat (first|(with_reducible first|exact HB.out|apply bwA|apply bwN|apply bwD)|exact HB.out)⟩⟩
      ·rw [if_neg c9] at H
       have c9b0 : decide (x6_2 < (l0.length : Int)) = false := deF c9
       clear c9
       have H' := As_ H
       clear H
       go_wp2
       go_roundg k2
       case measure => have := HK1.out;have := HK2.out;omega
       case rel => exact ⟨(x5_2),(wrap64 (x4_1 + 1)),zT_,H',⟨by have := HK1.out;have := HK2.out;omega⟩,⟨by (with_reducible repeat (first|apply Kd.R_alloc|apply Kd.R_drewN|apply Kd.R_drew));exact Kd.R_mono HO_5.out (fun _ hk => trivial)⟩,⟨by repeat (first|(with_reducible first|exact HB.out|apply bwA|apply bwN|apply bwD)|exact HB.out)⟩⟩
   ·rw [if_neg c6] at H
    have c6b0 : decide (x4_1 ≤ (l0.length : Int)) = false := deF c6
    clear c6
    obtain rfl := Option.some.inj H
    go_wp2
    go_ret
    exact ⟨_,by first|rfl|(simp [errW_none,errW_some] <;> rfl)|(simp [*,errW_none,errW_some] <;> rfl),by (with_reducible repeat (first|apply Kd.R_alloc|apply Kd.R_drewN|apply Kd.R_drew));exact HO_3.out,by repeat (first|(with_reducible first|exact HB.out|apply bwA|apply bwN|apply bwD)|exact HB.out)⟩

/-! ### spec_EqualDeep: function 16 -/
def spec_EqualDeep.j0 : Nat → Bool → List (S45) → Int → List (S45) → Int → Option (Bool)
 | 0,_,_,_,_,_ => none
 | k + 1,x15,x226000,x226001,x227000,x227001 => if x15 = true then (some false) else ((spec_together.f k x226000 x226001 x227000 x227001).bind fun bt229 => ((spec_classes.f k bt229.1).bind fun t233 => (if 0 ≤ x226001 then (if x226001 < (t233.length : Int) then (if 0 ≤ bt229.2 then (if bt229.2 < (t233.length : Int) then (some ((rd t233 x226001) == (rd t233 bt229.2))) else (none)) else (none)) else (none)) else (none))))
def spec_EqualDeep.f (k : Nat) (l0_0 : List (S45)) (a0_1 : Int) (l1_0 : List (S45)) (a1_1 : Int) : Option (Bool) := (spec_validGraph.f k l0_0 a0_1).bind fun t227 => (if t227 = true then ((spec_validGraph.f k l1_0 a1_1).bind fun t228 => (spec_EqualDeep.j0 k (!t228) l0_0 a0_1 l1_0 a1_1)) else (spec_EqualDeep.j0 k true l0_0 a0_1 l1_0 a1_1))
set_option maxRecDepth 100000 in
theorem spec_EqualDeep.mono_l : ∀ k,(∀ y0 y1 y2 y3 y4,LeO (spec_EqualDeep.j0 k y0 y1 y2 y3 y4) (spec_EqualDeep.j0 (k + 1) y0 y1 y2 y3 y4))
 | 0 => fun _ _ _ _ _ r h => (by cases h)
 | k + 1 => by
  have ih0 := spec_EqualDeep.mono_l k
  ·intro y0 y1 y2 y3 y4
   unfold spec_EqualDeep.j0
   repeat' first
   | (with_reducible exact ih0 _ _ _ _ _)
   | (with_reducible exact spec_classes.mono _ _)
   | (with_reducible exact spec_together.mono _ _ _ _ _)
   | (with_reducible exact spec_validGraph.mono _ _ _)
   | (with_reducible exact LeO.refl _)
   | (with_reducible exact LeO.none _)
   | (with_reducible refine LeO.ite ?_ ?_)
   | (with_reducible refine LeO.bind ?_ (fun _ => ?_))
   | exact ih0 _ _ _ _ _
   | exact spec_classes.mono _ _
   | exact spec_together.mono _ _ _ _ _
   | exact spec_validGraph.mono _ _ _
   | exact LeO.none _
   | refine LeO.ite ?_ ?_
   | refine LeO.bind ?_ (fun _ => ?_)
set_option maxRecDepth 100000 in
theorem spec_EqualDeep.mono : ∀ a0 a1 a2 a3 k,LeO (spec_EqualDeep.f k a0 a1 a2 a3) (spec_EqualDeep.f (k + 1) a0 a1 a2 a3) := by
 intro a0 a1 a2 a3 k
 have ih0 := spec_EqualDeep.mono_l k
 unfold spec_EqualDeep.f
 repeat' first
   | (with_reducible exact ih0 _ _ _ _ _)
   | (with_reducible exact spec_classes.mono _ _)
   | (with_reducible exact spec_together.mono _ _ _ _ _)
   | (with_reducible exact spec_validGraph.mono _ _ _)
   | (with_reducible exact LeO.refl _)
   | (with_reducible exact LeO.none _)
   | (with_reducible refine LeO.ite ?_ ?_)
   | (with_reducible refine LeO.bind ?_ (fun _ => ?_))
   | exact ih0 _ _ _ _ _
   | exact spec_classes.mono _ _
   | exact spec_together.mono _ _ _ _ _
   | exact spec_validGraph.mono _ _ _
   | exact LeO.none _
   | refine LeO.ite ?_ ?_
   | refine LeO.bind ?_ (fun _ => ?_)
set_option maxHeartbeats 8000000 in
set_option maxRecDepth 100000 in
theorem spec_EqualDeep.calls (k : Nat) (A0_0 : Option Addr) (c0_0 : Nat) (l0_0 : List (S45)) (a0_1 : Int) (A1_0 : Option Addr) (c1_0 : Nat) (l1_0 : List (S45)) (a1_1 : Int) (r : Bool) (w : World) (hr0_0 : Kd.C k45 w A0_0 l0_0.length l0_0) (hc0_0 : l0_0.length ≤ c0_0) (hr1_0 : Kd.C k45 w A1_0 l1_0.length l1_0) (hc1_0 : l1_0.length ≤ c1_0) (h : spec_EqualDeep.f k l0_0 a0_1 l1_0 a1_1 = some r) :
  Calls Try.prog 16 #[.agg #[.slice A0_0 l0_0.length c0_0,.int .i64 a0_1],.agg #[.slice A1_0 l1_0.length c1_0,.int .i64 a1_1]] w fun e w' => e = .returned (.bool r) ∧ Below w.heap.size w w' := by
 have hu29 := Try.underlying29
 have HR0_0 := As_ hr0_0
 have HC0_0 := As_ hc0_0
 clear hr0_0 hc0_0
 have HR1_0 := As_ hr1_0
 have HC1_0 := As_ hc1_0
 clear hr1_0 hc1_0
 have HB := As_ (Below.refl w.heap.size w)
 have H : ((spec_validGraph.f k l0_0 a0_1).bind fun t227 => (if t227 = true then ((spec_validGraph.f k l1_0 a1_1).bind fun t228 => (spec_EqualDeep.j0 k (!t228) l0_0 a0_1 l1_0 a1_1)) else (spec_EqualDeep.j0 k true l0_0 a0_1 l1_0 a1_1))) = some r := h
 clear h
 have HC3 := As_ H
 clear H
 go_enter Try.func16,Try.ntmps16
 go_upto_region 1 with (first|((with_reducible refine gate_dst (N := 2) rfl ?_);refine box_event ?hg (N := 2) ?hd (cs := #[.slice A0_0 l0_0.length c0_0,.int .i64 a0_1]) (t := 29) ?hr ?_;(case hd => rfl);(case hg => rfl);(case hr => go_simp <;> rfl);intro gb225 hg w4 hbox hb;have n0_ := As_ (bwT (zb0 HB.out) hb);have n1_ := As_ (hbox);have n2_ := As_ ((by rw [hg];exact (bwZ (zb0 HB.out)) : w.heap.size ≤ gb225));have n3_ := As_ ((by rw [hg];exact (bwZ (zb0 HB.out)) : w.heap.size ≤ gb225));clear HB;have HB := n0_;have BK225 := n1_;have GW225 := n2_;have GE225 := n3_;clear n0_ n1_ n2_ n3_;clear hb hbox hg)|((with_reducible refine gate_dst (N := 3) rfl ?_);refine box_event ?hg (N := 3) ?hd (cs := #[.slice A1_0 l1_0.length c1_0,.int .i64 a1_1]) (t := 29) ?hr ?_;(case hd => rfl);(case hg => rfl);(case hr => go_simp <;> rfl);intro gb226 hg w5 hbox hb;have n0_ := As_ (zkb BK225.out hb);have n1_ := As_ (bwT (zb1 HB.out GE225.out) hb);have n2_ := As_ (hbox);have n3_ := As_ ((by rw [hg];exact (bwZ (zb1 HB.out GE225.out)) : w.heap.size ≤ gb226));have n4_ := As_ ((by rw [hg];exact (bwZ (zb1 HB.out GE225.out)) : w.heap.size ≤ gb226));have n5_ := As_ ((by rw [hg];exact Nat.ne_of_lt (zkl BK225.out) : gb225 ≠ gb226));have n6_ := As_ ((by rw [hg];exact Nat.ne_of_gt (zkl BK225.out) : gb226 ≠ gb225));clear BK225;clear HB;have BK225 := n0_;have HB := n1_;have BK226 := n2_;have GW226 := n3_;have GE226 := n4_;have NB225_226 := n5_;have NB226_225 := n6_;clear n0_ n1_ n2_ n3_ n4_ n5_ n6_;clear hb hbox hg))
 repeat (go_quiet (first|((with_reducible refine gate_dst (N := 2) rfl ?_);refine box_event ?hg (N := 2) ?hd (cs := #[.slice A0_0 l0_0.length c0_0,.int .i64 a0_1]) (t := 29) ?hr ?_;(case hd => rfl);(case hg => rfl);(case hr => go_simp <;> rfl);intro gb225 hg w4 hbox hb;have n0_ := As_ (bwT (zb0 HB.out) hb);have n1_ := As_ (hbox);have n2_ := As_ ((by rw [hg];exact (bwZ (zb0 HB.out)) : w.heap.size ≤ gb225));have n3_ := As_ ((by rw [hg];exact (bwZ (zb0 HB.out)) : w.heap.size ≤ gb225));clear HB;have HB := n0_;have BK225 := n1_;have GW225 := n2_;have GE225 := n3_;clear n0_ n1_ n2_ n3_;clear hb hbox hg)|((with_reducible refine gate_dst (N := 3) rfl ?_);refine box_event ?hg (N := 3) ?hd (cs := #[.slice A1_0 l1_0.length c1_0,.int .i64 a1_1]) (t := 29) ?hr ?_;(case hd => rfl);(case hg => rfl);(case hr => go_simp <;> rfl);intro gb226 hg w5 hbox hb;have n0_ := As_ (zkb BK225.out hb);have n1_ := As_ (bwT (zb1 HB.out GE225.out) hb);have n2_ := As_ (hbox);have n3_ := As_ ((by rw [hg];exact (bwZ (zb1 HB.out GE225.out)) : w.heap.size ≤ gb226));have n4_ := As_ ((by rw [hg];exact (bwZ (zb1 HB.out GE225.out)) : w.heap.size ≤ gb226));have n5_ := As_ ((by rw [hg];exact Nat.ne_of_lt (zkl BK225.out) : gb225 ≠ gb226));have n6_ := As_ ((by rw [hg];exact Nat.ne_of_gt (zkl BK225.out) : gb226 ≠ gb225));clear BK225;clear HB;have BK225 := n0_;have HB := n1_;have BK226 := n2_;have GW226 := n3_;have GE226 := n4_;have NB225_226 := n5_;have NB226_225 := n6_;clear n0_ n1_ n2_ n3_ n4_ n5_ n6_;clear hb hbox hg));go_upto_region 1 with (first|((with_reducible refine gate_dst (N := 2) rfl ?_);refine box_event ?hg (N := 2) ?hd (cs := #[.slice A0_0 l0_0.length c0_0,.int .i64 a0_1]) (t := 29) ?hr ?_;(case hd => rfl);(case hg => rfl);(case hr => go_simp <;> rfl);intro gb225 hg w4 hbox hb;have n0_ := As_ (bwT (zb0 HB.out) hb);have n1_ := As_ (hbox);have n2_ := As_ ((by rw [hg];exact (bwZ (zb0 HB.out)) : w.heap.size ≤ gb225));have n3_ := As_ ((by rw [hg];exact (bwZ (zb0 HB.out)) : w.heap.size ≤ gb225));clear HB;have HB := n0_;have BK225 := n1_;have GW225 := n2_;have GE225 := n3_;clear n0_ n1_ n2_ n3_;clear hb hbox hg)|((with_reducible refine gate_dst (N := 3) rfl ?_);refine box_event ?hg (N := 3) ?hd (cs := #[.slice A1_0 l1_0.length c1_0,.int .i64 a1_1]) (t := 29) ?hr ?_;(case hd => rfl);(case hg => rfl);(case hr => go_simp <;> rfl);intro gb226 hg w5 hbox hb;have n0_ := As_ (zkb BK225.out hb);have n1_ := As_ (bwT (zb1 HB.out GE225.out) hb);have n2_ := As_ (hbox);have n3_ := As_ ((by rw [hg];exact (bwZ (zb1 HB.out GE225.out)) : w.heap.size ≤ gb226));have n4_ := As_ ((by rw [hg];exact (bwZ (zb1 HB.out GE225.out)) : w.heap.size ≤ gb226));have n5_ := As_ ((by rw [hg];exact Nat.ne_of_lt (zkl BK225.out) : gb225 ≠ gb226));have n6_ := As_ ((by rw [hg];exact Nat.ne_of_gt (zkl BK225.out) : gb226 ≠ gb225));clear BK225;clear HB;have BK225 := n0_;have HB := n1_;have BK226 := n2_;have GW226 := n3_;have GE226 := n4_;have NB225_226 := n5_;have NB226_225 := n6_;clear n0_ n1_ n2_ n3_ n4_ n5_ n6_;clear hb hbox hg)))
 (try simp only [Act.put,List.setIfInBounds_toArray,List.set_cons_zero,List.set_cons_succ])
 go_cut [15] (fun v15 wc => ∃ (kq : Nat) (x15_2 : Bool),v15 = .bool x15_2 ∧ Aside0 (spec_EqualDeep.j0 kq x15_2 l0_0 a0_1 l1_0 a1_1 = some r) ∧ Aside0 (kq ≤ k) ∧ Aside0 (wc.heap[gb225]? = some (.cells #[(.slice A0_0 l0_0.length c0_0),.int .i64 a0_1] 29 (0,0))) ∧ Aside0 (wc.heap[gb226]? = some (.cells #[(.slice A1_0 l1_0.length c1_0),.int .i64 a1_1] 29 (0,0))) ∧ Aside0 (Below w.heap.size w wc))
 case first =>
  have H := HC3.out
  clear HC3
  replace H := obS H
  obtain ⟨t227,A60,H⟩ := H
  replace H : (if t227 = true then ((spec_validGraph.f k l1_0 a1_1).bind fun t228 => (spec_EqualDeep.j0 k (!t228) l0_0 a0_1 l1_0 a1_1)) else (spec_EqualDeep.j0 k true l0_0 a0_1 l1_0 a1_1)) = some r := H
  have A6 := As_ A60
  clear A60
  by_cases c7 : t227 = true
  ·subst c7
   have H1 : ((spec_validGraph.f k l1_0 a1_1).bind fun t228 => (spec_EqualDeep.j0 k (!t228) l0_0 a0_1 l1_0 a1_1)) = some r := by rw [if_pos rfl] at H;exact H
   clear H
   have H := H1
   clear H1
   replace H := obS H
   obtain ⟨t228,A80,H⟩ := H
   replace H : (spec_EqualDeep.j0 k (!t228) l0_0 a0_1 l1_0 a1_1) = some r := H
   have A8 := As_ A80
   clear A80
   have H' := As_ H
   clear H
   have hnb9 := NB225_226.out
   have hnc9 := NB226_225.out
   have hcz10_0 : w5.cell? ⟨gb225,0,none⟩ = some (.slice A0_0 l0_0.length c0_0) := (bkC BK225.out 0).trans rfl
   have hcz10_1 : w5.cell? ⟨gb225,1,none⟩ = some (.int .i64 a0_1) := (bkC BK225.out 1).trans rfl
   have hfz10_0 := bkF BK225.out 0
   have hfz10_1 := bkF BK225.out 1
   go_wp2_with (first|(go_at_call 48;(with_reducible refine (spec_validGraph.calls k _ _ l0_0 a0_1 true _ ?side1 ?side2 A6.out).mono ?_);(case side1 => repeat (first|exact (Kd.C_below HR0_0.out HB.out)|(with_reducible refine Kd.C_alloc ?_ _)|(with_reducible refine Kd.C_drewN ?_ _)|(with_reducible refine Kd.C_drew ?_)));(case side2 => exact HC0_0.out);rintro e w11 ⟨rfl,hb⟩;have n0_ := As_ (zkb BK225.out hb);have n1_ := As_ (zkb BK226.out hb);have n2_ := As_ (bwT (zb2 HB.out GE225.out GE226.out) hb);clear BK225;clear BK226;clear HB;have BK225 := n0_;have BK226 := n1_;have HB := n2_;clear n0_ n1_ n2_;(try clear hb);(try clear hb2);(try clear hk);(try clear hi);have hcz12_0 : w11.cell? ⟨gb226,0,none⟩ = some (.slice A1_0 l1_0.length c1_0) := (bkC BK226.out 0).trans rfl;have hcz12_1 : w11.cell? ⟨gb226,1,none⟩ = some (.int .i64 a1_1) := (bkC BK226.out 1).trans rfl;have hfz12_0 := bkF BK226.out 0;have hfz12_1 := bkF BK226.out 1)|(go_at_call 48;(with_reducible refine (spec_validGraph.calls k _ _ l1_0 a1_1 t228 _ ?side1 ?side2 A8.out).mono ?_);(case side1 => repeat (first|exact (Kd.C_below HR1_0.out HB.out)|(with_reducible refine Kd.C_alloc ?_ _)|(with_reducible refine Kd.C_drewN ?_ _)|(with_reducible refine Kd.C_drew ?_)));(case side2 => exact HC1_0.out);rintro e w13 ⟨rfl,hb⟩;have n0_ := As_ (zkb BK225.out hb);have n1_ := As_ (zkb BK226.out hb);have n2_ := As_ (bwT (zb2 HB.out GE225.out GE226.out) hb);clear BK225;clear BK226;clear HB;have BK225 := n0_;have BK226 := n1_;have HB := n2_;clear n0_ n1_ n2_;(try clear hb);(try clear hb2);(try clear hk);(try clear hi)))
   repeat (go_quiet (first|(go_at_call 48;(with_reducible refine (spec_validGraph.calls k _ _ l0_0 a0_1 true _ ?side1 ?side2 A6.out).mono ?_);(case side1 => repeat (first|exact (Kd.C_below HR0_0.out HB.out)|(with_reducible refine Kd.C_alloc ?_ _)|(with_reducible refine Kd.C_drewN ?_ _)|(with_reducible refine Kd.C_drew ?_)));(case side2 => exact HC0_0.out);rintro e w11 ⟨rfl,hb⟩;have n0_ := As_ (zkb BK225.out hb);have n1_ := As_ (zkb BK226.out hb);have n2_ := As_ (bwT (zb2 HB.out GE225.out GE226.out) hb);clear BK225;clear BK226;clear HB;have BK225 := n0_;have BK226 := n1_;have HB := n2_;clear n0_ n1_ n2_;(try clear hb);(try clear hb2);(try clear hk);(try clear hi);have hcz12_0 : w11.cell? ⟨gb226,0,none⟩ = some (.slice A1_0 l1_0.length c1_0) := (bkC BK226.out 0).trans rfl;have hcz12_1 : w11.cell? ⟨gb226,1,none⟩ = some (.int .i64 a1_1) := (bkC BK226.out 1).trans rfl;have hfz12_0 := bkF BK226.out 0;have hfz12_1 := bkF BK226.out 1)|(go_at_call 48;(with_reducible refine (spec_validGraph.calls k _ _ l1_0 a1_1 t228 _ ?side1 ?side2 A8.out).mono ?_);(case side1 => repeat (first|exact (Kd.C_below HR1_0.out HB.out)|(with_reducible refine Kd.C_alloc ?_ _)|(with_reducible refine Kd.C_drewN ?_ _)|(with_reducible refine Kd.C_drew ?_)));(case side2 => exact HC1_0.out);rintro e w13 ⟨rfl,hb⟩;have n0_ := As_ (zkb BK225.out hb);have n1_ := As_ (zkb BK226.out hb);have n2_ := As_ (bwT (zb2 HB.out GE225.out GE226.out) hb);clear BK225;clear BK226;clear HB;have BK225 := n0_;have BK226 := n1_;have HB := n2_;clear n0_ n1_ n2_;(try clear hb);(try clear hb2);(try clear hk);(try clear hi)));try go_wp2_with (first|(go_at_call 48;(with_reducible refine (spec_validGraph.calls k _ _ l0_0 a0_1 true _ ?side1 ?side2 A6.out).mono ?_);(case side1 => repeat (first|exact (Kd.C_below HR0_0.out HB.out)|(with_reducible refine Kd.C_alloc ?_ _)|(with_reducible refine Kd.C_drewN ?_ _)|(with_reducible refine Kd.C_drew ?_)));(case side2 => exact HC0_0.out);rintro e w11 ⟨rfl,hb⟩;have n0_ := As_ (zkb BK225.out hb);have n1_ := As_ (zkb BK226.out hb);have n2_ := As_ (bwT (zb2 HB.out GE225.out GE226.out) hb);clear BK225;clear BK226;clear HB;have BK225 := n0_;have BK226 := n1_;have HB := n2_;clear n0_ n1_ n2_;(try clear hb);(try clear hb2);(try clear hk);(try clear hi);have hcz12_0 : w11.cell? ⟨gb226,0,none⟩ = some (.slice A1_0 l1_0.length c1_0) := (bkC BK226.out 0).trans rfl;have hcz12_1 : w11.cell? ⟨gb226,1,none⟩ = some (.int .i64 a1_1) := (bkC BK226.out 1).trans rfl;have hfz12_0 := bkF BK226.out 0;have hfz12_1 := bkF BK226.out 1)|(go_at_call 48;(with_reducible refine (spec_validGraph.calls k _ _ l1_0 a1_1 t228 _ ?side1 ?side2 A8.out).mono ?_);(case side1 => repeat (first|exact (Kd.C_below HR1_0.out HB.out)|(with_reducible refine Kd.C_alloc ?_ _)|(with_reducible refine Kd.C_drewN ?_ _)|(with_reducible refine Kd.C_drew ?_)));(case side2 => exact HC1_0.out);rintro e w13 ⟨rfl,hb⟩;have n0_ := As_ (zkb BK225.out hb);have n1_ := As_ (zkb BK226.out hb);have n2_ := As_ (bwT (zb2 HB.out GE225.out GE226.out) hb);clear BK225;clear BK226;clear HB;have BK225 := n0_;have BK226 := n1_;have HB := n2_;clear n0_ n1_ n2_;(try clear hb);(try clear hb2);(try clear hk);(try clear hi))))
   go_meet
   case rel => exact ⟨_,(!t228),zT_,H',⟨by first|omega|exact Nat.le_refl _⟩,⟨by (with_reducible repeat (first|refine bkN ?_ _|refine bkD ?_|refine bkA ?_ _));exact BK225.out⟩,⟨by (with_reducible repeat (first|refine bkN ?_ _|refine bkD ?_|refine bkA ?_ _));exact BK226.out⟩,⟨by repeat (first|(with_reducible first|exact HB.out|apply bwA|apply bwN|apply bwD|refine bwS ?_ GE225.out|refine bwS ?_ GE226.out)|exact HB.out)⟩⟩
  ·replace c7 := Bool.eq_false_iff.mpr c7
   subst c7
   have H1 : (spec_EqualDeep.j0 k true l0_0 a0_1 l1_0 a1_1) = some r := by rw [if_neg (show ¬ (false = true) by decide)] at H;exact H
   clear H
   have H := H1
   clear H1
   have H' := As_ H
   clear H
   have hnb14 := NB225_226.out
   have hnc14 := NB226_225.out
   have hcz15_0 : w5.cell? ⟨gb225,0,none⟩ = some (.slice A0_0 l0_0.length c0_0) := (bkC BK225.out 0).trans rfl
   have hcz15_1 : w5.cell? ⟨gb225,1,none⟩ = some (.int .i64 a0_1) := (bkC BK225.out 1).trans rfl
   have hfz15_0 := bkF BK225.out 0
   have hfz15_1 := bkF BK225.out 1
   go_wp2_with (first|(go_at_call 48;(with_reducible refine (spec_validGraph.calls k _ _ l0_0 a0_1 false _ ?side1 ?side2 A6.out).mono ?_);(case side1 => repeat (first|exact (Kd.C_below HR0_0.out HB.out)|(with_reducible refine Kd.C_alloc ?_ _)|(with_reducible refine Kd.C_drewN ?_ _)|(with_reducible refine Kd.C_drew ?_)));(case side2 => exact HC0_0.out);rintro e w16 ⟨rfl,hb⟩;have n0_ := As_ (zkb BK225.out hb);have n1_ := As_ (zkb BK226.out hb);have n2_ := As_ (bwT (zb2 HB.out GE225.out GE226.out) hb);clear BK225;clear BK226;clear HB;have BK225 := n0_;have BK226 := n1_;have HB := n2_;clear n0_ n1_ n2_;(try clear hb);(try clear hb2);(try clear hk);(try clear hi)))
   repeat (go_quiet (first|(go_at_call 48;(with_reducible refine (spec_validGraph.calls k _ _ l0_0 a0_1 false _ ?side1 ?side2 A6.out).mono ?_);(case side1 => repeat (first|exact (Kd.C_below HR0_0.out HB.out)|(with_reducible refine Kd.C_alloc ?_ _)|(with_reducible refine Kd.C_drewN ?_ _)|(with_reducible refine Kd.C_drew ?_)));(case side2 => exact HC0_0.out);rintro e w16 ⟨rfl,hb⟩;have n0_ := As_ (zkb BK225.out hb);have n1_ := As_ (zkb BK226.out hb);have n2_ := As_ (bwT (zb2 HB.out GE225.out GE226.out) hb);clear BK225;clear BK226;clear HB;have BK225 := n0_;have BK226 := n1_;have HB := n2_;clear n0_ n1_ n2_;(try clear hb);(try clear hb2);(try clear hk);(try clear hi)));try go_wp2_with (first|(go_at_call 48;(with_reducible refine (spec_validGraph.calls k _ _ l0_0 a0_1 false _ ?side1 ?side2 A6.out).mono ?_);(case side1 => repeat (first|exact (Kd.C_below HR0_0.out HB.out)|(with_reducible refine Kd.C_alloc ?_ _)|(with_reducible refine Kd.C_drewN ?_ _)|(with_reducible refine Kd.C_drew ?_)));(case side2 => exact HC0_0.out);rintro e w16 ⟨rfl,hb⟩;have n0_ := As_ (zkb BK225.out hb);have n1_ := As_ (zkb BK226.out hb);have n2_ := As_ (bwT (zb2 HB.out GE225.out GE226.out) hb);clear BK225;clear BK226;clear HB;have BK225 := n0_;have BK226 := n1_;have HB := n2_;clear n0_ n1_ n2_;(try clear hb);(try clear hb2);(try clear hk);(try clear hi))))
   go_meet
   case rel => exact ⟨_,(true),zT_,H',⟨by first|omega|exact Nat.le_refl _⟩,⟨by (with_reducible repeat (first|refine bkN ?_ _|refine bkD ?_|refine bkA ?_ _));exact BK225.out⟩,⟨by (with_reducible repeat (first|refine bkN ?_ _|refine bkD ?_|refine bkA ?_ _));exact BK226.out⟩,⟨by repeat (first|(with_reducible first|exact HB.out|apply bwA|apply bwN|apply bwD|refine bwS ?_ GE225.out|refine bwS ?_ GE226.out)|exact HB.out)⟩⟩
 case rest =>
  clear HC3
  try clear c1
  try clear p2
  try clear c7
  try clear c9
  try clear c14
  try clear c16
  try clear hcz10_0
  try clear hcz10_1
  try clear hcz12_0
  try clear hcz12_1
  try clear hcz15_0
  try clear hcz15_1
  try clear hfz10_0
  try clear hfz10_1
  try clear hfz12_0
  try clear hfz12_1
  try clear hfz15_0
  try clear hfz15_1
  obtain ⟨kq,x15_2,rfl,HA,HJ2,BK225,BK226,HB⟩ := hcut
  cases kq with
  | zero => exact absurd HA.out (fun h_ => (by cases h_))
  | succ kj2 =>
   have H := HA.out
   clear HA
   simp only [spec_EqualDeep.j0] at H
   by_cases c17 : x15_2 = true
   ·subst c17
    have H1 : (some false) = some r := by rw [if_pos rfl] at H;exact H
    clear H
    have H := H1
    clear H1
    obtain rfl := Option.some.inj H
    go_wp2
    repeat (go_quiet (fail);try go_wp2)
    go_ret
    exact ⟨by first|rfl|(simp [errW_none,errW_some] <;> rfl)|(simp [*,errW_none,errW_some] <;> rfl),by repeat (first|(with_reducible first|exact HB.out|apply bwA|apply bwN|apply bwD|refine bwS ?_ GE225.out|refine bwS ?_ GE226.out)|exact HB.out)⟩
   ·replace c17 := Bool.eq_false_iff.mpr c17
    subst c17
    have H1 : ((spec_together.f kj2 l0_0 a0_1 l1_0 a1_1).bind fun bt229 => ((spec_classes.f kj2 bt229.1).bind fun t233 => (if 0 ≤ a0_1 then (if a0_1 < (t233.length : Int) then (if 0 ≤ bt229.2 then (if bt229.2 < (t233.length : Int) then (some ((rd t233 a0_1) == (rd t233 bt229.2))) else (none)) else (none)) else (none)) else (none)))) = some r := by rw [if_neg (show ¬ (false = true) by decide)] at H;exact H
    clear H
    have H := H1
    clear H1
    replace H := obS H
    obtain ⟨⟨t229,t232⟩,A180,H⟩ := H
    replace H : ((spec_classes.f kj2 t229).bind fun t233 => (if 0 ≤ a0_1 then (if a0_1 < (t233.length : Int) then (if 0 ≤ t232 then (if t232 < (t233.length : Int) then (some ((rd t233 a0_1) == (rd t233 t232))) else (none)) else (none)) else (none)) else (none))) = some r := H
    have A18 := As_ A180
    clear A180
    replace H := obS H
    obtain ⟨t233,A190,H⟩ := H
    replace H : (if 0 ≤ a0_1 then (if a0_1 < (t233.length : Int) then (if 0 ≤ t232 then (if t232 < (t233.length : Int) then (some ((rd t233 a0_1) == (rd t233 t232))) else (none)) else (none)) else (none)) else (none)) = some r := H
    have A19 := As_ A190
    clear A190
    by_cases c20 : 0 ≤ a0_1
    rotate_left
    ·rw [if_neg c20] at H
     exact absurd H (by simp)
    rw [if_pos c20] at H
    have c20b0 : decide (0 ≤ a0_1) = true := deT c20
    clear c20
    by_cases c21 : a0_1 < (t233.length : Int)
    rotate_left
    ·rw [if_neg c21] at H
     exact absurd H (by simp)
    rw [if_pos c21] at H
    have c21b0 : decide (a0_1 < (t233.length : Int)) = true := deT c21
    clear c21
    by_cases c22 : 0 ≤ t232
    rotate_left
    ·rw [if_neg c22] at H
     exact absurd H (by simp)
    rw [if_pos c22] at H
    have c22b0 : decide (0 ≤ t232) = true := deT c22
    clear c22
    by_cases c23 : t232 < (t233.length : Int)
    rotate_left
    ·rw [if_neg c23] at H
     exact absurd H (by simp)
    rw [if_pos c23] at H
    have c23b0 : decide (t232 < (t233.length : Int)) = true := deT c23
    clear c23
    obtain rfl := Option.some.inj H
    have hnb24 := NB225_226.out
    have hnc24 := NB226_225.out
    have hcz25_0 : wc.cell? ⟨gb225,0,none⟩ = some (.slice A0_0 l0_0.length c0_0) := (bkC BK225.out 0).trans rfl
    have hcz25_1 : wc.cell? ⟨gb225,1,none⟩ = some (.int .i64 a0_1) := (bkC BK225.out 1).trans rfl
    have hfz25_0 := bkF BK225.out 0
    have hfz25_1 := bkF BK225.out 1
    have hcz26_0 : wc.cell? ⟨gb226,0,none⟩ = some (.slice A1_0 l1_0.length c1_0) := (bkC BK226.out 0).trans rfl
    have hcz26_1 : wc.cell? ⟨gb226,1,none⟩ = some (.int .i64 a1_1) := (bkC BK226.out 1).trans rfl
    have hfz26_0 := bkF BK226.out 0
    have hfz26_1 := bkF BK226.out 1
    go_wp2_with (first|(go_at_call 49;(with_reducible refine (spec_together.calls kj2 _ _ l0_0 a0_1 _ _ l1_0 a1_1 t229 t232 _ ?side1 ?side2 ?side3 ?side4 A18.out).mono ?_);(case side1 => repeat (first|exact (Kd.C_below HR0_0.out HB.out)|(with_reducible refine Kd.C_alloc ?_ _)|(with_reducible refine Kd.C_drewN ?_ _)|(with_reducible refine Kd.C_drew ?_)));(case side2 => exact HC0_0.out);(case side3 => repeat (first|exact (Kd.C_below HR1_0.out HB.out)|(with_reducible refine Kd.C_alloc ?_ _)|(with_reducible refine Kd.C_drewN ?_ _)|(with_reducible refine Kd.C_drew ?_)));(case side4 => exact HC1_0.out);rintro e w27 ⟨v230,rfl,ho0,hb⟩;have n0_ := As_ (Kd.S_lower ho0 (bwZ (zb2 HB.out GE225.out GE226.out)));have n1_ := As_ (zkb BK225.out hb);have n2_ := As_ (zkb BK226.out hb);have n3_ := As_ (bwT (zb2 HB.out GE225.out GE226.out) hb);clear BK225;clear BK226;clear HB;have HO231 := n0_;have BK225 := n1_;have BK226 := n2_;have HB := n3_;clear n0_ n1_ n2_ n3_;(try clear hb);(try clear hb2);(try clear hk);(try clear hi);(try clear ho0);obtain ⟨Ao28,co28,eo28⟩ := Kd.S_slice HO231.out;subst eo28)|(go_at_call 50;(with_reducible refine (spec_classes.calls kj2 _ _ t229 t233 _ ?side1 ?side2 A19.out).mono ?_);(case side1 => repeat (first|exact (Kd.S_reads' HO231.out).2.2|(with_reducible refine Kd.C_alloc ?_ _)|(with_reducible refine Kd.C_drewN ?_ _)|(with_reducible refine Kd.C_drew ?_)));(case side2 => exact (Kd.S_reads' HO231.out).2.1);rintro e w29 ⟨v234,rfl,ho0,hb⟩;have n0_ := As_ (Kd.S_elder' (zS_ HO231.out) (Kd.R_base ho0) hb);have n1_ := As_ (Kd.R_lower ho0 (bwZ (zb2 HB.out GE225.out GE226.out)));have n2_ := As_ (zkb BK225.out hb);have n3_ := As_ (zkb BK226.out hb);have n4_ := As_ (bwT (zb2 HB.out GE225.out GE226.out) hb);clear HO231;clear BK225;clear BK226;clear HB;have HO231 := n0_;have HO235 := n1_;have BK225 := n2_;have BK226 := n3_;have HB := n4_;clear n0_ n1_ n2_ n3_ n4_;(try clear hb);(try clear hb2);(try clear hk);(try clear hi);(try clear ho0);have hcz30_0 : w29.cell? ⟨gb225,0,none⟩ = some (.slice A0_0 l0_0.length c0_0) := (bkC BK225.out 0).trans rfl;have hcz30_1 : w29.cell? ⟨gb225,1,none⟩ = some (.int .i64 a0_1) := (bkC BK225.out 1).trans rfl;have hfz30_0 := bkF BK225.out 0;have hfz30_1 := bkF BK225.out 1;obtain ⟨Ao31,co31,eo31⟩ := Kd.R_slice HO235.out;subst eo31;have p236 : 0 ≤ (a0_1 : Int) := odT zA_;have q236 : a0_1 < (t233.length : Int) := odT zA_;obtain ⟨ad236,e236,hx236_0⟩ := Kd.at_int (Kd.R_reads' HO235.out).2.2 a0_1 p236 q236;cases e236;replace p236 := eq_true p236;replace q236 := eq_true q236;have p237 : 0 ≤ (t232 : Int) := odT zA_;have q237 : t232 < (t233.length : Int) := odT zA_;obtain ⟨ad237,e237,hx237_0⟩ := Kd.at_int (Kd.R_reads' HO235.out).2.2 t232 p237 q237;obtain rfl : ad236 = ad237 := (by injection e237);replace p237 := eq_true p237;replace q237 := eq_true q237))
    repeat (go_quiet (first|(go_at_call 49;(with_reducible refine (spec_together.calls kj2 _ _ l0_0 a0_1 _ _ l1_0 a1_1 t229 t232 _ ?side1 ?side2 ?side3 ?side4 A18.out).mono ?_);(case side1 => repeat (first|exact (Kd.C_below HR0_0.out HB.out)|(with_reducible refine Kd.C_alloc ?_ _)|(with_reducible refine Kd.C_drewN ?_ _)|(with_reducible refine Kd.C_drew ?_)));(case side2 => exact HC0_0.out);(case side3 => repeat (first|exact (Kd.C_below HR1_0.out HB.out)|(with_reducible refine Kd.C_alloc ?_ _)|(with_reducible refine Kd.C_drewN ?_ _)|(with_reducible refine Kd.C_drew ?_)));(case side4 => exact HC1_0.out);rintro e w27 ⟨v230,rfl,ho0,hb⟩;have n0_ := As_ (Kd.S_lower ho0 (bwZ (zb2 HB.out GE225.out GE226.out)));have n1_ := As_ (zkb BK225.out hb);have n2_ := As_ (zkb BK226.out hb);have n3_ := As_ (bwT (zb2 HB.out GE225.out GE226.out) hb);clear BK225;clear BK226;clear HB;have HO231 := n0_;have BK225 := n1_;have BK226 := n2_;have HB := n3_;clear n0_ n1_ n2_ n3_;(try clear hb);(try clear hb2);(try clear hk);(try clear hi);(try clear ho0);obtain ⟨Ao28,co28,eo28⟩ := Kd.S_slice HO231.out;subst eo28)|(go_at_call 50;(with_reducible refine (spec_classes.calls kj2 _ _ t229 t233 _ ?side1 ?side2 A19.out).mono ?_);(case side1 => repeat (first|exact (Kd.S_reads' HO231.out).2.2|(with_reducible refine Kd.C_alloc ?_ _)|(with_reducible refine Kd.C_drewN ?_ _)|(with_reducible refine Kd.C_drew ?_)));(case side2 => exact (Kd.S_reads' HO231.out).2.1);rintro e w29 ⟨v234,rfl,ho0,hb⟩;have n0_ := As_ (Kd.S_elder' (zS_ HO231.out) (Kd.R_base ho0) hb);have n1_ := As_ (Kd.R_lower ho0 (bwZ (zb2 HB.out GE225.out GE226.out)));have n2_ := As_ (zkb BK225.out hb);have n3_ := As_ (zkb BK226.out hb);have n4_ := As_ (bwT (zb2 HB.out GE225.out GE226.out) hb);clear HO231;clear BK225;clear BK226;clear HB;have HO231 := n0_;have HO235 := n1_;have BK225 := n2_;have BK226 := n3_;have HB := n4_;clear n0_ n1_ n2_ n3_ n4_;(try clear hb);(try clear hb2);(try clear hk);(try clear hi);(try clear ho0);have hcz30_0 : w29.cell? ⟨gb225,0,none⟩ = some (.slice A0_0 l0_0.length c0_0) := (bkC BK225.out 0).trans rfl;have hcz30_1 : w29.cell? ⟨gb225,1,none⟩ = some (.int .i64 a0_1) := (bkC BK225.out 1).trans rfl;have hfz30_0 := bkF BK225.out 0;have hfz30_1 := bkF BK225.out 1;obtain ⟨Ao31,co31,eo31⟩ := Kd.R_slice HO235.out;subst eo31;have p236 : 0 ≤ (a0_1 : Int) := odT zA_;have q236 : a0_1 < (t233.length : Int) := odT zA_;obtain ⟨ad236,e236,hx236_0⟩ := Kd.at_int (Kd.R_reads' HO235.out).2.2 a0_1 p236 q236;cases e236;replace p236 := eq_true p236;replace q236 := eq_true q236;have p237 : 0 ≤ (t232 : Int) := odT zA_;have q237 : t232 < (t233.length : Int) := odT zA_;obtain ⟨ad237,e237,hx237_0⟩ := Kd.at_int (Kd.R_reads' HO235.out).2.2 t232 p237 q237;obtain rfl : ad236 = ad237 := (by injection e237);replace p237 := eq_true p237;replace q237 := eq_true q237));try go_wp2_with (first|(go_at_call 49;(with_reducible refine (spec_together.calls kj2 _ _ l0_0 a0_1 _ _ l1_0 a1_1 t229 t232 _ ?side1 ?side2 ?side3 ?side4 A18.out).mono ?_);(case side1 => repeat (first|exact (Kd.C_below HR0_0.out HB.out)|(with_reducible refine Kd.C_alloc ?_ _)|(with_reducible refine Kd.C_drewN ?_ _)|(with_reducible refine Kd.C_drew ?_)));(case side2 => exact HC0_0.out);(case side3 => repeat (first|exact (Kd.C_below HR1_0.out HB.out)|(with_reducible refine Kd.C_alloc ?_ _)|(with_reducible refine Kd.C_drewN ?_ _)|(with_reducible refine Kd.C_drew ?_)));(case side4 => exact HC1_0.out);rintro e w27 ⟨v230,rfl,ho0,hb⟩;have n0_ := As_ (Kd.S_lower ho0 (bwZ (zb2 HB.out GE225.out GE226.out)));have n1_ := As_ (zkb BK225.out hb);have n2_ := As_ (zkb BK226.out hb);have n3_ := As_ (bwT (zb2 HB.out GE225.out GE226.out) hb);clear BK225;clear BK226;clear HB;have HO231 := n0_;have BK225 := n1_;have BK226 := n2_;have HB := n3_;clear n0_ n1_ n2_ n3_;(try clear hb);(try clear hb2);(try clear hk);(try clear hi);(try clear ho0);obtain ⟨Ao28,co28,eo28⟩ := Kd.S_slice HO231.out;subst eo28)|(go_at_call 50;(with_reducible refine (spec_classes.calls kj2 _ _ t229 t233 _ ?side1 ?side2 A19.out).mono ?_);(case side1 => repeat (first|exact (Kd.S_reads' HO231.out).2.2|(with_reducible refine Kd.C_alloc ?_ _)|(with_reducible refine Kd.C_drewN ?_ _)|(with_reducible refine Kd.C_drew ?_)));(case side2 => exact (Kd.S_reads' HO231.out).2.1);rintro e w29 ⟨v234,rfl,ho0,hb⟩;have n0_ := As_ (Kd.S_elder' (zS_ HO231.out) (Kd.R_base ho0) hb);have n1_ := As_ (Kd.R_lower ho0 (bwZ (zb2 HB.out GE225.out GE226.out)));have n2_ := As_ (zkb BK225.out hb);have n3_ := As_ (zkb BK226.out hb);have n4_ := As_ (bwT (zb2 HB.out GE225.out GE226.out) hb);clear HO231;clear BK225;clear BK226;clear HB;have HO231 := n0_;have HO235 := n1_;have BK225 := n2_;have BK226 := n3_;have HB := n4_;clear n0_ n1_ n2_ n3_ n4_;(try clear hb);(try clear hb2);(try clear hk);(try clear hi);(try clear ho0);have hcz30_0 : w29.cell? ⟨gb225,0,none⟩ = some (.slice A0_0 l0_0.length c0_0) := (bkC BK225.out 0).trans rfl;have hcz30_1 : w29.cell? ⟨gb225,1,none⟩ = some (.int .i64 a0_1) := (bkC BK225.out 1).trans rfl;have hfz30_0 := bkF BK225.out 0;have hfz30_1 := bkF BK225.out 1;obtain ⟨Ao31,co31,eo31⟩ := Kd.R_slice HO235.out;subst eo31;have p236 : 0 ≤ (a0_1 : Int) := odT zA_;have q236 : a0_1 < (t233.length : Int) := odT zA_;obtain ⟨ad236,e236,hx236_0⟩ := Kd.at_int (Kd.R_reads' HO235.out).2.2 a0_1 p236 q236;cases e236;replace p236 := eq_true p236;replace q236 := eq_true q236;have p237 : 0 ≤ (t232 : Int) := odT zA_;have q237 : t232 < (t233.length : Int) := odT zA_;obtain ⟨ad237,e237,hx237_0⟩ := Kd.at_int (Kd.R_reads' HO235.out).2.2 t232 p237 q237;obtain rfl : ad236 = ad237 := (by injection e237);replace p237 := eq_true p237;replace q237 := eq_true q237)))
    go_ret
    exact ⟨by first|rfl|(simp [errW_none,errW_some] <;> rfl)|(simp [*,errW_none,errW_some] <;> rfl),by repeat (first|(with_reducible first|exact HB.out|apply bwA|apply bwN|apply bwD|refine bwS ?_ GE225.out|refine bwS ?_ GE226.out)|exact HB.out)⟩

/-! ### impl_classes_1: function 87 -/
def impl_classes_1.f (a0 : Int) (a1 : Int) (l2 : List Int) : Option (Bool) := if 0 ≤ a0 then (if a0 < (l2.length : Int) then (if 0 ≤ a1 then (if a1 < (l2.length : Int) then (some ((rd l2 a0) == (rd l2 a1))) else (none)) else (none)) else (none)) else (none)
set_option maxHeartbeats 8000000 in
set_option maxRecDepth 100000 in
theorem impl_classes_1.calls (a0 : Int) (a1 : Int) (A2 : Option Addr) (c2 : Nat) (l2 : List Int) (r : Bool) (w : World) (hr2 : Kd.C (Kd.int .i64) w A2 l2.length l2) (hc2 : l2.length ≤ c2) (h : impl_classes_1.f a0 a1 l2 = some r) {g : Nat} (hbox : w.heap[g]? = some (.cells #[.slice A2 l2.length c2] 37 (0,0))) :
  Calls Try.prog 87 #[.int .i64 a0,.int .i64 a1,.pointer (some ⟨g,0,none⟩)] w fun e w' => e = .returned (.bool r) ∧ Drawn0 w w' := by
 have HR2 := As_ hr2
 have HC2 := As_ hc2
 clear hr2 hc2
 have hczb : w.cell? ⟨g,0,none⟩ = some (.slice A2 l2.length c2) := (bkC hbox 0).trans rfl
 have hfzb := bkF hbox 0
 clear hbox
 have H : (if 0 ≤ a0 then (if a0 < (l2.length : Int) then (if 0 ≤ a1 then (if a1 < (l2.length : Int) then (some ((rd l2 a0) == (rd l2 a1))) else (none)) else (none)) else (none)) else (none)) = some r := h
 clear h
 by_cases c4 : 0 ≤ a0
 rotate_left
 ·rw [if_neg c4] at H
  exact absurd H (by simp)
 rw [if_pos c4] at H
 have c4b0 : decide (0 ≤ a0) = true := deT c4
 clear c4
 by_cases c5 : a0 < (l2.length : Int)
 rotate_left
 ·rw [if_neg c5] at H
  exact absurd H (by simp)
 rw [if_pos c5] at H
 have c5b0 : decide (a0 < (l2.length : Int)) = true := deT c5
 clear c5
 by_cases c6 : 0 ≤ a1
 rotate_left
 ·rw [if_neg c6] at H
  exact absurd H (by simp)
 rw [if_pos c6] at H
 have c6b0 : decide (0 ≤ a1) = true := deT c6
 clear c6
 by_cases c7 : a1 < (l2.length : Int)
 rotate_left
 ·rw [if_neg c7] at H
  exact absurd H (by simp)
 rw [if_pos c7] at H
 have c7b0 : decide (a1 < (l2.length : Int)) = true := deT c7
 clear c7
 obtain rfl := Option.some.inj H
 have p299 : 0 ≤ (a0 : Int) := odT zA_
 have q299 : a0 < (l2.length : Int) := odT zA_
 obtain ⟨ad299,e299,hx299_0⟩ := Kd.at_int HR2.out a0 p299 q299
 cases e299
 replace p299 := eq_true p299
 replace q299 := eq_true q299
 have p300 : 0 ≤ (a1 : Int) := odT zA_
 have q300 : a1 < (l2.length : Int) := odT zA_
 obtain ⟨ad300,e300,hx300_0⟩ := Kd.at_int HR2.out a1 p300 q300
 obtain rfl : ad299 = ad300 := (by injection e300)
 replace p300 := eq_true p300
 replace q300 := eq_true q300
 go_enter Try.func87,Try.ntmps87
 go_wp2
 repeat (go_quiet (fail);try go_wp2)
 go_ret
 exact ⟨by first|rfl|(simp;done)|(simp [*];done),by repeat (first|exact Drawn0.refl _|apply Drawn0.step)⟩

end Go.Proofs.Ytfhakhbmbnbneaa.Q
