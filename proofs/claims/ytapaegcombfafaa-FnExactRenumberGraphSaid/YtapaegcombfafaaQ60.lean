-- Written by wip/tools/qprint.py (a program of this claim's author) by means of the kit's printer.
import Derived.Test.YtapaegcombfafaaQ0
import Derived.Test.YtapaegcombfafaaQ22
namespace Go.Proofs.Ytapaegcombfafaa.Q
open Go.RowKit Go.Proofs.YtapaegcombfafaaW.PrintWords Go.Proofs.YtapaegcombfafaaW.PrintLast Go.Proofs.YtapaegcombfafaaW.PrintMore
attribute [local go_sem] max2_int min2_int max_two min_two max_three min_three max_four min_four   -- for this text's walks alone
set_option linter.unusedVariables false
set_option linter.unusedSimpArgs false

/-! ### laws_heldNodeS: function 60 -/
def laws_heldNodeS.l0 : Nat → List (S58) → Int → Int → Option (Int)
 | 0,_,_,_ => none
 | k + 1,x0,x1,x5 => if x5 < (x0.length : Int) then (if 0 ≤ x5 then (if ((rd_T58 x0 x5).f0) = x1 then (if ((rd_T58 x0 x5).f1) = (wrap64 (x1 + 1)) then ((laws_heldIntS.f k ((rd_T58 x0 x5).f2) (wrap64 ((wrap64 (x1 + 1)) + 1))).bind fun t695 => (if t695 < 0 then (some (-1)) else (laws_heldNodeS.l0 k x0 t695 (wrap64 (x5 + 1))))) else (some (-1))) else (some (-1))) else (none)) else (some x1)
def laws_heldNodeS.f (k : Nat) (l0 : List (S58)) (a1 : Int) : Option (Int) := laws_heldNodeS.l0 k l0 a1 0
set_option maxRecDepth 100000 in
theorem laws_heldNodeS.mono_l : ∀ k,(∀ y0 y1 y2,LeO (laws_heldNodeS.l0 k y0 y1 y2) (laws_heldNodeS.l0 (k + 1) y0 y1 y2))
 | 0 => fun _ _ _ r h => (by cases h)
 | k + 1 => by
  have ih0 := laws_heldNodeS.mono_l k
  ·intro y0 y1 y2
   unfold laws_heldNodeS.l0
   repeat' first
   | (with_reducible exact ih0 _ _ _)
   | (with_reducible exact laws_heldIntS.mono _ _ _)
   | (with_reducible exact LeO.refl _)
   | (with_reducible exact LeO.none _)
   | (with_reducible refine LeO.ite ?_ ?_)
   | (with_reducible refine LeO.bind ?_ (fun _ => ?_))
   | exact ih0 _ _ _
   | exact laws_heldIntS.mono _ _ _
   | exact LeO.none _
   | refine LeO.ite ?_ ?_
   | refine LeO.bind ?_ (fun _ => ?_)
set_option maxRecDepth 100000 in
theorem laws_heldNodeS.mono : ∀ a0 a1 k,LeO (laws_heldNodeS.f k a0 a1) (laws_heldNodeS.f (k + 1) a0 a1) := by
 intro a0 a1 k
 have ih0 := laws_heldNodeS.mono_l k
 unfold laws_heldNodeS.f
 repeat' first
   | (with_reducible exact ih0 _ _ _)
   | (with_reducible exact laws_heldIntS.mono _ _ _)
   | (with_reducible exact LeO.refl _)
   | (with_reducible exact LeO.none _)
   | (with_reducible refine LeO.ite ?_ ?_)
   | (with_reducible refine LeO.bind ?_ (fun _ => ?_))
   | exact ih0 _ _ _
   | exact laws_heldIntS.mono _ _ _
   | exact LeO.none _
   | refine LeO.ite ?_ ?_
   | refine LeO.bind ?_ (fun _ => ?_)
set_option maxHeartbeats 8000000 in
set_option maxRecDepth 100000 in
theorem laws_heldNodeS.calls (k : Nat) (A0 : Option Addr) (c0 : Nat) (l0 : List (S58)) (a1 : Int) (r : Int) (w : World) (hr0 : Kd.C k58 w A0 l0.length l0) (hc0 : l0.length ≤ c0) (h : laws_heldNodeS.f k l0 a1 = some r) :
  Calls Try.prog 60 #[.slice A0 l0.length c0,.int .i64 a1] w fun e w' => e = .returned (.int .i64 r) ∧ Drawn0 w w' := by
 have HR0 := As_ hr0
 have HC0 := As_ hc0
 clear hr0 hc0
 have H : (laws_heldNodeS.l0 k l0 a1 0) = some r := h
 clear h
 have H' := As_ H
 clear H
 go_enter Try.func60,Try.ntmps60
 go_wp2
 go_loopg [1,5] k (fun kq v1 v5 w' => ∃ (x1_1 : Int) (x5_1 : Int),v1 = .int .i64 x1_1 ∧ v5 = .int .i64 x5_1 ∧ Aside0 (laws_heldNodeS.l0 kq l0 x1_1 x5_1 = some r) ∧ Aside0 (kq ≤ k) ∧ Drawn0 w w')
 case atStart => exact ⟨(a1),(0),zT_,zT_,H',⟨Nat.le_refl _⟩,by repeat (first|exact Drawn0.refl _|apply Drawn0.step)⟩
 case round =>
  clear H'
  try clear p2
  obtain ⟨x1_1,x5_1,rfl,rfl,HA,HK1,⟨m1,rfl⟩⟩ := hrel
  cases gk with
  | zero => exact absurd HA.out (fun h_ => (by cases h_))
  | succ k1 =>
   have H := HA.out
   clear HA
   simp only [laws_heldNodeS.l0] at H
   by_cases c3 : x5_1 < (l0.length : Int)
   ·rw [if_pos c3] at H
    have c3b0 : decide (x5_1 < (l0.length : Int)) = true := deT c3
    clear c3
    by_cases c4 : 0 ≤ x5_1
    rotate_left
    ·rw [if_neg c4] at H
     exact absurd H (by simp)
    rw [if_pos c4] at H
    have c4b0 : decide (0 ≤ x5_1) = true := deT c4
    clear c4
    by_cases c5 : ((rd_T58 l0 x5_1).f0) = x1_1
    ·rw [if_pos c5] at H
     have c5b0 : (((rd_T58 l0 x5_1).f0) == x1_1) = true := beq_iff_eq.mpr c5
     have c5b1 : (((rd_T58 l0 x5_1).f0) != x1_1) = false := bne_eq_false_iff_eq.mpr c5
     clear c5
     by_cases c6 : ((rd_T58 l0 x5_1).f1) = (wrap64 (x1_1 + 1))
     ·rw [if_pos c6] at H
      have c6b0 : (((rd_T58 l0 x5_1).f1) == (wrap64 (x1_1 + 1))) = true := beq_iff_eq.mpr c6
      have c6b1 : (((rd_T58 l0 x5_1).f1) != (wrap64 (x1_1 + 1))) = false := bne_eq_false_iff_eq.mpr c6
      clear c6
      replace H := obS H
      obtain ⟨t695,A70,H⟩ := H
      replace H : (if t695 < 0 then (some (-1)) else (laws_heldNodeS.l0 k1 l0 t695 (wrap64 (x5_1 + 1)))) = some r := H
      have A7 := As_ A70
      clear A70
      by_cases c8 : t695 < 0
      ·rw [if_pos c8] at H
       have c8b0 : decide (t695 < 0) = true := deT c8
       clear c8
       obtain rfl := Option.some.inj H
       have p692 : 0 ≤ (x5_1 : Int) := odT zA_
       have q692 : x5_1 < (l0.length : Int) := odT zA_
       obtain ⟨ad692,A692_2,c692_2,e692,hx692_0,hx692_1,hx692_2,hl692_2,hi692_2⟩ := at_T58 HR0.out x5_1 p692 q692
       cases e692
       have HR692_2 := As_ hi692_2
       have HC692_2 := As_ hl692_2
       clear hi692_2 hl692_2
       replace p692 := eq_true p692
       replace q692 := eq_true q692
       have p693 : 0 ≤ (x5_1 : Int) := odT zA_
       have q693 : x5_1 < (l0.length : Int) := odT zA_
       obtain ⟨ad693,A693_2,c693_2,e693,hx693_0,hx693_1,hx693_2,hl693_2,hi693_2⟩ := at_T58 HR0.out x5_1 p693 q693
       obtain rfl : ad692 = ad693 := (by injection e693)
       have HR693_2 := As_ hi693_2
       have HC693_2 := As_ hl693_2
       clear hi693_2 hl693_2
       replace p693 := eq_true p693
       replace q693 := eq_true q693
       have ea_ := Option.some.inj (hx692_2.symm.trans hx693_2)
       injection ea_ with ea_ en_ ec_
       subst ea_
       subst ec_
       clear en_
       have p694 : 0 ≤ (x5_1 : Int) := odT zA_
       have q694 : x5_1 < (l0.length : Int) := odT zA_
       obtain ⟨ad694,A694_2,c694_2,e694,hx694_0,hx694_1,hx694_2,hl694_2,hi694_2⟩ := at_T58 HR0.out x5_1 p694 q694
       obtain rfl : ad692 = ad694 := (by injection e694)
       have HR694_2 := As_ hi694_2
       have HC694_2 := As_ hl694_2
       clear hi694_2 hl694_2
       replace p694 := eq_true p694
       replace q694 := eq_true q694
       have ea_ := Option.some.inj (hx692_2.symm.trans hx694_2)
       injection ea_ with ea_ en_ ec_
       subst ea_
       subst ec_
       clear en_
       go_wp2_with (first|((with_reducible refine gate_callee (f := 23) rfl ?_);refine goesL_ (some 36) rfl rfl Try.func23 (by kernel_rfl) rfl #[.slice A692_2 ((rd_T58 l0 x5_1).f2).length c692_2,.int .i64 (wrap64 ((wrap64 (x1_1 + 1)) + 1))] rfl zM_ ?_;(with_reducible refine (laws_heldIntS.calls k1 _ _ ((rd_T58 l0 x5_1).f2) (wrap64 ((wrap64 (x1_1 + 1)) + 1)) t695 _ ?side1 ?side2 A7.out).mono ?_);(case side1 => repeat (first|exact HR694_2.out|(with_reducible refine Kd.C_alloc ?_ _)|(with_reducible refine Kd.C_drewN ?_ _)|(with_reducible refine Kd.C_drew ?_)));(case side2 => exact HC694_2.out);rintro e w' ⟨rfl,⟨nd,rfl⟩⟩;refine ⟨_,rfl,?_⟩))
       go_ret
       exact ⟨by first|rfl|(simp;done)|(simp [*];done),by repeat (first|exact Drawn0.refl _|apply Drawn0.step)⟩
      ·rw [if_neg c8] at H
       have c8b0 : decide (t695 < 0) = false := deF c8
       clear c8
       have H' := As_ H
       clear H
       have p692 : 0 ≤ (x5_1 : Int) := odT zA_
       have q692 : x5_1 < (l0.length : Int) := odT zA_
       obtain ⟨ad692,A692_2,c692_2,e692,hx692_0,hx692_1,hx692_2,hl692_2,hi692_2⟩ := at_T58 HR0.out x5_1 p692 q692
       cases e692
       have HR692_2 := As_ hi692_2
       have HC692_2 := As_ hl692_2
       clear hi692_2 hl692_2
       replace p692 := eq_true p692
       replace q692 := eq_true q692
       have p693 : 0 ≤ (x5_1 : Int) := odT zA_
       have q693 : x5_1 < (l0.length : Int) := odT zA_
       obtain ⟨ad693,A693_2,c693_2,e693,hx693_0,hx693_1,hx693_2,hl693_2,hi693_2⟩ := at_T58 HR0.out x5_1 p693 q693
       obtain rfl : ad692 = ad693 := (by injection e693)
       have HR693_2 := As_ hi693_2
       have HC693_2 := As_ hl693_2
       clear hi693_2 hl693_2
       replace p693 := eq_true p693
       replace q693 := eq_true q693
       have ea_ := Option.some.inj (hx692_2.symm.trans hx693_2)
       injection ea_ with ea_ en_ ec_
       subst ea_
       subst ec_
       clear en_
       have p694 : 0 ≤ (x5_1 : Int) := odT zA_
       have q694 : x5_1 < (l0.length : Int) := odT zA_
       obtain ⟨ad694,A694_2,c694_2,e694,hx694_0,hx694_1,hx694_2,hl694_2,hi694_2⟩ := at_T58 HR0.out x5_1 p694 q694
       obtain rfl : ad692 = ad694 := (by injection e694)
       have HR694_2 := As_ hi694_2
       have HC694_2 := As_ hl694_2
       clear hi694_2 hl694_2
       replace p694 := eq_true p694
       replace q694 := eq_true q694
       have ea_ := Option.some.inj (hx692_2.symm.trans hx694_2)
       injection ea_ with ea_ en_ ec_
       subst ea_
       subst ec_
       clear en_
       go_wp2_with (first|((with_reducible refine gate_callee (f := 23) rfl ?_);refine goesL_ (some 36) rfl rfl Try.func23 (by kernel_rfl) rfl #[.slice A692_2 ((rd_T58 l0 x5_1).f2).length c692_2,.int .i64 (wrap64 ((wrap64 (x1_1 + 1)) + 1))] rfl zM_ ?_;(with_reducible refine (laws_heldIntS.calls k1 _ _ ((rd_T58 l0 x5_1).f2) (wrap64 ((wrap64 (x1_1 + 1)) + 1)) t695 _ ?side1 ?side2 A7.out).mono ?_);(case side1 => repeat (first|exact HR694_2.out|(with_reducible refine Kd.C_alloc ?_ _)|(with_reducible refine Kd.C_drewN ?_ _)|(with_reducible refine Kd.C_drew ?_)));(case side2 => exact HC694_2.out);rintro e w' ⟨rfl,⟨nd,rfl⟩⟩;refine ⟨_,rfl,?_⟩))
       go_roundg k1
       case measure => have := HK1.out;omega
       case rel => exact ⟨(t695),(wrap64 (x5_1 + 1)),zT_,zT_,H',⟨by have := HK1.out;omega⟩,by repeat (first|exact Drawn0.refl _|apply Drawn0.step)⟩
     ·rw [if_neg c6] at H
      have c6b0 : (((rd_T58 l0 x5_1).f1) == (wrap64 (x1_1 + 1))) = false := beq_eq_false_iff_ne.mpr c6
      have c6b1 : (((rd_T58 l0 x5_1).f1) != (wrap64 (x1_1 + 1))) = true := bne_iff_ne.mpr c6
      obtain rfl := Option.some.inj H
      have p692 : 0 ≤ (x5_1 : Int) := odT zA_
      have q692 : x5_1 < (l0.length : Int) := odT zA_
      obtain ⟨ad692,A692_2,c692_2,e692,hx692_0,hx692_1,hx692_2,hl692_2,hi692_2⟩ := at_T58 HR0.out x5_1 p692 q692
      cases e692
      have HR692_2 := As_ hi692_2
      have HC692_2 := As_ hl692_2
      clear hi692_2 hl692_2
      replace p692 := eq_true p692
      replace q692 := eq_true q692
      have p693 : 0 ≤ (x5_1 : Int) := odT zA_
      have q693 : x5_1 < (l0.length : Int) := odT zA_
      obtain ⟨ad693,A693_2,c693_2,e693,hx693_0,hx693_1,hx693_2,hl693_2,hi693_2⟩ := at_T58 HR0.out x5_1 p693 q693
      obtain rfl : ad692 = ad693 := (by injection e693)
      have HR693_2 := As_ hi693_2
      have HC693_2 := As_ hl693_2
      clear hi693_2 hl693_2
      replace p693 := eq_true p693
      replace q693 := eq_true q693
      have ea_ := Option.some.inj (hx692_2.symm.trans hx693_2)
      injection ea_ with ea_ en_ ec_
      subst ea_
      subst ec_
      clear en_
      go_wp2
      go_ret
      exact ⟨by first|rfl|(simp;done)|(simp [*];done),by repeat (first|exact Drawn0.refl _|apply Drawn0.step)⟩
    ·rw [if_neg c5] at H
     have c5b0 : (((rd_T58 l0 x5_1).f0) == x1_1) = false := beq_eq_false_iff_ne.mpr c5
     have c5b1 : (((rd_T58 l0 x5_1).f0) != x1_1) = true := bne_iff_ne.mpr c5
     obtain rfl := Option.some.inj H
     have p692 : 0 ≤ (x5_1 : Int) := odT zA_
     have q692 : x5_1 < (l0.length : Int) := odT zA_
     obtain ⟨ad692,A692_2,c692_2,e692,hx692_0,hx692_1,hx692_2,hl692_2,hi692_2⟩ := at_T58 HR0.out x5_1 p692 q692
     cases e692
     have HR692_2 := As_ hi692_2
     have HC692_2 := As_ hl692_2
     clear hi692_2 hl692_2
     replace p692 := eq_true p692
     replace q692 := eq_true q692
     go_wp2
     go_ret
     exact ⟨by first|rfl|(simp;done)|(simp [*];done),by repeat (first|exact Drawn0.refl _|apply Drawn0.step)⟩
   ·rw [if_neg c3] at H
    have c3b0 : decide (x5_1 < (l0.length : Int)) = false := deF c3
    clear c3
    obtain rfl := Option.some.inj H
    go_wp2
    go_ret
    exact ⟨by first|rfl|(simp;done)|(simp [*];done),by repeat (first|exact Drawn0.refl _|apply Drawn0.step)⟩

/-! ### laws_heldGraph: function 32 -/
def laws_heldGraph.f (k : Nat) (l0_0 : List (S58)) (a0_1 : Int) (a1 : Int) : Option (Int) := (laws_heldNodeS.f k l0_0 a1).bind fun t697 => (if t697 < 0 then (some (-1)) else (some t697))
set_option maxRecDepth 100000 in
theorem laws_heldGraph.mono : ∀ a0 a1 a2 k,LeO (laws_heldGraph.f k a0 a1 a2) (laws_heldGraph.f (k + 1) a0 a1 a2) := by
 intro a0 a1 a2 k
 unfold laws_heldGraph.f
 repeat' first
   | (with_reducible exact laws_heldNodeS.mono _ _ _)
   | (with_reducible exact LeO.refl _)
   | (with_reducible exact LeO.none _)
   | (with_reducible refine LeO.ite ?_ ?_)
   | (with_reducible refine LeO.bind ?_ (fun _ => ?_))
   | exact laws_heldNodeS.mono _ _ _
   | exact LeO.none _
   | refine LeO.ite ?_ ?_
   | refine LeO.bind ?_ (fun _ => ?_)
set_option maxHeartbeats 8000000 in
set_option maxRecDepth 100000 in
theorem laws_heldGraph.calls (k : Nat) (A0_0 : Option Addr) (c0_0 : Nat) (l0_0 : List (S58)) (a0_1 : Int) (a1 : Int) (r : Int) (w : World) (hr0_0 : Kd.C k58 w A0_0 l0_0.length l0_0) (hc0_0 : l0_0.length ≤ c0_0) (h : laws_heldGraph.f k l0_0 a0_1 a1 = some r) :
  Calls Try.prog 32 #[.agg #[.slice A0_0 l0_0.length c0_0,.int .i64 a0_1],.int .i64 a1] w fun e w' => e = .returned (.int .i64 r) ∧ Below w.heap.size w w' := by
 have hu25 := Try.underlying25
 have HR0_0 := As_ hr0_0
 have HC0_0 := As_ hc0_0
 clear hr0_0 hc0_0
 have HB := As_ (Below.refl w.heap.size w)
 have H : ((laws_heldNodeS.f k l0_0 a1).bind fun t697 => (if t697 < 0 then (some (-1)) else (some t697))) = some r := h
 clear h
 replace H := obS H
 obtain ⟨t697,A30,H⟩ := H
 replace H : (if t697 < 0 then (some (-1)) else (some t697)) = some r := H
 have A3 := As_ A30
 clear A30
 by_cases c4 : t697 < 0
 ·rw [if_pos c4] at H
  have c4b0 : decide (t697 < 0) = true := deT c4
  clear c4
  obtain rfl := Option.some.inj H
  go_enter Try.func32,Try.ntmps32
  go_wp2_with (first|((with_reducible refine gate_dst (N := 2) rfl ?_);refine box_event ?hg (N := 2) ?hd (cs := #[.slice A0_0 l0_0.length c0_0,.int .i64 a0_1]) (t := 25) ?hr ?_;(case hd => rfl);(case hg => rfl);(case hr => go_simp <;> rfl);intro gb696 hg w5 hbox hb;have n0_ := As_ (bwT (zb0 HB.out) hb);have n1_ := As_ (hbox);have n2_ := As_ ((by rw [hg];exact (bwZ (zb0 HB.out)) : w.heap.size ≤ gb696));have n3_ := As_ ((by rw [hg];exact (bwZ (zb0 HB.out)) : w.heap.size ≤ gb696));clear HB;have HB := n0_;have BK696 := n1_;have GW696 := n2_;have GE696 := n3_;clear n0_ n1_ n2_ n3_;clear hb hbox hg;have hcz6_0 : w5.cell? ⟨gb696,0,none⟩ = some (.slice A0_0 l0_0.length c0_0) := (bkC BK696.out 0).trans rfl;have hcz6_1 : w5.cell? ⟨gb696,1,none⟩ = some (.int .i64 a0_1) := (bkC BK696.out 1).trans rfl;have hfz6_0 := bkF BK696.out 0;have hfz6_1 := bkF BK696.out 1)|((with_reducible refine gate_callee (f := 60) rfl ?_);refine goesL_ (some 8) rfl rfl Try.func60 (by kernel_rfl) rfl #[.slice A0_0 l0_0.length c0_0,.int .i64 a1] rfl zM_ ?_;(with_reducible refine (laws_heldNodeS.calls k _ _ l0_0 a1 t697 _ ?side1 ?side2 A3.out).mono ?_);(case side1 => repeat (first|exact (Kd.C_below HR0_0.out HB.out)|(with_reducible refine Kd.C_alloc ?_ _)|(with_reducible refine Kd.C_drewN ?_ _)|(with_reducible refine Kd.C_drew ?_)));(case side2 => exact HC0_0.out);rintro e w' ⟨rfl,⟨nd,rfl⟩⟩;refine ⟨_,rfl,?_⟩))
  go_ret
  exact ⟨by first|rfl|(simp [errW_none,errW_some] <;> rfl)|(simp [*,errW_none,errW_some] <;> rfl),by repeat (first|(with_reducible first|exact HB.out|apply bwA|apply bwN|apply bwD|refine bwS ?_ GE696.out)|exact HB.out)⟩
 ·rw [if_neg c4] at H
  have c4b0 : decide (t697 < 0) = false := deF c4
  clear c4
  obtain rfl := Option.some.inj H
  go_enter Try.func32,Try.ntmps32
  go_wp2_with (first|((with_reducible refine gate_dst (N := 2) rfl ?_);refine box_event ?hg (N := 2) ?hd (cs := #[.slice A0_0 l0_0.length c0_0,.int .i64 a0_1]) (t := 25) ?hr ?_;(case hd => rfl);(case hg => rfl);(case hr => go_simp <;> rfl);intro gb696 hg w7 hbox hb;have n0_ := As_ (bwT (zb0 HB.out) hb);have n1_ := As_ (hbox);have n2_ := As_ ((by rw [hg];exact (bwZ (zb0 HB.out)) : w.heap.size ≤ gb696));have n3_ := As_ ((by rw [hg];exact (bwZ (zb0 HB.out)) : w.heap.size ≤ gb696));clear HB;have HB := n0_;have BK696 := n1_;have GW696 := n2_;have GE696 := n3_;clear n0_ n1_ n2_ n3_;clear hb hbox hg;have hcz8_0 : w7.cell? ⟨gb696,0,none⟩ = some (.slice A0_0 l0_0.length c0_0) := (bkC BK696.out 0).trans rfl;have hcz8_1 : w7.cell? ⟨gb696,1,none⟩ = some (.int .i64 a0_1) := (bkC BK696.out 1).trans rfl;have hfz8_0 := bkF BK696.out 0;have hfz8_1 := bkF BK696.out 1)|((with_reducible refine gate_callee (f := 60) rfl ?_);refine goesL_ (some 8) rfl rfl Try.func60 (by kernel_rfl) rfl #[.slice A0_0 l0_0.length c0_0,.int .i64 a1] rfl zM_ ?_;(with_reducible refine (laws_heldNodeS.calls k _ _ l0_0 a1 t697 _ ?side1 ?side2 A3.out).mono ?_);(case side1 => repeat (first|exact (Kd.C_below HR0_0.out HB.out)|(with_reducible refine Kd.C_alloc ?_ _)|(with_reducible refine Kd.C_drewN ?_ _)|(with_reducible refine Kd.C_drew ?_)));(case side2 => exact HC0_0.out);rintro e w' ⟨rfl,⟨nd,rfl⟩⟩;refine ⟨_,rfl,?_⟩))
  go_ret
  exact ⟨by first|rfl|(simp [errW_none,errW_some] <;> rfl)|(simp [*,errW_none,errW_some] <;> rfl),by repeat (first|(with_reducible first|exact HB.out|apply bwA|apply bwN|apply bwD|refine bwS ?_ GE696.out)|exact HB.out)⟩

end Go.Proofs.Ytapaegcombfafaa.Q
