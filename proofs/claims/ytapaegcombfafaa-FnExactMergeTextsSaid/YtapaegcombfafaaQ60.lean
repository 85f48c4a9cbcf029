-- Written by wip/tools/qprint.py (a program of this claim's author) by means of the kit's printer.
import Derived.Test.YtapaegcombfafaaQ0
import Derived.Test.YtapaegcombfafaaQ22
namespace Go.Proofs.Ytapaegcombfafaa.Q
open Go.RowKit Go.Proofs.YtapaegcombfafaaW.PrintWords Go.Proofs.YtapaegcombfafaaW.PrintLast Go.Proofs.YtapaegcombfafaaW.PrintMore
attribute [local go_sem] max2_int min2_int max_two min_two max_three min_three max_four min_four   -- for this text's walks alone
set_option linter.unusedVariables false
set_option linter.unusedSimpArgs false

/-! ### laws_heldNodeS: function 60 -/
def laws_heldNodeS.l0 : Nat → List (S58) → Int → Int → Option (Int)
 | 0,_,_,_ => none
 | k + 1,x0,x1,x5 => if x5 < (x0.length : Int) then (if 0 ≤ x5 then (if ((rd_T58 x0 x5).f0) = x1 then (if ((rd_T58 x0 x5).f1) = (wrap64 (x1 + 1)) then ((laws_heldIntS.f k ((rd_T58 x0 x5).f2) (wrap64 ((wrap64 (x1 + 1)) + 1))).bind fun t661 => (if t661 < 0 then (some (-1)) else (laws_heldNodeS.l0 k x0 t661 (wrap64 (x5 + 1))))) else (some (-1))) else (some (-1))) else (none)) else (some x1)
def laws_heldNodeS.f (k : Nat) (l0 : List (S58)) (a1 : Int) : Option (Int) := laws_heldNodeS.l0 k l0 a1 0
set_option maxRecDepth 100000 in
theorem laws_heldNodeS.mono_l : ∀ k,(∀ y0 y1 y2,LeO (laws_heldNodeS.l0 k y0 y1 y2) (laws_heldNodeS.l0 (k + 1) y0 y1 y2))
 | 0 => fun _ _ _ r h => (by cases h)
 | k + 1 => by
  have ih0 := laws_heldNodeS.mono_l k
  ·intro y0 y1 y2
   unfold laws_heldNodeS.l0
   repeat' first
   | (with_reducible exact ih0 _ _ _)
   | (with_reducible exact laws_heldIntS.mono _ _ _)
   | (with_reducible exact LeO.refl _)
   | (with_reducible exact LeO.none _)
   | (with_reducible refine LeO.ite ?_ ?_)
   | (with_reducible refine LeO.bind ?_ (fun _ => ?_))
   | exact ih0 _ _ _
   | exact laws_heldIntS.mono _ _ _
   | exact LeO.none _
   | refine LeO.ite ?_ ?_
   | refine LeO.bind ?_ (fun _ => ?_)
set_option maxRecDepth 100000 in
theorem laws_heldNodeS.mono : ∀ a0 a1 k,LeO (laws_heldNodeS.f k a0 a1) (laws_heldNodeS.f (k + 1) a0 a1) := by
 intro a0 a1 k
 have ih0 := laws_heldNodeS.mono_l k
 unfold laws_heldNodeS.f
 repeat' first
   | (with_reducible exact ih0 _ _ _)
   | (with_reducible exact laws_heldIntS.mono _ _ _)
   | (with_reducible exact LeO.refl _)
   | (with_reducible exact LeO.none _)
   | (with_reducible refine LeO.ite ?_ ?_)
   | (with_reducible refine LeO.bind ?_ (fun _ => ?_))
   | exact ih0 _ _ _
   | exact laws_heldIntS.mono _ _ _
   | exact LeO.none _
   | refine LeO.ite ?_ ?_
   | refine LeO.bind ?_ (fun _ => ?_)
set_option maxHeartbeats 8000000 in
set_option maxRecDepth 100000 in
theorem laws_heldNodeS.calls (k : Nat) (A0 : Option Addr) (c0 : Nat) (l0 : List (S58)) (a1 : Int) (r : Int) (w : World) (hr0 : Kd.C k58 w A0 l0.length l0) (hc0 : l0.length ≤ c0) (h : laws_heldNodeS.f k l0 a1 = some r) :
  Calls Try.prog 60 #[.slice A0 l0.length c0,.int .i64 a1] w fun e w' => e = .returned (.int .i64 r) ∧ Drawn0 w w' := by
 have HR0 := As_ hr0
 have HC0 := As_ hc0
 clear hr0 hc0
 have H : (laws_heldNodeS.l0 k l0 a1 0) = some r := h
 clear h
 have H' := As_ H
 clear H
 go_enter Try.func60,Try.ntmps60
 go_wp2
 go_loopg [1,5] k (fun kq v1 v5 w' => ∃ (x1_1 : Int) (x5_1 : Int),v1 = .int .i64 x1_1 ∧ v5 = .int .i64 x5_1 ∧ Aside0 (laws_heldNodeS.l0 kq l0 x1_1 x5_1 = some r) ∧ Aside0 (kq ≤ k) ∧ Drawn0 w w')
 case atStart => exact ⟨(a1),(0),(by first|rfl|(simp;done)|(simp [*];done)),(by first|rfl|(simp;done)|(simp [*];done)),H',⟨Nat.le_refl _⟩,by repeat (first|exact Drawn0.refl _|apply Drawn0.step)⟩
 case round =>
  clear H'
  try clear p2
  obtain ⟨x1_1,x5_1,rfl,rfl,HA,HK1,⟨m1,rfl⟩⟩ := hrel
  cases gk with
  | zero => exact absurd HA.out (fun h_ => (by cases h_))
  | succ k1 =>
   have H := HA.out
   clear HA
   simp only [laws_heldNodeS.l0] at H
   by_cases c3 : x5_1 < (l0.length : Int)
   ·rw [if_pos c3] at H
    have c3b0 : decide (x5_1 < (l0.length : Int)) = true := deT c3
    clear c3
    by_cases c4 : 0 ≤ x5_1
    rotate_left
    ·rw [if_neg c4] at H
     exact absurd H (by simp)
    rw [if_pos c4] at H
    have c4b0 : decide (0 ≤ x5_1) = true := deT c4
    clear c4
    by_cases c5 : ((rd_T58 l0 x5_1).f0) = x1_1
    ·rw [if_pos c5] at H
     have c5b0 : (((rd_T58 l0 x5_1).f0) == x1_1) = true := beq_iff_eq.mpr c5
     have c5b1 : (((rd_T58 l0 x5_1).f0) != x1_1) = false := bne_eq_false_iff_eq.mpr c5
     clear c5
     by_cases c6 : ((rd_T58 l0 x5_1).f1) = (wrap64 (x1_1 + 1))
     ·rw [if_pos c6] at H
      have c6b0 : (((rd_T58 l0 x5_1).f1) == (wrap64 (x1_1 + 1))) = true := beq_iff_eq.mpr c6
      have c6b1 : (((rd_T58 l0 x5_1).f1) != (wrap64 (x1_1 + 1))) = false := bne_eq_false_iff_eq.mpr c6
      clear c6
      replace H := obS H
      obtain ⟨t661,A70,H⟩ := H
      replace H : (if t661 < 0 then (some (-1)) else (laws_heldNodeS.l0 k1 l0 t661 (wrap64 (x5_1 + 1)))) = some r := H
      have A7 := As_ A70
      clear A70
      by_cases c8 : t661 < 0
      ·rw [if_pos c8] at H
       have c8b0 : decide (t661 < 0) = true := deT c8
       clear c8
       obtain rfl := Option.some.inj H
       have p658 : 0 ≤ (x5_1 : Int) := odT (by first|(with_reducible assumption)|assumption)
       have q658 : x5_1 < (l0.length : Int) := odT (by first|(with_reducible assumption)|assumption)
       obtain ⟨ad658,A658_2,c658_2,e658,hx658_0,hx658_1,hx658_2,hl658_2,hi658_2⟩ := at_T58 HR0.out x5_1 p658 q658
       cases e658
       have HR658_2 := As_ hi658_2
       have HC658_2 := As_ hl658_2
       clear hi658_2 hl658_2
       replace p658 := eq_true p658
       replace q658 := eq_true q658
       have p659 : 0 ≤ (x5_1 : Int) := odT (by first|(with_reducible assumption)|assumption)
       have q659 : x5_1 < (l0.length : Int) := odT (by first|(with_reducible assumption)|assumption)
       obtain ⟨ad659,A659_2,c659_2,e659,hx659_0,hx659_1,hx659_2,hl659_2,hi659_2⟩ := at_T58 HR0.out x5_1 p659 q659
       obtain rfl : ad658 = ad659 := (by injection e659)
       have HR659_2 := As_ hi659_2
       have HC659_2 := As_ hl659_2
       clear hi659_2 hl659_2
       replace p659 := eq_true p659
       replace q659 := eq_true q659
       have ea_ := Option.some.inj (hx658_2.symm.trans hx659_2)
       injection ea_ with ea_ en_ ec_
       subst ea_
       subst ec_
       clear en_
       have p660 : 0 ≤ (x5_1 : Int) := odT (by first|(with_reducible assumption)|assumption)
       have q660 : x5_1 < (l0.length : Int) := odT (by first|(with_reducible assumption)|assumption)
       obtain ⟨ad660,A660_2,c660_2,e660,hx660_0,hx660_1,hx660_2,hl660_2,hi660_2⟩ := at_T58 HR0.out x5_1 p660 q660
       obtain rfl : ad658 = ad660 := (by injection e660)
       have HR660_2 := As_ hi660_2
       have HC660_2 := As_ hl660_2
       clear hi660_2 hl660_2
       replace p660 := eq_true p660
       replace q660 := eq_true q660
       have ea_ := Option.some.inj (hx658_2.symm.trans hx660_2)
       injection ea_ with ea_ en_ ec_
       subst ea_
       subst ec_
       clear en_
       go_wp2_with (first|((with_reducible refine gate_callee (f := 23) rfl ?_);refine goesL_ (some 36) rfl rfl Try.func23 (by kernel_rfl) rfl #[.slice A658_2 ((rd_T58 l0 x5_1).f2).length c658_2,.int .i64 (wrap64 ((wrap64 (x1_1 + 1)) + 1))] rfl (by (try simp only [List.map_toArray,List.map_cons,List.map_nil]);first|done|rfl|(simp only [List.length_drop,List.length_take];rfl)) ?_;(with_reducible refine (laws_heldIntS.calls k1 _ _ ((rd_T58 l0 x5_1).f2) (wrap64 ((wrap64 (x1_1 + 1)) + 1)) t661 _ ?side1 ?side2 A7.out).mono ?_);(case side1 => repeat (first|exact HR660_2.out|(with_reducible refine Kd.C_alloc ?_ _)|(with_reducible refine Kd.C_drewN ?_ _)|(with_reducible refine Kd.C_drew ?_)));(case side2 => exact HC660_2.out);rintro e w' ⟨rfl,⟨nd,rfl⟩⟩;refine ⟨_,rfl,?_⟩))
       go_ret
       exact ⟨by first|rfl|(simp;done)|(simp [*];done),by repeat (first|exact Drawn0.refl _|apply Drawn0.step)⟩
      ·rw [if_neg c8] at H
       have c8b0 : decide (t661 < 0) = false := deF c8
       clear c8
       have H' := As_ H
       clear H
       have p658 : 0 ≤ (x5_1 : Int) := odT (by first|(with_reducible assumption)|assumption)
       have q658 : x5_1 < (l0.length : Int) := odT (by first|(with_reducible assumption)|assumption)
       obtain ⟨ad658,A658_2,c658_2,e658,hx658_0,hx658_1,hx658_2,hl658_2,hi658_2⟩ := at_T58 HR0.out x5_1 p658 q658
       cases e658
       have HR658_2 := As_ hi658_2
       have HC658_2 := As_ hl658_2
       clear hi658_2 hl658_2
       replace p658 := eq_true p658
       replace q658 := eq_true q658
       have p659 : 0 ≤ (x5_1 : Int) := odT (by first|(with_reducible assumption)|assumption)
       have q659 : x5_1 < (l0.length : Int) := odT (by first|(with_reducible assumption)|assumption)
       obtain ⟨ad659,A659_2,c659_2,e659,hx659_0,hx659_1,hx659_2,hl659_2,hi659_2⟩ := at_T58 HR0.out x5_1 p659 q659
       obtain rfl : ad658 = ad659 := (by injection e659)
       have HR659_2 := As_ hi659_2
       have HC659_2 := As_ hl659_2
       clear hi659_2 hl659_2
       replace p659 := eq_true p659
       replace q659 := eq_true q659
       have ea_ := Option.some.inj (hx658_2.symm.trans hx659_2)
       injection ea_ with ea_ en_ ec_
       subst ea_
       subst ec_
       clear en_
       have p660 : 0 ≤ (x5_1 : Int) := odT (by first|(with_reducible assumption)|assumption)
       have q660 : x5_1 < (l0.length : Int) := odT (by first|(with_reducible assumption)|assumption)
       obtain ⟨ad660,A660_2,c660_2,e660,hx660_0,hx660_1,hx660_2,hl660_2,hi660_2⟩ := at_T58 HR0.out x5_1 p660 q660
       obtain rfl : ad658 = ad660 := (by injection e660)
       have HR660_2 := As_ hi660_2
       have HC660_2 := As_ hl660_2
       clear hi660_2 hl660_2
       replace p660 := eq_true p660
       replace q660 := eq_true q660
       have ea_ := Option.some.inj (hx658_2.symm.trans hx660_2)
       injection ea_ with ea_ en_ ec_
       subst ea_
       subst ec_
       clear en_
       go_wp2_with (first|((with_reducible refine gate_callee (f := 23) rfl ?_);refine goesL_ (some 36) rfl rfl Try.func23 (by kernel_rfl) rfl #[.slice A658_2 ((rd_T58 l0 x5_1).f2).length c658_2,.int .i64 (wrap64 ((wrap64 (x1_1 + 1)) + 1))] rfl (by (try simp only [List.map_toArray,List.map_cons,List.map_nil]);first|done|rfl|(simp only [List.length_drop,List.length_take];rfl)) ?_;(with_reducible refine (laws_heldIntS.calls k1 _ _ ((rd_T58 l0 x5_1).f2) (wrap64 ((wrap64 (x1_1 + 1)) + 1)) t661 _ ?side1 ?side2 A7.out).mono ?_);(case side1 => repeat (first|exact HR660_2.out|(with_reducible refine Kd.C_alloc ?_ _)|(with_reducible refine Kd.C_drewN ?_ _)|(with_reducible refine Kd.C_drew ?_)));(case side2 => exact HC660_2.out);rintro e w' ⟨rfl,⟨nd,rfl⟩⟩;refine ⟨_,rfl,?_⟩))
       go_roundg k1
       case measure => have := HK1.out;omega
       case rel => exact ⟨(t661),(wrap64 (x5_1 + 1)),(by first|rfl|(simp;done)|(simp [*];done)),(by first|rfl|(simp;done)|(simp [*];done)),H',⟨by have := HK1.out;omega⟩,by repeat (first|exact Drawn0.refl _|apply Drawn0.step)⟩
     ·rw [if_neg c6] at H
      have c6b0 : (((rd_T58 l0 x5_1).f1) == (wrap64 (x1_1 + 1))) = false := beq_eq_false_iff_ne.mpr c6
      have c6b1 : (((rd_T58 l0 x5_1).f1) != (wrap64 (x1_1 + 1))) = true := bne_iff_ne.mpr c6
      obtain rfl := Option.some.inj H
      have p658 : 0 ≤ (x5_1 : Int) := odT (by first|(with_reducible assumption)|assumption)
      have q658 : x5_1 < (l0.length : Int) := odT (by first|(with_reducible assumption)|assumption)
      obtain ⟨ad658,A658_2,c658_2,e658,hx658_0,hx658_1,hx658_2,hl658_2,hi658_2⟩ := at_T58 HR0.out x5_1 p658 q658
      cases e658
      have HR658_2 := As_ hi658_2
      have HC658_2 := As_ hl658_2
      clear hi658_2 hl658_2
      replace p658 := eq_true p658
      replace q658 := eq_true q658
      have p659 : 0 ≤ (x5_1 : Int) := odT (by first|(with_reducible assumption)|assumption)
      have q659 : x5_1 < (l0.length : Int) := odT (by first|(with_reducible assumption)|assumption)
      obtain ⟨ad659,A659_2,c659_2,e659,hx659_0,hx659_1,hx659_2,hl659_2,hi659_2⟩ := at_T58 HR0.out x5_1 p659 q659
      obtain rfl : ad658 = ad659 := (by injection e659)
      have HR659_2 := As_ hi659_2
      have HC659_2 := As_ hl659_2
      clear hi659_2 hl659_2
      replace p659 := eq_true p659
      replace q659 := eq_true q659
      have ea_ := Option.some.inj (hx658_2.symm.trans hx659_2)
      injection ea_ with ea_ en_ ec_
      subst ea_
      subst ec_
      clear en_
      go_wp2
      go_ret
      exact ⟨by first|rfl|(simp;done)|(simp [*];done),by repeat (first|exact Drawn0.refl _|apply Drawn0.step)⟩
    ·rw [if_neg c5] at H
     have c5b0 : (((rd_T58 l0 x5_1).f0) == x1_1) = false := beq_eq_false_iff_ne.mpr c5
     have c5b1 : (((rd_T58 l0 x5_1).f0) != x1_1) = true := bne_iff_ne.mpr c5
     obtain rfl := Option.some.inj H
     have p658 : 0 ≤ (x5_1 : Int) := odT (by first|(with_reducible assumption)|assumption)
     have q658 : x5_1 < (l0.length : Int) := odT (by first|(with_reducible assumption)|assumption)
     obtain ⟨ad658,A658_2,c658_2,e658,hx658_0,hx658_1,hx658_2,hl658_2,hi658_2⟩ := at_T58 HR0.out x5_1 p658 q658
     cases e658
     have HR658_2 := As_ hi658_2
     have HC658_2 := As_ hl658_2
     clear hi658_2 hl658_2
     replace p658 := eq_true p658
     replace q658 := eq_true q658
     go_wp2
     go_ret
     exact ⟨by first|rfl|(simp;done)|(simp [*];done),by repeat (first|exact Drawn0.refl _|apply Drawn0.step)⟩
   ·rw [if_neg c3] at H
    have c3b0 : decide (x5_1 < (l0.length : Int)) = false := deF c3
    clear c3
    obtain rfl := Option.some.inj H
    go_wp2
    go_ret
    exact ⟨by first|rfl|(simp;done)|(simp [*];done),by repeat (first|exact Drawn0.refl _|apply Drawn0.step)⟩

/-! ### laws_heldGraph: function 32 -/
def laws_heldGraph.f (k : Nat) (l0_0 : List (S58)) (a0_1 : Int) (a1 : Int) : Option (Int) := (laws_heldNodeS.f k l0_0 a1).bind fun t663 => (if t663 < 0 then (some (-1)) else (some t663))
set_option maxRecDepth 100000 in
theorem laws_heldGraph.mono : ∀ a0 a1 a2 k,LeO (laws_heldGraph.f k a0 a1 a2) (laws_heldGraph.f (k + 1) a0 a1 a2) := by
 intro a0 a1 a2 k
 unfold laws_heldGraph.f
 repeat' first
   | (with_reducible exact laws_heldNodeS.mono _ _ _)
   | (with_reducible exact LeO.refl _)
   | (with_reducible exact LeO.none _)
   | (with_reducible refine LeO.ite ?_ ?_)
   | (with_reducible refine LeO.bind ?_ (fun _ => ?_))
   | exact laws_heldNodeS.mono _ _ _
   | exact LeO.none _
   | refine LeO.ite ?_ ?_
   | refine LeO.bind ?_ (fun _ => ?_)
set_option maxHeartbeats 8000000 in
set_option maxRecDepth 100000 in
theorem laws_heldGraph.calls (k : Nat) (A0_0 : Option Addr) (c0_0 : Nat) (l0_0 : List (S58)) (a0_1 : Int) (a1 : Int) (r : Int) (w : World) (hr0_0 : Kd.C k58 w A0_0 l0_0.length l0_0) (hc0_0 : l0_0.length ≤ c0_0) (h : laws_heldGraph.f k l0_0 a0_1 a1 = some r) :
  Calls Try.prog 32 #[.agg #[.slice A0_0 l0_0.length c0_0,.int .i64 a0_1],.int .i64 a1] w fun e w' => e = .returned (.int .i64 r) ∧ Below w.heap.size w w' := by
 have hu25 := Try.underlying25
 have HR0_0 := As_ hr0_0
 have HC0_0 := As_ hc0_0
 clear hr0_0 hc0_0
 have HB := As_ (Below.refl w.heap.size w)
 have H : ((laws_heldNodeS.f k l0_0 a1).bind fun t663 => (if t663 < 0 then (some (-1)) else (some t663))) = some r := h
 clear h
 replace H := obS H
 obtain ⟨t663,A30,H⟩ := H
 replace H : (if t663 < 0 then (some (-1)) else (some t663)) = some r := H
 have A3 := As_ A30
 clear A30
 by_cases c4 : t663 < 0
 ·rw [if_pos c4] at H
  have c4b0 : decide (t663 < 0) = true := deT c4
  clear c4
  obtain rfl := Option.some.inj H
  go_enter Try.func32,Try.ntmps32
  go_wp2_with (first|((with_reducible refine gate_dst (N := 2) rfl ?_);refine box_event ?hg (N := 2) ?hd (cs := #[.slice A0_0 l0_0.length c0_0,.int .i64 a0_1]) (t := 25) ?hr ?_;(case hd => rfl);(case hg => rfl);(case hr => go_simp <;> rfl);intro gb662 hg w5 hbox hb;have n0_ := As_ (bwT (by repeat (first|(with_reducible first|exact HB.out|apply bwA|apply bwN|apply bwD)|exact HB.out)) hb);have n1_ := As_ (hbox);have n2_ := As_ ((by rw [hg];exact (bwZ (by repeat (first|(with_reducible first|exact HB.out|apply bwA|apply bwN|apply bwD)|exact HB.out))) : w.heap.size ≤ gb662));have n3_ := As_ ((by rw [hg];exact (bwZ (by repeat (first|(with_reducible first|exact HB.out|apply bwA|apply bwN|apply bwD)|exact HB.out))) : w.heap.size ≤ gb662));clear HB;have HB := n0_;have BK662 := n1_;have GW662 := n2_;have GE662 := n3_;clear n0_ n1_ n2_ n3_;clear hb hbox hg;have hcz6_0 : w5.cell? ⟨gb662,0,none⟩ = some (.slice A0_0 l0_0.length c0_0) := (bkC BK662.out 0).trans rfl;have hcz6_1 : w5.cell? ⟨gb662,1,none⟩ = some (.int .i64 a0_1) := (bkC BK662.out 1).trans rfl;have hfz6_0 := bkF BK662.out 0;have hfz6_1 := bkF BK662.out 1)|((with_reducible refine gate_callee (f := 60) rfl ?_);refine goesL_ (some 8) rfl rfl Try.func60 (by kernel_rfl) rfl #[.slice A0_0 l0_0.length c0_0,.int .i64 a1] rfl (by (try simp only [List.map_toArray,List.map_cons,List.map_nil]);first|done|rfl|(simp only [List.length_drop,List.length_take];rfl)) ?_;(with_reducible refine (laws_heldNodeS.calls k _ _ l0_0 a1 t663 _ ?side1 ?side2 A3.out).mono ?_);(case side1 => repeat (first|exact (Kd.C_below HR0_0.out HB.out)|(with_reducible refine Kd.C_alloc ?_ _)|(with_reducible refine Kd.C_drewN ?_ _)|(with_reducible refine Kd.C_drew ?_)));(case side2 => exact HC0_0.out);rintro e w' ⟨rfl,⟨nd,rfl⟩⟩;refine ⟨_,rfl,?_⟩))
  go_ret
  exact ⟨by first|rfl|(simp [errW_none,errW_some] <;> rfl)|(simp [*,errW_none,errW_some] <;> rfl),by repeat (first|(with_reducible first|exact HB.out|apply bwA|apply bwN|apply bwD|refine bwS ?_ GE662.out)|exact HB.out)⟩
 ·rw [if_neg c4] at H
  have c4b0 : decide (t663 < 0) = false := deF c4
  clear c4
  obtain rfl := Option.some.inj H
  go_enter Try.func32,Try.ntmps32
  go_wp2_with (first|((with_reducible refine gate_dst (N := 2) rfl ?_);refine box_event ?hg (N := 2) ?hd (cs := #[.slice A0_0 l0_0.length c0_0,.int .i64 a0_1]) (t := 25) ?hr ?_;(case hd => rfl);(case hg => rfl);(case hr => go_simp <;> rfl);intro gb662 hg w7 hbox hb;have n0_ := As_ (bwT (by repeat (first|(with_reducible first|exact HB.out|apply bwA|apply bwN|apply bwD)|exact HB.out)) hb);have n1_ := As_ (hbox);have n2_ := As_ ((by rw [hg];exact (bwZ (by repeat (first|(with_reducible first|exact HB.out|apply bwA|apply bwN|apply bwD)|exact HB.out))) : w.heap.size ≤ gb662));have n3_ := As_ ((by rw [hg];exact (bwZ (by repeat (first|(with_reducible first|exact HB.out|apply bwA|apply bwN|apply bwD)|exact HB.out))) : w.heap.size ≤ gb662));clear HB;have HB := n0_;have BK662 := n1_;have GW662 := n2_;have GE662 := n3_;clear n0_ n1_ n2_ n3_;clear hb hbox hg;have hcz8_0 : w7.cell? ⟨gb662,0,none⟩ = some (.slice A0_0 l0_0.length c0_0) := (bkC BK662.out 0).trans rfl;have hcz8_1 : w7.cell? ⟨gb662,1,none⟩ = some (.int .i64 a0_1) := (bkC BK662.out 1).trans rfl;have hfz8_0 := bkF BK662.out 0;have hfz8_1 := bkF BK662.out 1)|((with_reducible refine gate_callee (f := 60) rfl ?_);refine goesL_ (some 8) rfl rfl Try.func60 (by kernel_rfl) rfl #[.slice A0_0 l0_0.length c0_0,.int .i64 a1] rfl (by (try simp only [List.map_toArray,List.map_cons,List.map_nil]);first|done|rfl|(simp only [List.length_drop,List.length_take];rfl)) ?_;(with_reducible refine (laws_heldNodeS.calls k _ _ l0_0 a1 t663 _ ?side1 ?side2 A3.out).mono ?_);(case side1 => repeat (first|exact (Kd.C_below HR0_0.out HB.out)|(with_reducible refine Kd.C_alloc ?_ _)|(with_reducible refine Kd.C_drewN ?_ _)|(with_reducible refine Kd.C_drew ?_)));(case side2 => exact HC0_0.out);rintro e w' ⟨rfl,⟨nd,rfl⟩⟩;refine ⟨_,rfl,?_⟩))
  go_ret
  exact ⟨by first|rfl|(simp [errW_none,errW_some] <;> rfl)|(simp [*,errW_none,errW_some] <;> rfl),by repeat (first|(with_reducible first|exact HB.out|apply bwA|apply bwN|apply bwD|refine bwS ?_ GE662.out)|exact HB.out)⟩

end Go.Proofs.Ytapaegcombfafaa.Q
