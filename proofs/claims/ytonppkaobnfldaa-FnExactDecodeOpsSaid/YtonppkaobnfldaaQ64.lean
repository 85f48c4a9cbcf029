-- Written by wip/tools/qprint.py (a program of this claim's author) by means of the kit's printer.
import Derived.Test.YtonppkaobnfldaaQ0
namespace Go.Proofs.Ytonppkaobnfldaa.Q
open Go.RowKit Go.Proofs.YtonppkaobnfldaaW.PrintWords Go.Proofs.YtonppkaobnfldaaW.PrintLast Go.Proofs.YtonppkaobnfldaaW.PrintMore
attribute [local go_sem] max2_int min2_int max_two min_two max_three min_three max_four min_four   -- for this text's walks alone
set_option linter.unusedVariables false
set_option linter.unusedSimpArgs false

/-! ### spec_idle: function 64 -/
mutual
def spec_idle.l0 : Nat → List (S49) → Int → Int → Option (Bool)
 | 0,_,_,_ => none
 | k + 1,x0,x1,x5 => if x5 < (x0.length : Int) then (if 0 ≤ x5 then (if 0 ≤ x1 then (if x1 < (x0.length : Int) then (if ((rd_T49 x0 x5).f1) = ((rd_T49 x0 x1).f1) then (spec_idle.j1 k x0 x1 x5 (((rd_T49 x0 x5).f0) == 16)) else (spec_idle.j1 k x0 x1 x5 false)) else (none)) else (none)) else (none)) else (some true)
def spec_idle.j1 : Nat → List (S49) → Int → Int → Bool → Option (Bool)
 | 0,_,_,_,_ => none
 | k + 1,x0,x1,x5,x38 => if x38 = true then (some false) else (if 0 ≤ x5 then (if x5 < (x0.length : Int) then (if 0 ≤ x1 then (if x1 < (x0.length : Int) then (if ((rd_T49 x0 x5).f1) = ((rd_T49 x0 x1).f1) then (if ((rd_T49 x0 x5).f0) = 15 then (some true) else (spec_idle.l0 k x0 x1 (wrap64 (x5 + 1)))) else (spec_idle.l0 k x0 x1 (wrap64 (x5 + 1)))) else (none)) else (none)) else (none)) else (none))
end
def spec_idle.f (k : Nat) (l0 : List (S49)) (a1 : Int) : Option (Bool) := if 0 ≤ a1 then (if a1 < (l0.length : Int) then (if ((rd_T49 l0 a1).f0) = 15 then (spec_idle.l0 k l0 a1 (wrap64 (a1 + 1))) else (some false)) else (none)) else (none)
set_option maxRecDepth 100000 in
theorem spec_idle.mono_l : ∀ k,(∀ y0 y1 y2,LeO (spec_idle.l0 k y0 y1 y2) (spec_idle.l0 (k + 1) y0 y1 y2)) ∧ (∀ y0 y1 y2 y3,LeO (spec_idle.j1 k y0 y1 y2 y3) (spec_idle.j1 (k + 1) y0 y1 y2 y3))
 | 0 => ⟨fun _ _ _ r h => (by cases h),fun _ _ _ _ r h => (by cases h)⟩
 | k + 1 => by
  obtain ⟨ih0,ih1⟩ := spec_idle.mono_l k
  refine ⟨?_,?_⟩
  ·intro y0 y1 y2
   unfold spec_idle.l0
   repeat' first
   | (with_reducible exact ih0 _ _ _)
   | (with_reducible exact ih1 _ _ _ _)
   | (with_reducible exact LeO.refl _)
   | (with_reducible exact LeO.none _)
   | (with_reducible refine LeO.ite ?_ ?_)
   | (with_reducible refine LeO.bind ?_ (fun _ => ?_))
   | exact ih0 _ _ _
   | exact ih1 _ _ _ _
   | exact LeO.none _
   | refine LeO.ite ?_ ?_
   | refine LeO.bind ?_ (fun _ => ?_)
  ·intro y0 y1 y2 y3
   unfold spec_idle.j1
   repeat' first
   | (with_reducible exact ih0 _ _ _)
   | (with_reducible exact ih1 _ _ _ _)
   | (with_reducible exact LeO.refl _)
   | (with_reducible exact LeO.none _)
   | (with_reducible refine LeO.ite ?_ ?_)
   | (with_reducible refine LeO.bind ?_ (fun _ => ?_))
   | exact ih0 _ _ _
   | exact ih1 _ _ _ _
   | exact LeO.none _
   | refine LeO.ite ?_ ?_
   | refine LeO.bind ?_ (fun _ => ?_)
set_option maxRecDepth 100000 in
theorem spec_idle.mono : ∀ a0 a1 k,LeO (spec_idle.f k a0 a1) (spec_idle.f (k + 1) a0 a1) := by
 intro a0 a1 k
 obtain ⟨ih0,ih1⟩ := spec_idle.mono_l k
 unfold spec_idle.f
 repeat' first
   | (with_reducible exact ih0 _ _ _)
   | (with_reducible exact ih1 _ _ _ _)
   | (with_reducible exact LeO.refl _)
   | (with_reducible exact LeO.none _)
   | (with_reducible refine LeO.ite ?_ ?_)
   | (with_reducible refine LeO.bind ?_ (fun _ => ?_))
   | exact ih0 _ _ _
   | exact ih1 _ _ _ _
   | exact LeO.none _
   | refine LeO.ite ?_ ?_
   | refine LeO.bind ?_ (fun _ => ?_)
set_option maxHeartbeats 8000000 in
set_option maxRecDepth 100000 in
theorem spec_idle.calls (k : Nat) (A0 : Option Addr) (c0 : Nat) (l0 : List (S49)) (a1 : Int) (r : Bool) (w : World) (hr0 : Kd.C k49 w A0 l0.length l0) (hc0 : l0.length ≤ c0) (h : spec_idle.f k l0 a1 = some r) :
  Calls Try.prog 64 #[.slice A0 l0.length c0,.int .i64 a1] w fun e w' => e = .returned (.bool r) ∧ Drawn0 w w' := by
 have HR0 := Aside0.mk hr0
 have HC0 := Aside0.mk hc0
 clear hr0 hc0
 have H : (if 0 ≤ a1 then (if a1 < (l0.length : Int) then (if ((rd_T49 l0 a1).f0) = 15 then (spec_idle.l0 k l0 a1 (wrap64 (a1 + 1))) else (some false)) else (none)) else (none)) = some r := h
 clear h
 by_cases c3 : 0 ≤ a1
 ·rw [if_pos c3] at H
  have c3b0 : decide (0 ≤ a1) = true := decide_eq_true c3
  clear c3
  by_cases c4 : a1 < (l0.length : Int)
  ·rw [if_pos c4] at H
   have c4b0 : decide (a1 < (l0.length : Int)) = true := decide_eq_true c4
   clear c4
   by_cases c5 : ((rd_T49 l0 a1).f0) = 15
   ·rw [if_pos c5] at H
    have c5b0 : (((rd_T49 l0 a1).f0) == 15) = true := beq_iff_eq.mpr c5
    have c5b1 : (((rd_T49 l0 a1).f0) != 15) = false := bne_eq_false_iff_eq.mpr c5
    clear c5
    have H' := Aside0.mk H
    clear H
    have p463 : 0 ≤ (a1 : Int) := of_decide_eq_true (by first|(with_reducible assumption)|assumption)
    have q463 : a1 < (l0.length : Int) := of_decide_eq_true (by first|(with_reducible assumption)|assumption)
    obtain ⟨ad463,e463,hx463_0,hx463_1⟩ := at_T49 HR0.out a1 p463 q463
    cases e463
    replace p463 := eq_true p463
    replace q463 := eq_true q463
    go_enter Try.func64,Try.ntmps64
    go_wp2
    repeat (go_quiet (fail);try go_wp2)
    go_loopg [5] k (fun kq v5 w' => ∃ (x5_1 : Int),v5 = .int .i64 x5_1 ∧ Aside0 (spec_idle.l0 kq l0 a1 x5_1 = some r) ∧ Aside0 (kq ≤ k) ∧ Drawn0 w w')
    case atStart => exact ⟨(wrap64 (a1 + 1)),(by first|rfl|(simp;done)|(simp [*];done)),H',⟨Nat.le_refl _⟩,by repeat (first|exact Drawn0.refl _|apply Drawn0.step)⟩
    case round =>
     clear H'
     try clear p2
     try clear c3
     try clear c3b0
     try clear c4
     try clear c4b0
     try clear p4
     try clear q4
     try clear hx4
     try clear c5
     try clear c5b0
     try clear c5b1
     try clear hx463_0
     try clear hx463_1
     try clear p463
     try clear q463
     obtain ⟨x5_1,rfl,HA,HK1,⟨m1,rfl⟩⟩ := hrel
     cases gk with
     | zero => exact absurd HA.out (fun h_ => (by cases h_))
     | succ k1 =>
      have H := HA.out
      clear HA
      simp only [spec_idle.l0] at H
      by_cases c6 : x5_1 < (l0.length : Int)
      ·rw [if_pos c6] at H
       have c6b0 : decide (x5_1 < (l0.length : Int)) = true := decide_eq_true c6
       clear c6
       have HC7 := Aside0.mk H
       clear H
       go_upto_region 6 with (fail)
       repeat (go_quiet (fail);go_upto_region 6 with (fail))
       go_cut [38] (fun v38 wc => ∃ (kq : Nat) (x38_6 : Bool),v38 = .bool x38_6 ∧ Aside0 (spec_idle.j1 kq l0 a1 x5_1 x38_6 = some r) ∧ Aside0 (kq ≤ k1) ∧ Drawn0 w wc)
       case first =>
        have H := HC7.out
        clear HC7
        by_cases c8 : 0 ≤ x5_1
        ·rw [if_pos c8] at H
         have c8b0 : decide (0 ≤ x5_1) = true := decide_eq_true c8
         clear c8
         (first|rw [c8b0]|(simp only [i64_w,i32_w];rw [c8b0])|skip)
         by_cases c9 : 0 ≤ a1
         ·rw [if_pos c9] at H
          have c9b0 : decide (0 ≤ a1) = true := decide_eq_true c9
          clear c9
          by_cases c10 : a1 < (l0.length : Int)
          ·rw [if_pos c10] at H
           have c10b0 : decide (a1 < (l0.length : Int)) = true := decide_eq_true c10
           clear c10
           by_cases c11 : ((rd_T49 l0 x5_1).f1) = ((rd_T49 l0 a1).f1)
           ·rw [if_pos c11] at H
            have c11b0 : (((rd_T49 l0 x5_1).f1) == ((rd_T49 l0 a1).f1)) = true := beq_iff_eq.mpr c11
            have c11b1 : (((rd_T49 l0 x5_1).f1) != ((rd_T49 l0 a1).f1)) = false := bne_eq_false_iff_eq.mpr c11
            clear c11
            have H' := Aside0.mk H
            clear H
            have p464 : 0 ≤ (x5_1 : Int) := of_decide_eq_true (by first|(with_reducible assumption)|assumption)
            have q464 : x5_1 < (l0.length : Int) := of_decide_eq_true (by first|(with_reducible assumption)|assumption)
            obtain ⟨ad464,e464,hx464_0,hx464_1⟩ := at_T49 HR0.out x5_1 p464 q464
            obtain rfl : ad463 = ad464 := (by injection e464)
            replace p464 := eq_true p464
            replace q464 := eq_true q464
            have p465 : 0 ≤ (a1 : Int) := of_decide_eq_true (by first|(with_reducible assumption)|assumption)
            have q465 : a1 < (l0.length : Int) := of_decide_eq_true (by first|(with_reducible assumption)|assumption)
            obtain ⟨ad465,e465,hx465_0,hx465_1⟩ := at_T49 HR0.out a1 p465 q465
            obtain rfl : ad463 = ad465 := (by injection e465)
            replace p465 := eq_true p465
            replace q465 := eq_true q465
            have p466 : 0 ≤ (x5_1 : Int) := of_decide_eq_true (by first|(with_reducible assumption)|assumption)
            have q466 : x5_1 < (l0.length : Int) := of_decide_eq_true (by first|(with_reducible assumption)|assumption)
            obtain ⟨ad466,e466,hx466_0,hx466_1⟩ := at_T49 HR0.out x5_1 p466 q466
            obtain rfl : ad463 = ad466 := (by injection e466)
            replace p466 := eq_true p466
            replace q466 := eq_true q466
            go_wp2
            repeat (go_quiet (fail);try go_wp2)
            go_meet
            case rel => exact ⟨_,((((rd_T49 l0 x5_1).f0) == 16)),(by first|rfl|(simp;done)|(simp [*];done)),H',⟨by have := HK1.out;first|omega|exact Nat.le_refl _⟩,by repeat (first|exact Drawn0.refl _|apply Drawn0.step)⟩
           ·rw [if_neg c11] at H
            have c11b0 : (((rd_T49 l0 x5_1).f1) == ((rd_T49 l0 a1).f1)) = false := beq_eq_false_iff_ne.mpr c11
            have c11b1 : (((rd_T49 l0 x5_1).f1) != ((rd_T49 l0 a1).f1)) = true := bne_iff_ne.mpr c11
            have H' := Aside0.mk H
            clear H
            have p464 : 0 ≤ (x5_1 : Int) := of_decide_eq_true (by first|(with_reducible assumption)|assumption)
            have q464 : x5_1 < (l0.length : Int) := of_decide_eq_true (by first|(with_reducible assumption)|assumption)
            obtain ⟨ad464,e464,hx464_0,hx464_1⟩ := at_T49 HR0.out x5_1 p464 q464
            obtain rfl : ad463 = ad464 := (by injection e464)
            replace p464 := eq_true p464
            replace q464 := eq_true q464
            have p465 : 0 ≤ (a1 : Int) := of_decide_eq_true (by first|(with_reducible assumption)|assumption)
            have q465 : a1 < (l0.length : Int) := of_decide_eq_true (by first|(with_reducible assumption)|assumption)
            obtain ⟨ad465,e465,hx465_0,hx465_1⟩ := at_T49 HR0.out a1 p465 q465
            obtain rfl : ad463 = ad465 := (by injection e465)
            replace p465 := eq_true p465
            replace q465 := eq_true q465
            go_wp2
            repeat (go_quiet (fail);try go_wp2)
            go_meet
            case rel => exact ⟨_,(false),(by first|rfl|(simp;done)|(simp [*];done)),H',⟨by have := HK1.out;first|omega|exact Nat.le_refl _⟩,by repeat (first|exact Drawn0.refl _|apply Drawn0.step)⟩
          ·rw [if_neg c10] at H
           exact absurd H (by simp)
         ·rw [if_neg c9] at H
          exact absurd H (by simp)
        ·rw [if_neg c8] at H
         exact absurd H (by simp)
       case rest =>
        clear HC7
        try clear c1
        try clear p2
        try clear c3
        try clear c3b0
        try clear c4
        try clear c4b0
        try clear p4
        try clear q4
        try clear hx4
        try clear c5
        try clear c5b0
        try clear c5b1
        try clear c6
        try clear c6b0
        try clear p6
        try clear c8
        try clear c8b0
        try clear c9
        try clear c9b0
        try clear c10
        try clear c10b0
        try clear c11
        try clear c11b0
        try clear c11b1
        try clear hx463_0
        try clear hx463_1
        try clear hx464_0
        try clear hx464_1
        try clear hx465_0
        try clear hx465_1
        try clear hx466_0
        try clear hx466_1
        try clear p2
        try clear p4
        try clear p463
        try clear p464
        try clear p465
        try clear p466
        try clear q4
        try clear q463
        try clear q464
        try clear q465
        try clear q466
        obtain ⟨kq,x38_6,rfl,HA,HJ6,⟨mc6,rfl⟩⟩ := hcut
        cases kq with
        | zero => exact absurd HA.out (fun h_ => (by cases h_))
        | succ kj6 =>
         have H := HA.out
         clear HA
         simp only [spec_idle.j1] at H
         by_cases c12 : x38_6 = true
         ·subst c12
          have H1 : (some false) = some r := by rw [if_pos rfl] at H;exact H
          clear H
          have H := H1
          clear H1
          obtain rfl := Option.some.inj H
          go_wp2
          repeat (go_quiet (fail);try go_wp2)
          go_ret
          exact ⟨by first|rfl|(simp;done)|(simp [*];done),by repeat (first|exact Drawn0.refl _|apply Drawn0.step)⟩
         ·replace c12 := Bool.eq_false_iff.mpr c12
          subst c12
          have H1 : (if 0 ≤ x5_1 then (if x5_1 < (l0.length : Int) then (if 0 ≤ a1 then (if a1 < (l0.length : Int) then (if ((rd_T49 l0 x5_1).f1) = ((rd_T49 l0 a1).f1) then (if ((rd_T49 l0 x5_1).f0) = 15 then (some true) else (spec_idle.l0 kj6 l0 a1 (wrap64 (x5_1 + 1)))) else (spec_idle.l0 kj6 l0 a1 (wrap64 (x5_1 + 1)))) else (none)) else (none)) else (none)) else (none)) = some r := by rw [if_neg (show ¬ (false = true) by decide)] at H;exact H
          clear H
          have H := H1
          clear H1
          by_cases c13 : 0 ≤ x5_1
          ·rw [if_pos c13] at H
           have c13b0 : decide (0 ≤ x5_1) = true := decide_eq_true c13
           clear c13
           by_cases c14 : x5_1 < (l0.length : Int)
           ·rw [if_pos c14] at H
            have c14b0 : decide (x5_1 < (l0.length : Int)) = true := decide_eq_true c14
            clear c14
            by_cases c15 : 0 ≤ a1
            ·rw [if_pos c15] at H
             have c15b0 : decide (0 ≤ a1) = true := decide_eq_true c15
             clear c15
             by_cases c16 : a1 < (l0.length : Int)
             ·rw [if_pos c16] at H
              have c16b0 : decide (a1 < (l0.length : Int)) = true := decide_eq_true c16
              clear c16
              by_cases c17 : ((rd_T49 l0 x5_1).f1) = ((rd_T49 l0 a1).f1)
              ·rw [if_pos c17] at H
               have c17b0 : (((rd_T49 l0 x5_1).f1) == ((rd_T49 l0 a1).f1)) = true := beq_iff_eq.mpr c17
               have c17b1 : (((rd_T49 l0 x5_1).f1) != ((rd_T49 l0 a1).f1)) = false := bne_eq_false_iff_eq.mpr c17
               clear c17
               by_cases c18 : ((rd_T49 l0 x5_1).f0) = 15
               ·rw [if_pos c18] at H
                have c18b0 : (((rd_T49 l0 x5_1).f0) == 15) = true := beq_iff_eq.mpr c18
                have c18b1 : (((rd_T49 l0 x5_1).f0) != 15) = false := bne_eq_false_iff_eq.mpr c18
                clear c18
                obtain rfl := Option.some.inj H
                have p467 : 0 ≤ (x5_1 : Int) := of_decide_eq_true (by first|(with_reducible assumption)|assumption)
                have q467 : x5_1 < (l0.length : Int) := of_decide_eq_true (by first|(with_reducible assumption)|assumption)
                obtain ⟨ad467,e467,hx467_0,hx467_1⟩ := at_T49 HR0.out x5_1 p467 q467
                obtain rfl : ad463 = ad467 := (by injection e467)
                replace p467 := eq_true p467
                replace q467 := eq_true q467
                have p468 : 0 ≤ (a1 : Int) := of_decide_eq_true (by first|(with_reducible assumption)|assumption)
                have q468 : a1 < (l0.length : Int) := of_decide_eq_true (by first|(with_reducible assumption)|assumption)
                obtain ⟨ad468,e468,hx468_0,hx468_1⟩ := at_T49 HR0.out a1 p468 q468
                obtain rfl : ad463 = ad468 := (by injection e468)
                replace p468 := eq_true p468
                replace q468 := eq_true q468
                have p469 : 0 ≤ (x5_1 : Int) := of_decide_eq_true (by first|(with_reducible assumption)|assumption)
                have q469 : x5_1 < (l0.length : Int) := of_decide_eq_true (by first|(with_reducible assumption)|assumption)
                obtain ⟨ad469,e469,hx469_0,hx469_1⟩ := at_T49 HR0.out x5_1 p469 q469
                obtain rfl : ad463 = ad469 := (by injection e469)
                replace p469 := eq_true p469
                replace q469 := eq_true q469
                go_wp2
                repeat (go_quiet (fail);try go_wp2)
                go_ret
                exact ⟨by first|rfl|(simp;done)|(simp [*];done),by repeat (first|exact Drawn0.refl _|apply Drawn0.step)⟩
               ·rw [if_neg c18] at H
                have c18b0 : (((rd_T49 l0 x5_1).f0) == 15) = false := beq_eq_false_iff_ne.mpr c18
                have c18b1 : (((rd_T49 l0 x5_1).f0) != 15) = true := bne_iff_ne.mpr c18
                have H' := Aside0.mk H
                clear H
                have p467 : 0 ≤ (x5_1 : Int) := of_decide_eq_true (by first|(with_reducible assumption)|assumption)
                have q467 : x5_1 < (l0.length : Int) := of_decide_eq_true (by first|(with_reducible assumption)|assumption)
                obtain ⟨ad467,e467,hx467_0,hx467_1⟩ := at_T49 HR0.out x5_1 p467 q467
                obtain rfl : ad463 = ad467 := (by injection e467)
                replace p467 := eq_true p467
                replace q467 := eq_true q467
                have p468 : 0 ≤ (a1 : Int) := of_decide_eq_true (by first|(with_reducible assumption)|assumption)
                have q468 : a1 < (l0.length : Int) := of_decide_eq_true (by first|(with_reducible assumption)|assumption)
                obtain ⟨ad468,e468,hx468_0,hx468_1⟩ := at_T49 HR0.out a1 p468 q468
                obtain rfl : ad463 = ad468 := (by injection e468)
                replace p468 := eq_true p468
                replace q468 := eq_true q468
                have p469 : 0 ≤ (x5_1 : Int) := of_decide_eq_true (by first|(with_reducible assumption)|assumption)
                have q469 : x5_1 < (l0.length : Int) := of_decide_eq_true (by first|(with_reducible assumption)|assumption)
                obtain ⟨ad469,e469,hx469_0,hx469_1⟩ := at_T49 HR0.out x5_1 p469 q469
                obtain rfl : ad463 = ad469 := (by injection e469)
                replace p469 := eq_true p469
                replace q469 := eq_true q469
                go_wp2
                repeat (go_quiet (fail);try go_wp2)
                go_roundg kj6
                case measure => have := HK1.out;have := HJ6.out;omega
                case rel => exact ⟨(wrap64 (x5_1 + 1)),(by first|rfl|(simp;done)|(simp [*];done)),H',⟨by have := HK1.out;have := HJ6.out;omega⟩,by repeat (first|exact Drawn0.refl _|apply Drawn0.step)⟩
              ·rw [if_neg c17] at H
               have c17b0 : (((rd_T49 l0 x5_1).f1) == ((rd_T49 l0 a1).f1)) = false := beq_eq_false_iff_ne.mpr c17
               have c17b1 : (((rd_T49 l0 x5_1).f1) != ((rd_T49 l0 a1).f1)) = true := bne_iff_ne.mpr c17
               have H' := Aside0.mk H
               clear H
               have p467 : 0 ≤ (x5_1 : Int) := of_decide_eq_true (by first|(with_reducible assumption)|assumption)
               have q467 : x5_1 < (l0.length : Int) := of_decide_eq_true (by first|(with_reducible assumption)|assumption)
               obtain ⟨ad467,e467,hx467_0,hx467_1⟩ := at_T49 HR0.out x5_1 p467 q467
               obtain rfl : ad463 = ad467 := (by injection e467)
               replace p467 := eq_true p467
               replace q467 := eq_true q467
               have p468 : 0 ≤ (a1 : Int) := of_decide_eq_true (by first|(with_reducible assumption)|assumption)
               have q468 : a1 < (l0.length : Int) := of_decide_eq_true (by first|(with_reducible assumption)|assumption)
               obtain ⟨ad468,e468,hx468_0,hx468_1⟩ := at_T49 HR0.out a1 p468 q468
               obtain rfl : ad463 = ad468 := (by injection e468)
               replace p468 := eq_true p468
               replace q468 := eq_true q468
               go_wp2
               repeat (go_quiet (fail);try go_wp2)
               go_roundg kj6
               case measure => have := HK1.out;have := HJ6.out;omega
               case rel => exact ⟨(wrap64 (x5_1 + 1)),(by first|rfl|(simp;done)|(simp [*];done)),H',⟨by have := HK1.out;have := HJ6.out;omega⟩,by repeat (first|exact Drawn0.refl _|apply Drawn0.step)⟩
             ·rw [if_neg c16] at H
              exact absurd H (by simp)
            ·rw [if_neg c15] at H
             exact absurd H (by simp)
           ·rw [if_neg c14] at H
            exact absurd H (by simp)
          ·rw [if_neg c13] at H
           exact absurd H (by simp)
      ·rw [if_neg c6] at H
       have c6b0 : decide (x5_1 < (l0.length : Int)) = false := decide_eq_false c6
       clear c6
       obtain rfl := Option.some.inj H
       go_wp2
       repeat (go_quiet (fail);try go_wp2)
       go_ret
       exact ⟨by first|rfl|(simp;done)|(simp [*];done),by repeat (first|exact Drawn0.refl _|apply Drawn0.step)⟩
   ·rw [if_neg c5] at H
    have c5b0 : (((rd_T49 l0 a1).f0) == 15) = false := beq_eq_false_iff_ne.mpr c5
    have c5b1 : (((rd_T49 l0 a1).f0) != 15) = true := bne_iff_ne.mpr c5
    obtain rfl := Option.some.inj H
    have p463 : 0 ≤ (a1 : Int) := of_decide_eq_true (by first|(with_reducible assumption)|assumption)
    have q463 : a1 < (l0.length : Int) := of_decide_eq_true (by first|(with_reducible assumption)|assumption)
    obtain ⟨ad463,e463,hx463_0,hx463_1⟩ := at_T49 HR0.out a1 p463 q463
    cases e463
    replace p463 := eq_true p463
    replace q463 := eq_true q463
    go_enter Try.func64,Try.ntmps64
    go_wp2
    repeat (go_quiet (fail);try go_wp2)
    go_ret
    exact ⟨by first|rfl|(simp;done)|(simp [*];done),by repeat (first|exact Drawn0.refl _|apply Drawn0.step)⟩
  ·rw [if_neg c4] at H
   exact absurd H (by simp)
 ·rw [if_neg c3] at H
  exact absurd H (by simp)

end Go.Proofs.Ytonppkaobnfldaa.Q
