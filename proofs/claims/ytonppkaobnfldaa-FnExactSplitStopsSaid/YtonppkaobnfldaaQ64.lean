-- Written by wip/tools/qprint.py (a program of this claim's author) by means of the kit's printer.
import Derived.Test.YtonppkaobnfldaaQ0
namespace Go.Proofs.Ytonppkaobnfldaa.Q
open Go.RowKit Go.Proofs.YtonppkaobnfldaaW.PrintWords Go.Proofs.YtonppkaobnfldaaW.PrintLast Go.Proofs.YtonppkaobnfldaaW.PrintMore
attribute [local go_sem] max2_int min2_int max_two min_two max_three min_three max_four min_four   -- for this text's walks alone
set_option linter.unusedVariables false
set_option linter.unusedSimpArgs false

/-! ### spec_idle: function 64 -/
mutual
def spec_idle.l0 : Nat → List (S49) → Int → Int → Option (Bool)
 | 0,_,_,_ => none
 | k + 1,x0,x1,x5 => if x5 < (x0.length : Int) then (if 0 ≤ x5 then (if 0 ≤ x1 then (if x1 < (x0.length : Int) then (if ((rd_T49 x0 x5).f1) = ((rd_T49 x0 x1).f1) then (spec_idle.j1 k x0 x1 x5 (((rd_T49 x0 x5).f0) == 16)) else (spec_idle.j1 k x0 x1 x5 false)) else (none)) else (none)) else (none)) else (some true)
def spec_idle.j1 : Nat → List (S49) → Int → Int → Bool → Option (Bool)
 | 0,_,_,_,_ => none
 | k + 1,x0,x1,x5,x38 => if x38 = true then (some false) else (if 0 ≤ x5 then (if x5 < (x0.length : Int) then (if 0 ≤ x1 then (if x1 < (x0.length : Int) then (if ((rd_T49 x0 x5).f1) = ((rd_T49 x0 x1).f1) then (if ((rd_T49 x0 x5).f0) = 15 then (some true) else (spec_idle.l0 k x0 x1 (wrap64 (x5 + 1)))) else (spec_idle.l0 k x0 x1 (wrap64 (x5 + 1)))) else (none)) else (none)) else (none)) else (none))
end
def spec_idle.f (k : Nat) (l0 : List (S49)) (a1 : Int) : Option (Bool) := if 0 ≤ a1 then (if a1 < (l0.length : Int) then (if ((rd_T49 l0 a1).f0) = 15 then (spec_idle.l0 k l0 a1 (wrap64 (a1 + 1))) else (some false)) else (none)) else (none)
set_option maxRecDepth 100000 in
theorem spec_idle.mono_l : ∀ k,(∀ y0 y1 y2,LeO (spec_idle.l0 k y0 y1 y2) (spec_idle.l0 (k + 1) y0 y1 y2)) ∧ (∀ y0 y1 y2 y3,LeO (spec_idle.j1 k y0 y1 y2 y3) (spec_idle.j1 (k + 1) y0 y1 y2 y3))
 | 0 => ⟨fun _ _ _ r h => (by cases h),fun _ _ _ _ r h => (by cases h)⟩
 | k + 1 => by
  obtain ⟨ih0,ih1⟩ := spec_idle.mono_l k
  refine ⟨?_,?_⟩
  ·intro y0 y1 y2
   unfold spec_idle.l0
   repeat' first
   | (with_reducible exact ih0 _ _ _)
   | (with_reducible exact ih1 _ _ _ _)
   | (with_reducible exact LeO.refl _)
   | (with_reducible exact LeO.none _)
   | (with_reducible refine LeO.ite ?_ ?_)
   | (with_reducible refine LeO.bind ?_ (fun _ => ?_))
   | exact ih0 _ _ _
   | exact ih1 _ _ _ _
   | exact LeO.none _
   | refine LeO.ite ?_ ?_
   | refine LeO.bind ?_ (fun _ => ?_)
  ·intro y0 y1 y2 y3
   unfold spec_idle.j1
   repeat' first
   | (with_reducible exact ih0 _ _ _)
   | (with_reducible exact ih1 _ _ _ _)
   | (with_reducible exact LeO.refl _)
   | (with_reducible exact LeO.none _)
   | (with_reducible refine LeO.ite ?_ ?_)
   | (with_reducible refine LeO.bind ?_ (fun _ => ?_))
   | exact ih0 _ _ _
   | exact ih1 _ _ _ _
   | exact LeO.none _
   | refine LeO.ite ?_ ?_
   | refine LeO.bind ?_ (fun _ => ?_)
set_option maxRecDepth 100000 in
theorem spec_idle.mono : ∀ a0 a1 k,LeO (spec_idle.f k a0 a1) (spec_idle.f (k + 1) a0 a1) := by
 intro a0 a1 k
 obtain ⟨ih0,ih1⟩ := spec_idle.mono_l k
 unfold spec_idle.f
 repeat' first
   | (with_reducible exact ih0 _ _ _)
   | (with_reducible exact ih1 _ _ _ _)
   | (with_reducible exact LeO.refl _)
   | (with_reducible exact LeO.none _)
   | (with_reducible refine LeO.ite ?_ ?_)
   | (with_reducible refine LeO.bind ?_ (fun _ => ?_))
   | exact ih0 _ _ _
   | exact ih1 _ _ _ _
   | exact LeO.none _
   | refine LeO.ite ?_ ?_
   | refine LeO.bind ?_ (fun _ => ?_)
set_option maxHeartbeats 8000000 in
set_option maxRecDepth 100000 in
theorem spec_idle.calls (k : Nat) (A0 : Option Addr) (c0 : Nat) (l0 : List (S49)) (a1 : Int) (r : Bool) (w : World) (hr0 : Kd.C k49 w A0 l0.length l0) (hc0 : l0.length ≤ c0) (h : spec_idle.f k l0 a1 = some r) :
  Calls Try.prog 64 #[.slice A0 l0.length c0,.int .i64 a1] w fun e w' => e = .returned (.bool r) ∧ Drawn0 w w' := by
 have HR0 := As_ hr0
 have HC0 := As_ hc0
 clear hr0 hc0
 have H : (if 0 ≤ a1 then (if a1 < (l0.length : Int) then (if ((rd_T49 l0 a1).f0) = 15 then (spec_idle.l0 k l0 a1 (wrap64 (a1 + 1))) else (some false)) else (none)) else (none)) = some r := h
 clear h
 by_cases c3 : 0 ≤ a1
 rotate_left
 ·rw [if_neg c3] at H
  exact absurd H (by simp)
 rw [if_pos c3] at H
 have c3b0 : decide (0 ≤ a1) = true := deT c3
 clear c3
 by_cases c4 : a1 < (l0.length : Int)
 rotate_left
 ·rw [if_neg c4] at H
  exact absurd H (by simp)
 rw [if_pos c4] at H
 have c4b0 : decide (a1 < (l0.length : Int)) = true := deT c4
 clear c4
 by_cases c5 : ((rd_T49 l0 a1).f0) = 15
 rotate_left
 ·rw [if_neg c5] at H
  have c5b0 : (((rd_T49 l0 a1).f0) == 15) = false := beq_eq_false_iff_ne.mpr c5
  have c5b1 : (((rd_T49 l0 a1).f0) != 15) = true := bne_iff_ne.mpr c5
  obtain rfl := Option.some.inj H
  have p492 : 0 ≤ (a1 : Int) := odT zA_
  have q492 : a1 < (l0.length : Int) := odT zA_
  obtain ⟨ad492,e492,hx492_0,hx492_1⟩ := at_T49 HR0.out a1 p492 q492
  cases e492
  replace p492 := eq_true p492
  replace q492 := eq_true q492
  go_enter Try.func64,Try.ntmps64
  go_wp2
  repeat (go_quiet (fail);try go_wp2)
  go_ret
  exact ⟨by first|rfl|(simp;done)|(simp [*];done),by repeat (first|exact Drawn0.refl _|apply Drawn0.step)⟩

 rw [if_pos c5] at H
 have c5b0 : (((rd_T49 l0 a1).f0) == 15) = true := beq_iff_eq.mpr c5
 have c5b1 : (((rd_T49 l0 a1).f0) != 15) = false := bne_eq_false_iff_eq.mpr c5
 clear c5
 have H' := As_ H
 clear H
 have p492 : 0 ≤ (a1 : Int) := odT zA_
 have q492 : a1 < (l0.length : Int) := odT zA_
 obtain ⟨ad492,e492,hx492_0,hx492_1⟩ := at_T49 HR0.out a1 p492 q492
 cases e492
 replace p492 := eq_true p492
 replace q492 := eq_true q492
 go_enter Try.func64,Try.ntmps64
 go_wp2
 repeat (go_quiet (fail);try go_wp2)
 go_loopg [5] k (fun kq v5 w' => ∃ (x5_1 : Int),v5 = .int .i64 x5_1 ∧ Aside0 (spec_idle.l0 kq l0 a1 x5_1 = some r) ∧ Aside0 (kq ≤ k) ∧ Drawn0 w w')
 case atStart => exact ⟨(wrap64 (a1 + 1)),zT_,H',⟨Nat.le_refl _⟩,by repeat (first|exact Drawn0.refl _|apply Drawn0.step)⟩
 case round =>
  clear H'
  obtain ⟨x5_1,rfl,HA,HK1,⟨m1,rfl⟩⟩ := hrel
  cases gk with
  | zero => exact absurd HA.out (fun h_ => (by cases h_))
  | succ k1 =>
   have H := HA.out
   clear HA
   simp only [spec_idle.l0] at H
   by_cases c6 : x5_1 < (l0.length : Int)
   rotate_left
   ·rw [if_neg c6] at H
    have c6b0 : decide (x5_1 < (l0.length : Int)) = false := deF c6
    clear c6
    obtain rfl := Option.some.inj H
    go_wp2
    repeat (go_quiet (fail);try go_wp2)
    go_ret
    exact ⟨by first|rfl|(simp;done)|(simp [*];done),by repeat (first|exact Drawn0.refl _|apply Drawn0.step)⟩
   rw [if_pos c6] at H
   have c6b0 : decide (x5_1 < (l0.length : Int)) = true := deT c6
   clear c6
   have HC7 := As_ H
   clear H
   go_upto_region 6 with (fail)
   repeat (go_quiet (fail);go_upto_region 6 with (fail))
   go_cut [38] (fun v38 wc => ∃ (kq : Nat) (x38_6 : Bool),v38 = .bool x38_6 ∧ Aside0 (spec_idle.j1 kq l0 a1 x5_1 x38_6 = some r) ∧ Aside0 (kq ≤ k1) ∧ Drawn0 w wc)
   case first =>
    have H := HC7.out
    clear HC7
    by_cases c8 : 0 ≤ x5_1
    rotate_left
    ·rw [if_neg c8] at H
     exact absurd H (by simp)
    rw [if_pos c8] at H
    have c8b0 : decide (0 ≤ x5_1) = true := deT c8
    clear c8
    (first|rw [c8b0]|(simp only [i64_w,i32_w];rw [c8b0])|skip)
    by_cases c9 : 0 ≤ a1
    rotate_left
    ·rw [if_neg c9] at H
     exact absurd H (by simp)
    rw [if_pos c9] at H
    have c9b0 : decide (0 ≤ a1) = true := deT c9
    clear c9
    by_cases c10 : a1 < (l0.length : Int)
    rotate_left
    ·rw [if_neg c10] at H
     exact absurd H (by simp)
    rw [if_pos c10] at H
    have c10b0 : decide (a1 < (l0.length : Int)) = true := deT c10
    clear c10
    by_cases c11 : ((rd_T49 l0 x5_1).f1) = ((rd_T49 l0 a1).f1)
    rotate_left
    ·rw [if_neg c11] at H
     have c11b0 : (((rd_T49 l0 x5_1).f1) == ((rd_T49 l0 a1).f1)) = false := beq_eq_false_iff_ne.mpr c11
     have c11b1 : (((rd_T49 l0 x5_1).f1) != ((rd_T49 l0 a1).f1)) = true := bne_iff_ne.mpr c11
     have H' := As_ H
     clear H
     have p493 : 0 ≤ (x5_1 : Int) := odT zA_
     have q493 : x5_1 < (l0.length : Int) := odT zA_
     obtain ⟨ad493,e493,hx493_0,hx493_1⟩ := at_T49 HR0.out x5_1 p493 q493
     obtain rfl : ad492 = ad493 := (by injection e493)
     replace p493 := eq_true p493
     replace q493 := eq_true q493
     have p494 : 0 ≤ (a1 : Int) := odT zA_
     have q494 : a1 < (l0.length : Int) := odT zA_
     obtain ⟨ad494,e494,hx494_0,hx494_1⟩ := at_T49 HR0.out a1 p494 q494
     obtain rfl : ad492 = ad494 := (by injection e494)
     replace p494 := eq_true p494
     replace q494 := eq_true q494
     go_wp2
     repeat (go_quiet (fail);try go_wp2)
     go_meet
     case rel => exact ⟨_,(false),zT_,H',⟨by have := HK1.out;first|omega|exact Nat.le_refl _⟩,by repeat (first|exact Drawn0.refl _|apply Drawn0.step)⟩
    rw [if_pos c11] at H
    have c11b0 : (((rd_T49 l0 x5_1).f1) == ((rd_T49 l0 a1).f1)) = true := beq_iff_eq.mpr c11
    have c11b1 : (((rd_T49 l0 x5_1).f1) != ((rd_T49 l0 a1).f1)) = false := bne_eq_false_iff_eq.mpr c11
    clear c11
    have H' := As_ H
    clear H
    have p493 : 0 ≤ (x5_1 : Int) := odT zA_
    have q493 : x5_1 < (l0.length : Int) := odT zA_
    obtain ⟨ad493,e493,hx493_0,hx493_1⟩ := at_T49 HR0.out x5_1 p493 q493
    obtain rfl : ad492 = ad493 := (by injection e493)
    replace p493 := eq_true p493
    replace q493 := eq_true q493
    have p494 : 0 ≤ (a1 : Int) := odT zA_
    have q494 : a1 < (l0.length : Int) := odT zA_
    obtain ⟨ad494,e494,hx494_0,hx494_1⟩ := at_T49 HR0.out a1 p494 q494
    obtain rfl : ad492 = ad494 := (by injection e494)
    replace p494 := eq_true p494
    replace q494 := eq_true q494
    have p495 : 0 ≤ (x5_1 : Int) := odT zA_
    have q495 : x5_1 < (l0.length : Int) := odT zA_
    obtain ⟨ad495,e495,hx495_0,hx495_1⟩ := at_T49 HR0.out x5_1 p495 q495
    obtain rfl : ad492 = ad495 := (by injection e495)
    replace p495 := eq_true p495
    replace q495 := eq_true q495
    go_wp2
    repeat (go_quiet (fail);try go_wp2)
    go_meet
    case rel => exact ⟨_,((((rd_T49 l0 x5_1).f0) == 16)),zT_,H',⟨by have := HK1.out;first|omega|exact Nat.le_refl _⟩,by repeat (first|exact Drawn0.refl _|apply Drawn0.step)⟩
   case rest =>
    clear HC7
    obtain ⟨kq,x38_6,rfl,HA,HJ6,⟨mc6,rfl⟩⟩ := hcut
    cases kq with
    | zero => exact absurd HA.out (fun h_ => (by cases h_))
    | succ kj6 =>
     have H := HA.out
     clear HA
     simp only [spec_idle.j1] at H
     by_cases c12 : x38_6 = true
     ·subst c12
      have H1 : (some false) = some r := by rw [if_pos rfl] at H;exact H
      clear H
      have H := H1
      clear H1
      obtain rfl := Option.some.inj H
      go_wp2
      repeat (go_quiet (fail);try go_wp2)
      go_ret
      exact ⟨by first|rfl|(simp;done)|(simp [*];done),by repeat (first|exact Drawn0.refl _|apply Drawn0.step)⟩
     replace c12 := Bool.eq_false_iff.mpr c12
     subst c12
     have H1 : (if 0 ≤ x5_1 then (if x5_1 < (l0.length : Int) then (if 0 ≤ a1 then (if a1 < (l0.length : Int) then (if ((rd_T49 l0 x5_1).f1) = ((rd_T49 l0 a1).f1) then (if ((rd_T49 l0 x5_1).f0) = 15 then (some true) else (spec_idle.l0 kj6 l0 a1 (wrap64 (x5_1 + 1)))) else (spec_idle.l0 kj6 l0 a1 (wrap64 (x5_1 + 1)))) else (none)) else (none)) else (none)) else (none)) = some r := by rw [if_neg (show ¬ (false = true) by decide)] at H;exact H
     clear H
     have H := H1
     clear H1
     by_cases c13 : 0 ≤ x5_1
     rotate_left
     ·rw [if_neg c13] at H
      exact absurd H (by simp)
     rw [if_pos c13] at H
     have c13b0 : decide (0 ≤ x5_1) = true := deT c13
     clear c13
     by_cases c14 : x5_1 < (l0.length : Int)
     rotate_left
     ·rw [if_neg c14] at H
      exact absurd H (by simp)
     rw [if_pos c14] at H
     have c14b0 : decide (x5_1 < (l0.length : Int)) = true := deT c14
     clear c14
     by_cases c15 : 0 ≤ a1
     rotate_left
     ·rw [if_neg c15] at H
      exact absurd H (by simp)
     rw [if_pos c15] at H
     have c15b0 : decide (0 ≤ a1) = true := deT c15
     clear c15
     by_cases c16 : a1 < (l0.length : Int)
     rotate_left
     ·rw [if_neg c16] at H
      exact absurd H (by simp)
     rw [if_pos c16] at H
     have c16b0 : decide (a1 < (l0.length : Int)) = true := deT c16
     clear c16
     by_cases c17 : ((rd_T49 l0 x5_1).f1) = ((rd_T49 l0 a1).f1)
     rotate_left
     ·rw [if_neg c17] at H
      have c17b0 : (((rd_T49 l0 x5_1).f1) == ((rd_T49 l0 a1).f1)) = false := beq_eq_false_iff_ne.mpr c17
      have c17b1 : (((rd_T49 l0 x5_1).f1) != ((rd_T49 l0 a1).f1)) = true := bne_iff_ne.mpr c17
      have H' := As_ H
      clear H
      have p496 : 0 ≤ (x5_1 : Int) := odT zA_
      have q496 : x5_1 < (l0.length : Int) := odT zA_
      obtain ⟨ad496,e496,hx496_0,hx496_1⟩ := at_T49 HR0.out x5_1 p496 q496
      obtain rfl : ad492 = ad496 := (by injection e496)
      replace p496 := eq_true p496
      replace q496 := eq_true q496
      have p497 : 0 ≤ (a1 : Int) := odT zA_
      have q497 : a1 < (l0.length : Int) := odT zA_
      obtain ⟨ad497,e497,hx497_0,hx497_1⟩ := at_T49 HR0.out a1 p497 q497
      obtain rfl : ad492 = ad497 := (by injection e497)
      replace p497 := eq_true p497
      replace q497 := eq_true q497
      go_wp2
      repeat (go_quiet (fail);try go_wp2)
      go_roundg kj6
      case measure => have := HK1.out;have := HJ6.out;omega
      case rel => exact ⟨(wrap64 (x5_1 + 1)),zT_,H',⟨by have := HK1.out;have := HJ6.out;omega⟩,by repeat (first|exact Drawn0.refl _|apply Drawn0.step)⟩
     rw [if_pos c17] at H
     have c17b0 : (((rd_T49 l0 x5_1).f1) == ((rd_T49 l0 a1).f1)) = true := beq_iff_eq.mpr c17
     have c17b1 : (((rd_T49 l0 x5_1).f1) != ((rd_T49 l0 a1).f1)) = false := bne_eq_false_iff_eq.mpr c17
     clear c17
     by_cases c18 : ((rd_T49 l0 x5_1).f0) = 15
     ·rw [if_pos c18] at H
      have c18b0 : (((rd_T49 l0 x5_1).f0) == 15) = true := beq_iff_eq.mpr c18
      have c18b1 : (((rd_T49 l0 x5_1).f0) != 15) = false := bne_eq_false_iff_eq.mpr c18
      clear c18
      obtain rfl := Option.some.inj H
      have p496 : 0 ≤ (x5_1 : Int) := odT zA_
      have q496 : x5_1 < (l0.length : Int) := odT zA_
      obtain ⟨ad496,e496,hx496_0,hx496_1⟩ := at_T49 HR0.out x5_1 p496 q496
      obtain rfl : ad492 = ad496 := (by injection e496)
      replace p496 := eq_true p496
      replace q496 := eq_true q496
      have p497 : 0 ≤ (a1 : Int) := odT zA_
      have q497 : a1 < (l0.length : Int) := odT zA_
      obtain ⟨ad497,e497,hx497_0,hx497_1⟩ := at_T49 HR0.out a1 p497 q497
      obtain rfl : ad492 = ad497 := (by injection e497)
      replace p497 := eq_true p497
      replace q497 := eq_true q497
      have p498 : 0 ≤ (x5_1 : Int) := odT zA_
      have q498 : x5_1 < (l0.length : Int) := odT zA_
      obtain ⟨ad498,e498,hx498_0,hx498_1⟩ := at_T49 HR0.out x5_1 p498 q498
      obtain rfl : ad492 = ad498 := (by injection e498)
      replace p498 := eq_true p498
      replace q498 := eq_true q498
      go_wp2
      repeat (go_quiet (fail);try go_wp2)
      go_ret
      exact ⟨by first|rfl|(simp;done)|(simp [*];done),by repeat (first|exact Drawn0.refl _|apply Drawn0.step)⟩
     rw [if_neg c18] at H
     have c18b0 : (((rd_T49 l0 x5_1).f0) == 15) = false := beq_eq_false_iff_ne.mpr c18
     have c18b1 : (((rd_T49 l0 x5_1).f0) != 15) = true := bne_iff_ne.mpr c18
     have H' := As_ H
     clear H
     have p496 : 0 ≤ (x5_1 : Int) := odT zA_
     have q496 : x5_1 < (l0.length : Int) := odT zA_
     obtain ⟨ad496,e496,hx496_0,hx496_1⟩ := at_T49 HR0.out x5_1 p496 q496
     obtain rfl : ad492 = ad496 := (by injection e496)
     replace p496 := eq_true p496
     replace q496 := eq_true q496
     have p497 : 0 ≤ (a1 : Int) := odT zA_
     have q497 : a1 < (l0.length : Int) := odT zA_
     obtain ⟨ad497,e497,hx497_0,hx497_1⟩ := at_T49 HR0.out a1 p497 q497
     obtain rfl : ad492 = ad497 := (by injection e497)
     replace p497 := eq_true p497
     replace q497 := eq_true q497
     have p498 : 0 ≤ (x5_1 : Int) := odT zA_
     have q498 : x5_1 < (l0.length : Int) := odT zA_
     obtain ⟨ad498,e498,hx498_0,hx498_1⟩ := at_T49 HR0.out x5_1 p498 q498
     obtain rfl : ad492 = ad498 := (by injection e498)
     replace p498 := eq_true p498
     replace q498 := eq_true q498
     go_wp2
     repeat (go_quiet (fail);try go_wp2)
     go_roundg kj6
     case measure => have := HK1.out;have := HJ6.out;omega
     case rel => exact ⟨(wrap64 (x5_1 + 1)),zT_,H',⟨by have := HK1.out;have := HJ6.out;omega⟩,by repeat (first|exact Drawn0.refl _|apply Drawn0.step)⟩
/-! ### impl_idlePuts: function 65 -/
mutual
def impl_idlePuts.l0 : Nat → List (S49) → List Int → List (S49) → Int → Int → Option (List Int)
 | 0,_,_,_,_,_ => none
 | k + 1,x0,x3,x10,x11,x12 => if x12 < x11 then (if 0 ≤ x12 then (if x12 < (x10.length : Int) then (if ((rd_T49 x10 x12).f0) = 15 then (if 0 ≤ (wrap64 (x12 + 1)) then (if (wrap64 (x12 + 1)) ≤ (x0.length : Int) then ((some (x0.drop ((wrap64 (x12 + 1)) : Int).toNat : List (S49))).bind fun y512 => (impl_idlePuts.l1 k x0 x3 x12 true x10 x11 x12 y512 (y512.length : Int) 0 ((rd_T49 x10 x12).f0) ((rd_T49 x10 x12).f1))) else (none)) else (none)) else (impl_idlePuts.l0 k x0 x3 x10 x11 (wrap64 (x12 + 1)))) else (none)) else (none)) else (some x3)
def impl_idlePuts.l1 : Nat → List (S49) → List Int → Int → Bool → List (S49) → Int → Int → List (S49) → Int → Int → Int → Int → Option (List Int)
 | 0,_,_,_,_,_,_,_,_,_,_,_,_ => none
 | k + 1,x0,x3,x4,x6,x10,x11,x12,x23,x24,x25,x512000,x512001 => if x25 < x24 then (if 0 ≤ x25 then (if x25 < (x23.length : Int) then (if ((rd_T49 x23 x25).f1) = x512001 then (if ((rd_T49 x23 x25).f0) = 15 then (if x3.length < 17592186044416 then (impl_idlePuts.l0 k x0 (x3 ++ [x4]) x10 x11 (wrap64 (x12 + 1))) else (none)) else (if ((rd_T49 x23 x25).f0) = 16 then (impl_idlePuts.l0 k x0 x3 x10 x11 (wrap64 (x12 + 1))) else (impl_idlePuts.l1 k x0 x3 x4 x6 x10 x11 x12 x23 x24 (wrap64 (x25 + 1)) x512000 x512001))) else (impl_idlePuts.l1 k x0 x3 x4 x6 x10 x11 x12 x23 x24 (wrap64 (x25 + 1)) x512000 x512001)) else (none)) else (none)) else (if x6 = true then (if x3.length < 17592186044416 then (impl_idlePuts.l0 k x0 (x3 ++ [x4]) x10 x11 (wrap64 (x12 + 1))) else (none)) else (impl_idlePuts.l0 k x0 x3 x10 x11 (wrap64 (x12 + 1))))
end
def impl_idlePuts.f (k : Nat) (l0 : List (S49)) : Option (List Int) := impl_idlePuts.l0 k l0 (([] : List Int)) l0 (l0.length : Int) 0
set_option maxRecDepth 100000 in
theorem impl_idlePuts.mono_l : ∀ k,(∀ y0 y1 y2 y3 y4,LeO (impl_idlePuts.l0 k y0 y1 y2 y3 y4) (impl_idlePuts.l0 (k + 1) y0 y1 y2 y3 y4)) ∧ (∀ y0 y1 y2 y3 y4 y5 y6 y7 y8 y9 y10 y11,LeO (impl_idlePuts.l1 k y0 y1 y2 y3 y4 y5 y6 y7 y8 y9 y10 y11) (impl_idlePuts.l1 (k + 1) y0 y1 y2 y3 y4 y5 y6 y7 y8 y9 y10 y11))
 | 0 => ⟨fun _ _ _ _ _ r h => (by cases h),fun _ _ _ _ _ _ _ _ _ _ _ _ r h => (by cases h)⟩
 | k + 1 => by
  obtain ⟨ih0,ih1⟩ := impl_idlePuts.mono_l k
  refine ⟨?_,?_⟩
  ·intro y0 y1 y2 y3 y4
   unfold impl_idlePuts.l0
   repeat' first
   | (with_reducible exact ih0 _ _ _ _ _)
   | (with_reducible exact ih1 _ _ _ _ _ _ _ _ _ _ _ _)
   | (with_reducible exact LeO.refl _)
   | (with_reducible exact LeO.none _)
   | (with_reducible refine LeO.ite ?_ ?_)
   | (with_reducible refine LeO.bind ?_ (fun _ => ?_))
   | exact ih0 _ _ _ _ _
   | exact ih1 _ _ _ _ _ _ _ _ _ _ _ _
   | exact LeO.none _
   | refine LeO.ite ?_ ?_
   | refine LeO.bind ?_ (fun _ => ?_)
  ·intro y0 y1 y2 y3 y4 y5 y6 y7 y8 y9 y10 y11
   unfold impl_idlePuts.l1
   repeat' first
   | (with_reducible exact ih0 _ _ _ _ _)
   | (with_reducible exact ih1 _ _ _ _ _ _ _ _ _ _ _ _)
   | (with_reducible exact LeO.refl _)
   | (with_reducible exact LeO.none _)
   | (with_reducible refine LeO.ite ?_ ?_)
   | (with_reducible refine LeO.bind ?_ (fun _ => ?_))
   | exact ih0 _ _ _ _ _
   | exact ih1 _ _ _ _ _ _ _ _ _ _ _ _
   | exact LeO.none _
   | refine LeO.ite ?_ ?_
   | refine LeO.bind ?_ (fun _ => ?_)
set_option maxRecDepth 100000 in
theorem impl_idlePuts.mono : ∀ a0 k,LeO (impl_idlePuts.f k a0) (impl_idlePuts.f (k + 1) a0) := by
 intro a0 k
 obtain ⟨ih0,ih1⟩ := impl_idlePuts.mono_l k
 unfold impl_idlePuts.f
 repeat' first
   | (with_reducible exact ih0 _ _ _ _ _)
   | (with_reducible exact ih1 _ _ _ _ _ _ _ _ _ _ _ _)
   | (with_reducible exact LeO.refl _)
   | (with_reducible exact LeO.none _)
   | (with_reducible refine LeO.ite ?_ ?_)
   | (with_reducible refine LeO.bind ?_ (fun _ => ?_))
   | exact ih0 _ _ _ _ _
   | exact ih1 _ _ _ _ _ _ _ _ _ _ _ _
   | exact LeO.none _
   | refine LeO.ite ?_ ?_
   | refine LeO.bind ?_ (fun _ => ?_)
set_option maxHeartbeats 8000000 in
set_option maxRecDepth 100000 in
theorem impl_idlePuts.calls (k : Nat) (A0 : Option Addr) (c0 : Nat) (l0 : List (S49)) (r : List Int) (w : World) (hr0 : Kd.C k49 w A0 l0.length l0) (hc0 : l0.length ≤ c0) (h : impl_idlePuts.f k l0 = some r) :
  Calls Try.prog 65 #[.slice A0 l0.length c0] w fun e w' => ∃ v0_ : Value,e = .returned (v0_) ∧ Kd.R (Kd.int .i64) 3 w' w.heap.size (fun _ => True) v0_ r ∧ Below w.heap.size w w' := by
 have hu49 := Try.underlying49
 have HR0 := As_ hr0
 have HC0 := As_ hc0
 clear hr0 hc0
 have HB := As_ (Below.refl w.heap.size w)
 have H : (impl_idlePuts.l0 k l0 (([] : List Int)) l0 (l0.length : Int) 0) = some r := h
 clear h
 obtain ⟨y507,hy507⟩ : ∃ y_ : List Int,y_ = (([] : List Int)) := ⟨_,rfl⟩
 replace H : (impl_idlePuts.l0 k l0 y507 l0 (l0.length : Int) 0) = some r := zH_ H hy507
 have Ny507 := As_ hy507
 clear hy507
 have H' := As_ H
 clear H
 go_enter Try.func65,Try.ntmps65
 go_wp2_with (first|((with_reducible refine gate_dst (N := 9) rfl ?_);refine Kd.R_lit (Kd.int .i64) _ 3 ?hg (N := 9) ?hd (xs := ([] : List Int)) (inner := []) (ok := fun _ => True) (okp := fun _ => True) ?hr ?hp (fun _ hk => hk) trivial (Below.refl _ _) (Nat.le_refl _) (by simp) ?_;(case hd => rfl);(case hg => rfl);(case hr => go_simp <;> rfl);(case hp => exact (Reps.none _ _));intro v508 w2 ho3 hb hg_ hnew_;clear hg_ hnew_;(first|rw [← Ny507.out] at ho3|(simp only [Int.reduceToNat] at ho3;rw [← Ny507.out] at ho3));have n0_ := As_ (Kd.R_lower ho3 (bwZ (zb0 HB.out)));have n1_ := As_ (bwT (zb0 HB.out) hb);clear HB;revert n0_ n1_;intro HO509 HB;clear hb ho3))
 go_loopg [3,12] k (fun kq v3 v12 w' => ∃ (x3_1 : List Int) (x12_1 : Int),v12 = .int .i64 x12_1 ∧ Aside0 (impl_idlePuts.l0 kq l0 x3_1 l0 (l0.length : Int) x12_1 = some r) ∧ Aside0 (kq ≤ k) ∧ Aside0 (Kd.R (Kd.int .i64) 3 w' w.heap.size (fun _ => True) v3 x3_1) ∧ Aside0 (Below w.heap.size w w'))
 case atStart => exact ⟨(y507),(0),zT_,H',⟨Nat.le_refl _⟩,⟨by (with_reducible repeat (first|apply Kd.R_alloc|apply Kd.R_drewN|apply Kd.R_drew));exact HO509.out⟩,⟨zb0 HB.out⟩⟩
 case round =>
  clear H'
  obtain ⟨x3_1,x12_1,rfl,HA,HK1,HO_3,HB⟩ := hrel
  cases gk with
  | zero => exact absurd HA.out (fun h_ => (by cases h_))
  | succ k1 =>
   have H := HA.out
   clear HA
   simp only [impl_idlePuts.l0] at H
   by_cases c4 : x12_1 < (l0.length : Int)
   rotate_left
   ·rw [if_neg c4] at H
    have c4b0 : decide (x12_1 < (l0.length : Int)) = false := deF c4
    clear c4
    obtain rfl := Option.some.inj H
    go_wp2
    go_ret
    exact ⟨_,zE_,by (with_reducible repeat (first|apply Kd.R_alloc|apply Kd.R_drewN|apply Kd.R_drew));exact HO_3.out,zb0 HB.out⟩

   rw [if_pos c4] at H
   have c4b0 : decide (x12_1 < (l0.length : Int)) = true := deT c4
   clear c4
   by_cases c5 : 0 ≤ x12_1
   rotate_left
   ·rw [if_neg c5] at H
    exact absurd H (by simp)
   rw [if_pos c5] at H
   have c5b0 : decide (0 ≤ x12_1) = true := deT c5
   clear c5
   by_cases c6 : x12_1 < (l0.length : Int)
   rotate_left
   ·rw [if_neg c6] at H
    exact absurd H (by simp)
   rw [if_pos c6] at H
   have c6b0 : decide (x12_1 < (l0.length : Int)) = true := deT c6
   clear c6
   by_cases c7 : ((rd_T49 l0 x12_1).f0) = 15
   rotate_left
   ·rw [if_neg c7] at H
    have c7b0 : (((rd_T49 l0 x12_1).f0) == 15) = false := beq_eq_false_iff_ne.mpr c7
    have c7b1 : (((rd_T49 l0 x12_1).f0) != 15) = true := bne_iff_ne.mpr c7
    have H' := As_ H
    clear H
    have p510 : 0 ≤ (x12_1 : Int) := odT zA_
    have q510 : x12_1 < (l0.length : Int) := odT zA_
    obtain ⟨ad510,e510,hx510_0,hx510_1⟩ := at_T49 HR0.out x12_1 p510 q510
    cases e510
    replace hx510_0 := bwC HB.out hx510_0
    replace hx510_1 := bwC HB.out hx510_1
    replace p510 := eq_true p510
    replace q510 := eq_true q510
    go_wp2_with (first|((with_reducible refine gate_dst (N := 5) rfl ?_);refine box_event ?hg (N := 5) ?hd (cs := #[.int .i64 0,.int .i64 0]) (t := 49) ?hr ?_;(case hd => rfl);(case hg => rfl);(case hr => go_simp <;> rfl);intro gb511 hg w43 hbox hb;have n0_ := As_ (Kd.R_below (zR_ HO_3.out) hb);have n1_ := As_ (bwT (zb0 HB.out) hb);have n2_ := As_ (hbox);have n3_ := As_ ((by rw [hg];exact (bwZ (zb0 HB.out)) : w.heap.size ≤ gb511));have n4_ := As_ ((by rw [hg];exact (bwZ (zb0 HB.out)) : w.heap.size ≤ gb511));clear HO_3 HB;revert n0_ n1_ n2_ n3_ n4_;intro HO_3 HB BK511 GW511 GE511;clear hb hbox hg;obtain ⟨hcz44_0,hcz44_1,hfz44_0,hfz44_1⟩ := bk2 BK511.out))
    go_roundg k1
    case measure => have := HK1.out;omega
    case rel => exact ⟨(x3_1),(wrap64 (x12_1 + 1)),zT_,H',⟨by have := HK1.out;omega⟩,⟨by (with_reducible repeat (first|apply Kd.R_alloc|apply Kd.R_drewN|apply Kd.R_drew));exact Kd.R_mono (Kd.R_far (p := ⟨gb511,1,none⟩) (Kd.R_far (p := ⟨gb511,0,none⟩) (Kd.R_types HO_3.out BK511.out (by decide)) (fun _ hk => hk.2) (.int .i64 ((rd_T49 l0 x12_1).f0))) (fun _ hk => hk.2) (.int .i64 ((rd_T49 l0 x12_1).f1))) (fun _ hk => trivial)⟩,⟨zb1 HB.out GE511.out⟩⟩
   rw [if_pos c7] at H
   have c7b0 : (((rd_T49 l0 x12_1).f0) == 15) = true := beq_iff_eq.mpr c7
   have c7b1 : (((rd_T49 l0 x12_1).f0) != 15) = false := bne_eq_false_iff_eq.mpr c7
   clear c7
   obtain ⟨ji8,hji8⟩ : ∃ j_ : Int,(wrap64 (x12_1 + 1)) = j_ := ⟨_,rfl⟩
   replace H : (if 0 ≤ (ji8) then (if (ji8) ≤ (l0.length : Int) then ((some (l0.drop ((ji8) : Int).toNat : List (S49))).bind fun y512 => (impl_idlePuts.l1 k1 l0 x3_1 x12_1 true l0 (l0.length : Int) x12_1 y512 (y512.length : Int) 0 ((rd_T49 l0 x12_1).f0) ((rd_T49 l0 x12_1).f1))) else (none)) else (none)) = some r := by first|(rw [hji8] at H;exact H)|(simp only [hji8] at H ⊢;exact H)
   have hji8w : (IntKind.i64.wrap (x12_1 + 1)) = ji8 := (i64_w _).trans hji8
   by_cases c9 : 0 ≤ (ji8)
   rotate_left
   ·rw [if_neg c9] at H
    exact absurd H (by simp)
   rw [if_pos c9] at H
   have c9b0 := eq_true c9
   have c9b1 : decide (0 ≤ (ji8)) = true := deT c9
   clear c9
   by_cases c10 : (ji8) ≤ (l0.length : Int)
   rotate_left
   ·rw [if_neg c10] at H
    exact absurd H (by simp)
   rw [if_pos c10] at H
   have c10b0 := eq_true c10
   have c10b1 : decide ((ji8) ≤ (l0.length : Int)) = true := deT c10
   clear c10
   obtain ⟨y512,hy512⟩ : ∃ y_ : List (S49),y_ = (l0.drop ((ji8) : Int).toNat) := ⟨_,rfl⟩
   replace H : (impl_idlePuts.l1 k1 l0 x3_1 x12_1 true l0 (l0.length : Int) x12_1 y512 (y512.length : Int) 0 ((rd_T49 l0 x12_1).f0) ((rd_T49 l0 x12_1).f1)) = some r := zH_ H hy512
   have Ny512 := As_ hy512
   clear hy512
   have H' := As_ H
   clear H
   have p510 : 0 ≤ (x12_1 : Int) := odT zA_
   have q510 : x12_1 < (l0.length : Int) := odT zA_
   obtain ⟨ad510,e510,hx510_0,hx510_1⟩ := at_T49 HR0.out x12_1 p510 q510
   cases e510
   replace hx510_0 := bwC HB.out hx510_0
   replace hx510_1 := bwC HB.out hx510_1
   replace p510 := eq_true p510
   replace q510 := eq_true q510
   go_wp2_with (first|((with_reducible refine gate_dst (N := 5) rfl ?_);refine box_event ?hg (N := 5) ?hd (cs := #[.int .i64 0,.int .i64 0]) (t := 49) ?hr ?_;(case hd => rfl);(case hg => rfl);(case hr => go_simp <;> rfl);intro gb511 hg w11 hbox hb;have n0_ := As_ (Kd.R_below (zR_ HO_3.out) hb);have n1_ := As_ (bwT (zb0 HB.out) hb);have n2_ := As_ (hbox);have n3_ := As_ ((by rw [hg];exact (bwZ (zb0 HB.out)) : w.heap.size ≤ gb511));have n4_ := As_ ((by rw [hg];exact (bwZ (zb0 HB.out)) : w.heap.size ≤ gb511));clear HO_3 HB;revert n0_ n1_ n2_ n3_ n4_;intro HO_3 HB BK511 GW511 GE511;clear hb hbox hg;obtain ⟨hcz12_0,hcz12_1,hfz12_0,hfz12_1⟩ := bk2 BK511.out)|((with_reducible refine gate_store (t := 49) (p := 5) rfl ?_);refine store_event (t := 49) (p := 5) (v := ?vo_w13) (w1 := ((w11.setCell ⟨gb511,0,none⟩ (.int .i64 ((rd_T49 l0 x12_1).f0))).setCell ⟨gb511,1,none⟩ (.int .i64 ((rd_T49 l0 x12_1).f1)))) ?hg ?ho ?hn ?hr ?_;(case ho => rfl);(case hg => rfl);(case hn => rfl);(case hr => go_simp <;> rfl);intro w13 hw;have n0_ : Aside0 (Kd.R (Kd.int .i64) 3 w13 w.heap.size (fun _ => True) u3 x3_1) := ⟨(by rw [hw];exact (by (with_reducible repeat (first|apply Kd.R_alloc|apply Kd.R_drewN|apply Kd.R_drew));exact Kd.R_mono (Kd.R_far (p := ⟨gb511,1,none⟩) (Kd.R_far (p := ⟨gb511,0,none⟩) (Kd.R_types HO_3.out BK511.out (by decide)) (fun _ hk => hk.2) (.int .i64 ((rd_T49 l0 x12_1).f0))) (fun _ hk => hk.2) (.int .i64 ((rd_T49 l0 x12_1).f1))) (fun _ hk => trivial)))⟩;have n1_ : Aside0 (w13.heap[gb511]? = some (.cells #[.int .i64 ((rd_T49 l0 x12_1).f0),.int .i64 ((rd_T49 l0 x12_1).f1)] 49 (0,0))) := ⟨(by rw [hw];exact (by (with_reducible repeat first|apply bkN|apply bkD|apply bkA);refine blk_put (cs := #[.int .i64 ((rd_T49 l0 x12_1).f0),.int .i64 0]) ?_ 1 _ rfl;(with_reducible repeat first|apply bkN|apply bkD|apply bkA);refine blk_put (cs := #[.int .i64 0,.int .i64 0]) ?_ 0 _ rfl;(with_reducible repeat first|apply bkN|apply bkD|apply bkA);exact BK511.out))⟩;have n2_ : Aside0 (Below w.heap.size w w13) := ⟨(by rw [hw];exact (zb1 HB.out GE511.out))⟩;clear hw HO_3 BK511 HB;revert n0_ n1_ n2_;intro HO_3 BK511 HB;obtain ⟨hcz14_0,hcz14_1,hfz14_0,hfz14_1⟩ := bk2 BK511.out;have q15 : ((ji8) : Int) ≤ ((l0.length : Int) : Int) := odT zA_;obtain ⟨i015,hi015,_,hsz15,_⟩ := info_parts info49;have hroom15 : l0.length ≤ c0 := HC0.out;have hC15 : Kd.C k49 _ (some ad510) l0.length l0 := HR0.out;have q015 : (0 : Int) ≤ ((ji8) : Int) := odT zA_;have hcut15 := cut_from (P := Try.prog) 25 49 .i64 Try.underlying25 hi015 2 hsz15 (some ad510) l0.length c0 (ji8) q015 q15;have hr15 := Kd.C_drop (m := ((ji8) : Int).toNat) (c := c0) hC15 (by omega) hroom15;obtain ⟨A15,hA15⟩ : ∃ A1,A1 = (if c0 = ((ji8) : Int).toNat then (some ad510) else ((some ad510) : Option Addr).map (·.add (((ji8) : Int).toNat * 2))) := ⟨_,rfl⟩;obtain ⟨c15,hc15⟩ : ∃ c1,c1 = c0 - ((ji8) : Int).toNat := ⟨_,rfl⟩;have hy15 : y512.length = l0.length - ((ji8) : Int).toNat := (by rw [Ny512.out,List.length_drop] <;> omega);rw [show (l0).drop ((ji8) : Int).toNat = y512 from Ny512.out.symm] at hr15;replace hr15 : Kd.C k49 _ A15 y512.length y512 := (by rw [hA15];exact hr15);rw [← hy15,← hA15,← hc15] at hcut15;have HR515 := As_ hr15;have HC515 := As_ (show y512.length ≤ c15 from by rw [hy15,hc15];exact Nat.sub_le_sub_right hroom15 _);clear hr15 hC15 hroom15 hi015 hsz15 hc15;have KY15 := As_ hy15;have KA15 := As_ hA15;clear hy15 hA15;replace q15 := eq_true q15))
   go_loopg [6,25] k1 (fun kq v6 v25 w' => ∃ (x6_2 : Bool) (x25_2 : Int),v6 = .bool x6_2 ∧ v25 = .int .i64 x25_2 ∧ Aside0 (impl_idlePuts.l1 kq l0 x3_1 x12_1 x6_2 l0 (l0.length : Int) x12_1 y512 (y512.length : Int) x25_2 ((rd_T49 l0 x12_1).f0) ((rd_T49 l0 x12_1).f1) = some r) ∧ Aside0 (kq ≤ k1) ∧ Aside0 (Kd.R (Kd.int .i64) 3 w' w.heap.size (fun _ => True) u3 x3_1) ∧ Aside0 (w'.heap[gb511]? = some (.cells #[.int .i64 ((rd_T49 l0 x12_1).f0),.int .i64 ((rd_T49 l0 x12_1).f1)] 49 (0,0))) ∧ Aside0 (Below w.heap.size w w'))
   case atStart => exact ⟨(true),(0),zT_,zT_,H',⟨Nat.le_refl _⟩,⟨by (with_reducible repeat (first|apply Kd.R_alloc|apply Kd.R_drewN|apply Kd.R_drew));exact HO_3.out⟩,⟨by (with_reducible repeat first|apply bkN|apply bkD|apply bkA);exact BK511.out⟩,⟨zb1 HB.out GE511.out⟩⟩
   case round =>
    clear H'
    obtain ⟨x6_2,x25_2,rfl,rfl,HA,HK2,HO_3,BK511,HB⟩ := hrel
    cases gk with
    | zero => exact absurd HA.out (fun h_ => (by cases h_))
    | succ k2 =>
     have H := HA.out
     clear HA
     simp only [impl_idlePuts.l1] at H
     by_cases c16 : x25_2 < (y512.length : Int)
     rotate_left
     ·rw [if_neg c16] at H
      have c16b0 : decide (x25_2 < (y512.length : Int)) = false := deF c16
      clear c16
      by_cases c40 : x6_2 = true
      rotate_left
      ·replace c40 := Bool.eq_false_iff.mpr c40
       subst c40
       have H1 : (impl_idlePuts.l0 k2 l0 x3_1 l0 (l0.length : Int) (wrap64 (x12_1 + 1))) = some r := by rw [if_neg (show ¬ (false = true) by decide)] at H;exact H
       clear H
       have H := H1
       clear H1
       have H' := As_ H
       clear H
       go_wp2
       go_roundg k2
       case measure => have := HK1.out;have := HK2.out;omega
       case rel => exact ⟨(x3_1),(wrap64 (x12_1 + 1)),zT_,H',⟨by have := HK1.out;have := HK2.out;omega⟩,⟨by (with_reducible repeat (first|apply Kd.R_alloc|apply Kd.R_drewN|apply Kd.R_drew));exact HO_3.out⟩,⟨zb1 HB.out GE511.out⟩⟩
      subst c40
      have H1 : (if x3_1.length < 17592186044416 then (impl_idlePuts.l0 k2 l0 (x3_1 ++ [x12_1]) l0 (l0.length : Int) (wrap64 (x12_1 + 1))) else (none)) = some r := by rw [if_pos rfl] at H;exact H
      clear H
      have H := H1
      clear H1
      by_cases c41 : x3_1.length < 17592186044416
      rotate_left
      ·rw [if_neg c41] at H
       exact absurd H (by simp)
      rw [if_pos c41] at H
      have LMc41 := As_ c41
      clear c41
      obtain ⟨y521,hy521⟩ : ∃ y_ : List Int,y_ = (x3_1 ++ [x12_1]) := ⟨_,rfl⟩
      replace H : (impl_idlePuts.l0 k2 l0 y521 l0 (l0.length : Int) (wrap64 (x12_1 + 1))) = some r := zH_ H hy521
      have Ny521 := As_ hy521
      clear hy521
      have H' := As_ H
      clear H
      go_wp2_with (first|((with_reducible refine gate_builtin (b := .append) (xs := #[.tmp 49,.tmp 51]) rfl ?_);at_builtin;refine Kd.R_append (Kd.int .i64) (w0 := w) w.heap.size rfl (.tmp 49) (.tmp 51) 29 3 (.int .i64 0) 8 rfl Try.underlying29 info3 rfl (by decide) (by omega) u3 x3_1 x12_1 [.int .i64 x12_1] (fun _ => True) (fun _ => False) rfl rfl ?aP (fun _ hk => hk.elim) ?aF ?aO ?aB ?aS ?aL ?_;(case aP => exact rfl);(case aB => exact (zb1 HB.out GE511.out));(case aF => exact (fun _ _ => trivial));(case aO => exact (zR_ HO_3.out));(case aS => exact (bwZ (zb1 HB.out GE511.out)));(case aL => have := LMc41.out;omega);intro v522 w42 ho hb hg hat;rw [← Ny521.out] at ho;have n0_ := As_ (blk_grown (g := gb511) (o := .cells #[.int .i64 ((rd_T49 l0 x12_1).f0),.int .i64 ((rd_T49 l0 x12_1).f1)] 49 (0,0)) (zk_ BK511.out) hg (Kd.R_ne HO_3.out BK511.out (by decide)));have n1_ := As_ (hb);have n2_ := As_ (ho);clear BK511 HB HO_3;revert n0_ n1_ n2_;intro BK511 HB HO523;clear ho hb hg hat))
      go_roundg k2
      case measure => have := HK1.out;have := HK2.out;omega
      case rel => exact ⟨(y521),(wrap64 (x12_1 + 1)),zT_,H',⟨by have := HK1.out;have := HK2.out;omega⟩,⟨by (with_reducible repeat (first|apply Kd.R_alloc|apply Kd.R_drewN|apply Kd.R_drew));exact HO523.out⟩,⟨zb1 HB.out GE511.out⟩⟩
     rw [if_pos c16] at H
     have c16b0 : decide (x25_2 < (y512.length : Int)) = true := deT c16
     clear c16
     by_cases c17 : 0 ≤ x25_2
     rotate_left
     ·rw [if_neg c17] at H
      exact absurd H (by simp)
     rw [if_pos c17] at H
     have c17b0 : decide (0 ≤ x25_2) = true := deT c17
     clear c17
     by_cases c18 : x25_2 < (y512.length : Int)
     rotate_left
     ·rw [if_neg c18] at H
      exact absurd H (by simp)
     rw [if_pos c18] at H
     have c18b0 : decide (x25_2 < (y512.length : Int)) = true := deT c18
     clear c18
     by_cases c19 : ((rd_T49 y512 x25_2).f1) = ((rd_T49 l0 x12_1).f1)
     rotate_left
     ·rw [if_neg c19] at H
      have c19b0 : (((rd_T49 y512 x25_2).f1) == ((rd_T49 l0 x12_1).f1)) = false := beq_eq_false_iff_ne.mpr c19
      have c19b1 : (((rd_T49 y512 x25_2).f1) != ((rd_T49 l0 x12_1).f1)) = true := bne_iff_ne.mpr c19
      have H' := As_ H
      clear H
      have p516 : 0 ≤ (x25_2 : Int) := odT zA_
      have q516 : x25_2 < (y512.length : Int) := odT zA_
      obtain ⟨ad516,e516,hx516_0,hx516_1⟩ := at_T49 HR515.out x25_2 p516 q516
      cases e516
      replace hx516_0 := bwC HB.out hx516_0
      replace hx516_1 := bwC HB.out hx516_1
      replace p516 := eq_true p516
      replace q516 := eq_true q516
      go_wp2_with (first|((with_reducible refine gate_dst (N := 8) rfl ?_);refine box_event ?hg (N := 8) ?hd (cs := #[.int .i64 0,.int .i64 0]) (t := 49) ?hr ?_;(case hd => rfl);(case hg => rfl);(case hr => go_simp <;> rfl);intro gb517 hg w36 hbox hb;have n0_ := As_ (Kd.R_below (zR_ HO_3.out) hb);have n1_ := As_ (zkb BK511.out hb);have n2_ := As_ (bwT (zb1 HB.out GE511.out) hb);have n3_ := As_ (hbox);have n4_ := As_ ((by rw [hg];exact (bwZ (zb1 HB.out GE511.out)) : w.heap.size ≤ gb517));have n5_ := As_ ((by rw [hg];exact (bwZ (zb1 HB.out GE511.out)) : w.heap.size ≤ gb517));have n6_ := As_ ((by rw [hg];exact Nat.ne_of_lt (zkl BK511.out) : gb511 ≠ gb517));have n7_ := As_ ((by rw [hg];exact Nat.ne_of_gt (zkl BK511.out) : gb517 ≠ gb511));clear HO_3 BK511 HB;revert n0_ n1_ n2_ n3_ n4_ n5_ n6_ n7_;intro HO_3 BK511 HB BK517 GW517 GE517 NB511_517 NB517_511;clear hb hbox hg;have hnb37 := NB517_511.out;have hnc37 := NB511_517.out;obtain ⟨hcz38_0,hcz38_1,hfz38_0,hfz38_1⟩ := bk2 BK517.out;obtain ⟨hcz39_0,hcz39_1,hfz39_0,hfz39_1⟩ := bk2 BK511.out))
      go_roundg k2
      case measure => have := HK1.out;have := HK2.out;omega
      case rel => exact ⟨(x6_2),(wrap64 (x25_2 + 1)),zT_,zT_,H',⟨by have := HK1.out;have := HK2.out;omega⟩,⟨by (with_reducible repeat (first|apply Kd.R_alloc|apply Kd.R_drewN|apply Kd.R_drew));exact Kd.R_mono (Kd.R_far (p := ⟨gb517,1,none⟩) (Kd.R_far (p := ⟨gb517,0,none⟩) (Kd.R_types HO_3.out BK517.out (by decide)) (fun _ hk => hk.2) (.int .i64 ((rd_T49 y512 x25_2).f0))) (fun _ hk => hk.2) (.int .i64 ((rd_T49 y512 x25_2).f1))) (fun _ hk => trivial)⟩,⟨by (with_reducible repeat first|apply bkN|apply bkD|apply bkA);refine blk_far ?_ NB511_517.out _;(with_reducible repeat first|apply bkN|apply bkD|apply bkA);refine blk_far ?_ NB511_517.out _;(with_reducible repeat first|apply bkN|apply bkD|apply bkA);exact BK511.out⟩,⟨zb2 HB.out GE511.out GE517.out⟩⟩
     rw [if_pos c19] at H
     have c19b0 : (((rd_T49 y512 x25_2).f1) == ((rd_T49 l0 x12_1).f1)) = true := beq_iff_eq.mpr c19
     have c19b1 : (((rd_T49 y512 x25_2).f1) != ((rd_T49 l0 x12_1).f1)) = false := bne_eq_false_iff_eq.mpr c19
     clear c19
     by_cases c20 : ((rd_T49 y512 x25_2).f0) = 15
     ·rw [if_pos c20] at H
      have c20b0 : (((rd_T49 y512 x25_2).f0) == 15) = true := beq_iff_eq.mpr c20
      have c20b1 : (((rd_T49 y512 x25_2).f0) != 15) = false := bne_eq_false_iff_eq.mpr c20
      clear c20
      by_cases c21 : x3_1.length < 17592186044416
      rotate_left
      ·rw [if_neg c21] at H
       exact absurd H (by simp)
      rw [if_pos c21] at H
      have LMc21 := As_ c21
      clear c21
      obtain ⟨y518,hy518⟩ : ∃ y_ : List Int,y_ = (x3_1 ++ [x12_1]) := ⟨_,rfl⟩
      replace H : (impl_idlePuts.l0 k2 l0 y518 l0 (l0.length : Int) (wrap64 (x12_1 + 1))) = some r := zH_ H hy518
      have Ny518 := As_ hy518
      clear hy518
      have H' := As_ H
      clear H
      have p516 : 0 ≤ (x25_2 : Int) := odT zA_
      have q516 : x25_2 < (y512.length : Int) := odT zA_
      obtain ⟨ad516,e516,hx516_0,hx516_1⟩ := at_T49 HR515.out x25_2 p516 q516
      cases e516
      replace hx516_0 := bwC HB.out hx516_0
      replace hx516_1 := bwC HB.out hx516_1
      replace p516 := eq_true p516
      replace q516 := eq_true q516
      go_wp2_with (first|((with_reducible refine gate_dst (N := 8) rfl ?_);refine box_event ?hg (N := 8) ?hd (cs := #[.int .i64 0,.int .i64 0]) (t := 49) ?hr ?_;(case hd => rfl);(case hg => rfl);(case hr => go_simp <;> rfl);intro gb517 hg w22 hbox hb;have n0_ := As_ (Kd.R_below (zR_ HO_3.out) hb);have n1_ := As_ (zkb BK511.out hb);have n2_ := As_ (bwT (zb1 HB.out GE511.out) hb);have n3_ := As_ (hbox);have n4_ := As_ ((by rw [hg];exact (bwZ (zb1 HB.out GE511.out)) : w.heap.size ≤ gb517));have n5_ := As_ ((by rw [hg];exact (bwZ (zb1 HB.out GE511.out)) : w.heap.size ≤ gb517));have n6_ := As_ ((by rw [hg];exact Nat.ne_of_lt (zkl BK511.out) : gb511 ≠ gb517));have n7_ := As_ ((by rw [hg];exact Nat.ne_of_gt (zkl BK511.out) : gb517 ≠ gb511));clear HO_3 BK511 HB;revert n0_ n1_ n2_ n3_ n4_ n5_ n6_ n7_;intro HO_3 BK511 HB BK517 GW517 GE517 NB511_517 NB517_511;clear hb hbox hg;have hnb23 := NB517_511.out;have hnc23 := NB511_517.out;obtain ⟨hcz24_0,hcz24_1,hfz24_0,hfz24_1⟩ := bk2 BK517.out;obtain ⟨hcz25_0,hcz25_1,hfz25_0,hfz25_1⟩ := bk2 BK511.out)|((with_reducible refine gate_builtin (b := .append) (xs := #[.tmp 49,.tmp 51]) rfl ?_);at_builtin;refine Kd.R_append (Kd.int .i64) (w0 := w) w.heap.size rfl (.tmp 49) (.tmp 51) 29 3 (.int .i64 0) 8 rfl Try.underlying29 info3 rfl (by decide) (by omega) u3 x3_1 x12_1 [.int .i64 x12_1] (fun _ => True) (fun _ => False) rfl (by go_simp <;> rfl) ?aP (fun _ hk => hk.elim) ?aF ?aO ?aB ?aS ?aL ?_;(case aP => exact rfl);(case aB => exact (zb2 HB.out GE511.out GE517.out));(case aF => exact (fun _ _ => trivial));(case aO => exact (by (with_reducible repeat (first|apply Kd.R_alloc|apply Kd.R_drewN|apply Kd.R_drew));exact Kd.R_mono (Kd.R_far (p := ⟨gb517,1,none⟩) (Kd.R_far (p := ⟨gb517,0,none⟩) (Kd.R_types HO_3.out BK517.out (by decide)) (fun _ hk => hk.2) (.int .i64 ((rd_T49 y512 x25_2).f0))) (fun _ hk => hk.2) (.int .i64 ((rd_T49 y512 x25_2).f1))) (fun _ hk => trivial)));(case aS => exact (bwZ (zb2 HB.out GE511.out GE517.out)));(case aL => have := LMc21.out;omega);intro v519 w26 ho hb hg hat;rw [← Ny518.out] at ho;have n0_ := As_ (blk_grown (g := gb511) (o := .cells #[.int .i64 ((rd_T49 l0 x12_1).f0),.int .i64 ((rd_T49 l0 x12_1).f1)] 49 (0,0)) (by (with_reducible repeat first|apply bkN|apply bkD|apply bkA);refine blk_far ?_ NB511_517.out _;(with_reducible repeat first|apply bkN|apply bkD|apply bkA);refine blk_far ?_ NB511_517.out _;(with_reducible repeat first|apply bkN|apply bkD|apply bkA);exact BK511.out) hg (Kd.R_ne HO_3.out BK511.out (by decide)));have n1_ := As_ (blk_grown (g := gb517) (o := .cells #[.int .i64 ((rd_T49 y512 x25_2).f0),.int .i64 ((rd_T49 y512 x25_2).f1)] 49 (0,0)) (by (with_reducible repeat first|apply bkN|apply bkD|apply bkA);refine blk_put (cs := #[.int .i64 ((rd_T49 y512 x25_2).f0),.int .i64 0]) ?_ 1 _ rfl;(with_reducible repeat first|apply bkN|apply bkD|apply bkA);refine blk_put (cs := #[.int .i64 0,.int .i64 0]) ?_ 0 _ rfl;(with_reducible repeat first|apply bkN|apply bkD|apply bkA);exact BK517.out) hg (Kd.R_ne HO_3.out BK517.out (by decide)));have n2_ := As_ (hb);have n3_ := As_ (ho);clear BK511 BK517 HB HO_3;revert n0_ n1_ n2_ n3_;intro BK511 BK517 HB HO520;clear ho hb hg hat))
      go_roundg k2
      case measure => have := HK1.out;have := HK2.out;omega
      case rel => exact ⟨(y518),(wrap64 (x12_1 + 1)),zT_,H',⟨by have := HK1.out;have := HK2.out;omega⟩,⟨by (with_reducible repeat (first|apply Kd.R_alloc|apply Kd.R_drewN|apply Kd.R_drew));exact HO520.out⟩,⟨zb2 HB.out GE511.out GE517.out⟩⟩
     rw [if_neg c20] at H
     have c20b0 : (((rd_T49 y512 x25_2).f0) == 15) = false := beq_eq_false_iff_ne.mpr c20
     have c20b1 : (((rd_T49 y512 x25_2).f0) != 15) = true := bne_iff_ne.mpr c20
     by_cases c27 : ((rd_T49 y512 x25_2).f0) = 16
     rotate_left
     ·rw [if_neg c27] at H
      have c27b0 : (((rd_T49 y512 x25_2).f0) == 16) = false := beq_eq_false_iff_ne.mpr c27
      have c27b1 : (((rd_T49 y512 x25_2).f0) != 16) = true := bne_iff_ne.mpr c27
      have H' := As_ H
      clear H
      have p516 : 0 ≤ (x25_2 : Int) := odT zA_
      have q516 : x25_2 < (y512.length : Int) := odT zA_
      obtain ⟨ad516,e516,hx516_0,hx516_1⟩ := at_T49 HR515.out x25_2 p516 q516
      cases e516
      replace hx516_0 := bwC HB.out hx516_0
      replace hx516_1 := bwC HB.out hx516_1
      replace p516 := eq_true p516
      replace q516 := eq_true q516
      go_wp2_with (first|((with_reducible refine gate_dst (N := 8) rfl ?_);refine box_event ?hg (N := 8) ?hd (cs := #[.int .i64 0,.int .i64 0]) (t := 49) ?hr ?_;(case hd => rfl);(case hg => rfl);(case hr => go_simp <;> rfl);intro gb517 hg w32 hbox hb;have n0_ := As_ (Kd.R_below (zR_ HO_3.out) hb);have n1_ := As_ (zkb BK511.out hb);have n2_ := As_ (bwT (zb1 HB.out GE511.out) hb);have n3_ := As_ (hbox);have n4_ := As_ ((by rw [hg];exact (bwZ (zb1 HB.out GE511.out)) : w.heap.size ≤ gb517));have n5_ := As_ ((by rw [hg];exact (bwZ (zb1 HB.out GE511.out)) : w.heap.size ≤ gb517));have n6_ := As_ ((by rw [hg];exact Nat.ne_of_lt (zkl BK511.out) : gb511 ≠ gb517));have n7_ := As_ ((by rw [hg];exact Nat.ne_of_gt (zkl BK511.out) : gb517 ≠ gb511));clear HO_3 BK511 HB;revert n0_ n1_ n2_ n3_ n4_ n5_ n6_ n7_;intro HO_3 BK511 HB BK517 GW517 GE517 NB511_517 NB517_511;clear hb hbox hg;have hnb33 := NB517_511.out;have hnc33 := NB511_517.out;obtain ⟨hcz34_0,hcz34_1,hfz34_0,hfz34_1⟩ := bk2 BK517.out;obtain ⟨hcz35_0,hcz35_1,hfz35_0,hfz35_1⟩ := bk2 BK511.out))
      go_roundg k2
      case measure => have := HK1.out;have := HK2.out;omega
      case rel => exact ⟨(x6_2),(wrap64 (x25_2 + 1)),zT_,zT_,H',⟨by have := HK1.out;have := HK2.out;omega⟩,⟨by (with_reducible repeat (first|apply Kd.R_alloc|apply Kd.R_drewN|apply Kd.R_drew));exact Kd.R_mono (Kd.R_far (p := ⟨gb517,1,none⟩) (Kd.R_far (p := ⟨gb517,0,none⟩) (Kd.R_types HO_3.out BK517.out (by decide)) (fun _ hk => hk.2) (.int .i64 ((rd_T49 y512 x25_2).f0))) (fun _ hk => hk.2) (.int .i64 ((rd_T49 y512 x25_2).f1))) (fun _ hk => trivial)⟩,⟨by (with_reducible repeat first|apply bkN|apply bkD|apply bkA);refine blk_far ?_ NB511_517.out _;(with_reducible repeat first|apply bkN|apply bkD|apply bkA);refine blk_far ?_ NB511_517.out _;(with_reducible repeat first|apply bkN|apply bkD|apply bkA);exact BK511.out⟩,⟨zb2 HB.out GE511.out GE517.out⟩⟩
     rw [if_pos c27] at H
     have c27b0 : (((rd_T49 y512 x25_2).f0) == 16) = true := beq_iff_eq.mpr c27
     have c27b1 : (((rd_T49 y512 x25_2).f0) != 16) = false := bne_eq_false_iff_eq.mpr c27
     clear c27
     have H' := As_ H
     clear H
     have p516 : 0 ≤ (x25_2 : Int) := odT zA_
     have q516 : x25_2 < (y512.length : Int) := odT zA_
     obtain ⟨ad516,e516,hx516_0,hx516_1⟩ := at_T49 HR515.out x25_2 p516 q516
     cases e516
     replace hx516_0 := bwC HB.out hx516_0
     replace hx516_1 := bwC HB.out hx516_1
     replace p516 := eq_true p516
     replace q516 := eq_true q516
     go_wp2_with (first|((with_reducible refine gate_dst (N := 8) rfl ?_);refine box_event ?hg (N := 8) ?hd (cs := #[.int .i64 0,.int .i64 0]) (t := 49) ?hr ?_;(case hd => rfl);(case hg => rfl);(case hr => go_simp <;> rfl);intro gb517 hg w28 hbox hb;have n0_ := As_ (Kd.R_below (zR_ HO_3.out) hb);have n1_ := As_ (zkb BK511.out hb);have n2_ := As_ (bwT (zb1 HB.out GE511.out) hb);have n3_ := As_ (hbox);have n4_ := As_ ((by rw [hg];exact (bwZ (zb1 HB.out GE511.out)) : w.heap.size ≤ gb517));have n5_ := As_ ((by rw [hg];exact (bwZ (zb1 HB.out GE511.out)) : w.heap.size ≤ gb517));have n6_ := As_ ((by rw [hg];exact Nat.ne_of_lt (zkl BK511.out) : gb511 ≠ gb517));have n7_ := As_ ((by rw [hg];exact Nat.ne_of_gt (zkl BK511.out) : gb517 ≠ gb511));clear HO_3 BK511 HB;revert n0_ n1_ n2_ n3_ n4_ n5_ n6_ n7_;intro HO_3 BK511 HB BK517 GW517 GE517 NB511_517 NB517_511;clear hb hbox hg;have hnb29 := NB517_511.out;have hnc29 := NB511_517.out;obtain ⟨hcz30_0,hcz30_1,hfz30_0,hfz30_1⟩ := bk2 BK517.out;obtain ⟨hcz31_0,hcz31_1,hfz31_0,hfz31_1⟩ := bk2 BK511.out))
     go_roundg k2
     case measure => have := HK1.out;have := HK2.out;omega
     case rel => exact ⟨(x3_1),(wrap64 (x12_1 + 1)),zT_,H',⟨by have := HK1.out;have := HK2.out;omega⟩,⟨by (with_reducible repeat (first|apply Kd.R_alloc|apply Kd.R_drewN|apply Kd.R_drew));exact Kd.R_mono (Kd.R_far (p := ⟨gb517,1,none⟩) (Kd.R_far (p := ⟨gb517,0,none⟩) (Kd.R_types HO_3.out BK517.out (by decide)) (fun _ hk => hk.2) (.int .i64 ((rd_T49 y512 x25_2).f0))) (fun _ hk => hk.2) (.int .i64 ((rd_T49 y512 x25_2).f1))) (fun _ hk => trivial)⟩,⟨zb2 HB.out GE511.out GE517.out⟩⟩
end Go.Proofs.Ytonppkaobnfldaa.Q
