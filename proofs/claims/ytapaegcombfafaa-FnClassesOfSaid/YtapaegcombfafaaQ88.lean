-- Written by wip/tools/qprint.py (a program of this claim's author) by means of the kit's printer.
import Derived.Test.YtapaegcombfafaaQ0
namespace Go.Proofs.Ytapaegcombfafaa.Q
open Go.RowKit Go.Proofs.YtapaegcombfafaaW.PrintWords Go.Proofs.YtapaegcombfafaaW.PrintLast Go.Proofs.YtapaegcombfafaaW.PrintMore
attribute [local go_sem] max2_int min2_int max_two min_two max_three min_three max_four min_four   -- for this text's walks alone
set_option linter.unusedVariables false
set_option linter.unusedSimpArgs false

/-! ### impl_classes_1: function 88 -/
def impl_classes_1.f (a0 : Int) (a1 : Int) (l2 : List Int) : Option (Bool) := if 0 ≤ a0 then (if a0 < (l2.length : Int) then (if 0 ≤ a1 then (if a1 < (l2.length : Int) then (some ((rd l2 a0) == (rd l2 a1))) else (none)) else (none)) else (none)) else (none)
set_option maxHeartbeats 8000000 in
set_option maxRecDepth 100000 in
theorem impl_classes_1.calls (a0 : Int) (a1 : Int) (A2 : Option Addr) (c2 : Nat) (l2 : List Int) (r : Bool) (w : World) (hr2 : Kd.C (Kd.int .i64) w A2 l2.length l2) (hc2 : l2.length ≤ c2) (h : impl_classes_1.f a0 a1 l2 = some r) {g : Nat} (hbox : w.heap[g]? = some (.cells #[.slice A2 l2.length c2] 26 (0,0))) :
  Calls Try.prog 88 #[.int .i64 a0,.int .i64 a1,.pointer (some ⟨g,0,none⟩)] w fun e w' => e = .returned (.bool r) ∧ Drawn0 w w' := by
 have HR2 := As_ hr2
 have HC2 := As_ hc2
 clear hr2 hc2
 have hczb : w.cell? ⟨g,0,none⟩ = some (.slice A2 l2.length c2) := (bkC hbox 0).trans rfl
 have hfzb := bkF hbox 0
 clear hbox
 have H : (if 0 ≤ a0 then (if a0 < (l2.length : Int) then (if 0 ≤ a1 then (if a1 < (l2.length : Int) then (some ((rd l2 a0) == (rd l2 a1))) else (none)) else (none)) else (none)) else (none)) = some r := h
 clear h
 by_cases c4 : 0 ≤ a0
 rotate_left
 ·rw [if_neg c4] at H
  exact absurd H (by simp)
 rw [if_pos c4] at H
 have c4b0 : decide (0 ≤ a0) = true := deT c4
 clear c4
 by_cases c5 : a0 < (l2.length : Int)
 rotate_left
 ·rw [if_neg c5] at H
  exact absurd H (by simp)
 rw [if_pos c5] at H
 have c5b0 : decide (a0 < (l2.length : Int)) = true := deT c5
 clear c5
 by_cases c6 : 0 ≤ a1
 rotate_left
 ·rw [if_neg c6] at H
  exact absurd H (by simp)
 rw [if_pos c6] at H
 have c6b0 : decide (0 ≤ a1) = true := deT c6
 clear c6
 by_cases c7 : a1 < (l2.length : Int)
 rotate_left
 ·rw [if_neg c7] at H
  exact absurd H (by simp)
 rw [if_pos c7] at H
 have c7b0 : decide (a1 < (l2.length : Int)) = true := deT c7
 clear c7
 obtain rfl := Option.some.inj H
 have p661 : 0 ≤ (a0 : Int) := odT zA_
 have q661 : a0 < (l2.length : Int) := odT zA_
 obtain ⟨ad661,e661,hx661_0⟩ := Kd.at_int HR2.out a0 p661 q661
 cases e661
 replace p661 := eq_true p661
 replace q661 := eq_true q661
 have p662 : 0 ≤ (a1 : Int) := odT zA_
 have q662 : a1 < (l2.length : Int) := odT zA_
 obtain ⟨ad662,e662,hx662_0⟩ := Kd.at_int HR2.out a1 p662 q662
 obtain rfl : ad661 = ad662 := (by injection e662)
 replace p662 := eq_true p662
 replace q662 := eq_true q662
 go_enter Try.func88,Try.ntmps88
 go_wp2
 repeat (go_quiet (fail);try go_wp2)
 go_ret
 exact ⟨by first|rfl|(simp;done)|(simp [*];done),by repeat (first|exact Drawn0.refl _|apply Drawn0.step)⟩

/-! ### slices_EqualFunc_int_int_int_int: function 87 -/
def slices_EqualFunc_int_int_int_int.l0 : Nat → List Int → List Int → List Int → Int → Int → Option (Bool)
 | 0,_,_,_,_,_ => none
 | k + 1,x1,x2,x15,x16,x17 => if x17 < x16 then (if 0 ≤ x17 then (if x17 < (x15.length : Int) then (if x17 < (x1.length : Int) then ((impl_classes_1.f (rd x15 x17) (rd x1 x17) x2).bind fun t665 => (if t665 = true then (slices_EqualFunc_int_int_int_int.l0 k x1 x2 x15 x16 (wrap64 (x17 + 1))) else (some false))) else (none)) else (none)) else (none)) else (some true)
def slices_EqualFunc_int_int_int_int.f (k : Nat) (l0 : List Int) (l1 : List Int) (l2 : List Int) : Option (Bool) := if (l0.length : Int) = (l1.length : Int) then (slices_EqualFunc_int_int_int_int.l0 k l1 l2 l0 (l0.length : Int) 0) else (some false)
set_option maxRecDepth 100000 in
theorem slices_EqualFunc_int_int_int_int.mono_l : ∀ k,(∀ y0 y1 y2 y3 y4,LeO (slices_EqualFunc_int_int_int_int.l0 k y0 y1 y2 y3 y4) (slices_EqualFunc_int_int_int_int.l0 (k + 1) y0 y1 y2 y3 y4))
 | 0 => fun _ _ _ _ _ r h => (by cases h)
 | k + 1 => by
  have ih0 := slices_EqualFunc_int_int_int_int.mono_l k
  ·intro y0 y1 y2 y3 y4
   unfold slices_EqualFunc_int_int_int_int.l0
   repeat' first
   | (with_reducible exact ih0 _ _ _ _ _)
   | (with_reducible exact LeO.refl _)
   | (with_reducible exact LeO.none _)
   | (with_reducible refine LeO.ite ?_ ?_)
   | (with_reducible refine LeO.bind ?_ (fun _ => ?_))
   | exact ih0 _ _ _ _ _
   | exact LeO.none _
   | refine LeO.ite ?_ ?_
   | refine LeO.bind ?_ (fun _ => ?_)
set_option maxRecDepth 100000 in
theorem slices_EqualFunc_int_int_int_int.mono : ∀ a0 a1 a2 k,LeO (slices_EqualFunc_int_int_int_int.f k a0 a1 a2) (slices_EqualFunc_int_int_int_int.f (k + 1) a0 a1 a2) := by
 intro a0 a1 a2 k
 have ih0 := slices_EqualFunc_int_int_int_int.mono_l k
 unfold slices_EqualFunc_int_int_int_int.f
 repeat' first
   | (with_reducible exact ih0 _ _ _ _ _)
   | (with_reducible exact LeO.refl _)
   | (with_reducible exact LeO.none _)
   | (with_reducible refine LeO.ite ?_ ?_)
   | (with_reducible refine LeO.bind ?_ (fun _ => ?_))
   | exact ih0 _ _ _ _ _
   | exact LeO.none _
   | refine LeO.ite ?_ ?_
   | refine LeO.bind ?_ (fun _ => ?_)
set_option maxHeartbeats 8000000 in
set_option maxRecDepth 100000 in
theorem slices_EqualFunc_int_int_int_int.calls (k : Nat) (A0 : Option Addr) (c0 : Nat) (l0 : List Int) (A1 : Option Addr) (c1 : Nat) (l1 : List Int) (A2 : Option Addr) (c2 : Nat) (l2 : List Int) (r : Bool) (w : World) (hr0 : Kd.C (Kd.int .i64) w A0 l0.length l0) (hc0 : l0.length ≤ c0) (hr1 : Kd.C (Kd.int .i64) w A1 l1.length l1) (hc1 : l1.length ≤ c1) (hr2 : Kd.C (Kd.int .i64) w A2 l2.length l2) (hc2 : l2.length ≤ c2) (h : slices_EqualFunc_int_int_int_int.f k l0 l1 l2 = some r) {g : Nat} (hbox : w.heap[g]? = some (.cells #[.slice A2 l2.length c2] 26 (0,0))) :
  Calls Try.prog 87 #[.slice A0 l0.length c0,.slice A1 l1.length c1,.func (.func 88) #[] #[.pointer (some ⟨g,0,none⟩)]] w fun e w' => e = .returned (.bool r) ∧ Drawn0 w w' := by
 have HR0 := As_ hr0
 have HC0 := As_ hc0
 clear hr0 hc0
 have HR1 := As_ hr1
 have HC1 := As_ hc1
 clear hr1 hc1
 have HR2 := As_ hr2
 have HC2 := As_ hc2
 clear hr2 hc2
 have BK := As_ hbox
 clear hbox
 have H : (if (l0.length : Int) = (l1.length : Int) then (slices_EqualFunc_int_int_int_int.l0 k l1 l2 l0 (l0.length : Int) 0) else (some false)) = some r := h
 clear h
 by_cases c4 : (l0.length : Int) = (l1.length : Int)
 rotate_left
 ·rw [if_neg c4] at H
  have c4b0 : ((l0.length : Int) == (l1.length : Int)) = false := beq_eq_false_iff_ne.mpr c4
  have c4b1 : ((l0.length : Int) != (l1.length : Int)) = true := bne_iff_ne.mpr c4
  have c4b2 : (l0.length == l1.length) = false := by first|simpa using c4|(simp at c4 ⊢;omega)
  obtain rfl := Option.some.inj H
  go_enter Try.func87,Try.ntmps87
  go_wp2
  go_ret
  exact ⟨by first|rfl|(simp;done)|(simp [*];done),by repeat (first|exact Drawn0.refl _|apply Drawn0.step)⟩

 rw [if_pos c4] at H
 have c4b0 : ((l0.length : Int) == (l1.length : Int)) = true := beq_iff_eq.mpr c4
 have c4b1 : ((l0.length : Int) != (l1.length : Int)) = false := bne_eq_false_iff_eq.mpr c4
 have c4b2 : (l0.length == l1.length) = true := by first|simpa using c4|(simp at c4 ⊢;omega)
 clear c4
 have H' := As_ H
 clear H
 go_enter Try.func87,Try.ntmps87
 go_wp2
 go_loopg [17] k (fun kq v17 w' => ∃ (x17_1 : Int),v17 = .int .i64 x17_1 ∧ Aside0 (slices_EqualFunc_int_int_int_int.l0 kq l1 l2 l0 (l0.length : Int) x17_1 = some r) ∧ Aside0 (kq ≤ k) ∧ Drawn0 w w')
 case atStart => exact ⟨(0),zT_,H',⟨Nat.le_refl _⟩,by repeat (first|exact Drawn0.refl _|apply Drawn0.step)⟩
 case round =>
  clear H'
  obtain ⟨x17_1,rfl,HA,HK1,⟨m1,rfl⟩⟩ := hrel
  cases gk with
  | zero => exact absurd HA.out (fun h_ => (by cases h_))
  | succ k1 =>
   have H := HA.out
   clear HA
   simp only [slices_EqualFunc_int_int_int_int.l0] at H
   by_cases c5 : x17_1 < (l0.length : Int)
   rotate_left
   ·rw [if_neg c5] at H
    have c5b0 : decide (x17_1 < (l0.length : Int)) = false := deF c5
    clear c5
    obtain rfl := Option.some.inj H
    go_wp2
    go_ret
    exact ⟨by first|rfl|(simp;done)|(simp [*];done),by repeat (first|exact Drawn0.refl _|apply Drawn0.step)⟩
   rw [if_pos c5] at H
   have c5b0 : decide (x17_1 < (l0.length : Int)) = true := deT c5
   clear c5
   by_cases c6 : 0 ≤ x17_1
   rotate_left
   ·rw [if_neg c6] at H
    exact absurd H (by simp)
   rw [if_pos c6] at H
   have c6b0 : decide (0 ≤ x17_1) = true := deT c6
   clear c6
   by_cases c7 : x17_1 < (l0.length : Int)
   rotate_left
   ·rw [if_neg c7] at H
    exact absurd H (by simp)
   rw [if_pos c7] at H
   have c7b0 : decide (x17_1 < (l0.length : Int)) = true := deT c7
   clear c7
   by_cases c8 : x17_1 < (l1.length : Int)
   rotate_left
   ·rw [if_neg c8] at H
    exact absurd H (by simp)
   rw [if_pos c8] at H
   have c8b0 : decide (x17_1 < (l1.length : Int)) = true := deT c8
   clear c8
   replace H := obS H
   obtain ⟨t665,A90,H⟩ := H
   replace H : (if t665 = true then (slices_EqualFunc_int_int_int_int.l0 k1 l1 l2 l0 (l0.length : Int) (wrap64 (x17_1 + 1))) else (some false)) = some r := H
   have A9 := As_ A90
   clear A90
   by_cases c10 : t665 = true
   rotate_left
   ·replace c10 := Bool.eq_false_iff.mpr c10
    subst c10
    have H1 : (some false) = some r := by rw [if_neg (show ¬ (false = true) by decide)] at H;exact H
    clear H
    have H := H1
    clear H1
    obtain rfl := Option.some.inj H
    have p663 : 0 ≤ (x17_1 : Int) := odT zA_
    have q663 : x17_1 < (l0.length : Int) := odT zA_
    obtain ⟨ad663,e663,hx663_0⟩ := Kd.at_int HR0.out x17_1 p663 q663
    cases e663
    replace p663 := eq_true p663
    replace q663 := eq_true q663
    have p664 : 0 ≤ (x17_1 : Int) := odT zA_
    have q664 : x17_1 < (l1.length : Int) := odT zA_
    obtain ⟨ad664,e664,hx664_0⟩ := Kd.at_int HR1.out x17_1 p664 q664
    cases e664
    replace p664 := eq_true p664
    replace q664 := eq_true q664
    go_wp2_with (first|(go_at_call 88;(with_reducible refine (impl_classes_1.calls (rd l0 x17_1) (rd l1 x17_1) _ _ l2 false _ ?side1 ?side2 A9.out (by (with_reducible repeat (first|refine bkN ?_ _|refine bkD ?_));exact BK.out)).mono ?_);(case side1 => repeat (first|exact HR2.out|(with_reducible refine Kd.C_alloc ?_ _)|(with_reducible refine Kd.C_drewN ?_ _)|(with_reducible refine Kd.C_drew ?_)));(case side2 => exact HC2.out);rintro e w' ⟨rfl,⟨nd,rfl⟩⟩;skip))
    go_ret
    exact ⟨by first|rfl|(simp;done)|(simp [*];done),by repeat (first|exact Drawn0.refl _|apply Drawn0.step)⟩
   subst c10
   have H1 : (slices_EqualFunc_int_int_int_int.l0 k1 l1 l2 l0 (l0.length : Int) (wrap64 (x17_1 + 1))) = some r := by rw [if_pos rfl] at H;exact H
   clear H
   have H := H1
   clear H1
   have H' := As_ H
   clear H
   have p663 : 0 ≤ (x17_1 : Int) := odT zA_
   have q663 : x17_1 < (l0.length : Int) := odT zA_
   obtain ⟨ad663,e663,hx663_0⟩ := Kd.at_int HR0.out x17_1 p663 q663
   cases e663
   replace p663 := eq_true p663
   replace q663 := eq_true q663
   have p664 : 0 ≤ (x17_1 : Int) := odT zA_
   have q664 : x17_1 < (l1.length : Int) := odT zA_
   obtain ⟨ad664,e664,hx664_0⟩ := Kd.at_int HR1.out x17_1 p664 q664
   cases e664
   replace p664 := eq_true p664
   replace q664 := eq_true q664
   go_wp2_with (first|(go_at_call 88;(with_reducible refine (impl_classes_1.calls (rd l0 x17_1) (rd l1 x17_1) _ _ l2 true _ ?side1 ?side2 A9.out (by (with_reducible repeat (first|refine bkN ?_ _|refine bkD ?_));exact BK.out)).mono ?_);(case side1 => repeat (first|exact HR2.out|(with_reducible refine Kd.C_alloc ?_ _)|(with_reducible refine Kd.C_drewN ?_ _)|(with_reducible refine Kd.C_drew ?_)));(case side2 => exact HC2.out);rintro e w' ⟨rfl,⟨nd,rfl⟩⟩;skip))
   go_roundg k1
   case measure => have := HK1.out;omega
   case rel => exact ⟨(wrap64 (x17_1 + 1)),zT_,H',⟨by have := HK1.out;omega⟩,by repeat (first|exact Drawn0.refl _|apply Drawn0.step)⟩
end Go.Proofs.Ytapaegcombfafaa.Q
