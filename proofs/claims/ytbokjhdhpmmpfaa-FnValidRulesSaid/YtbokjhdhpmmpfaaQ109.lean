-- Written by wip/tools/qprint.py (a program of this claim's author) by means of the kit's printer.
import Derived.Test.YtbokjhdhpmmpfaaQ0
import Derived.Test.YtbokjhdhpmmpfaaQ55
import Derived.Test.YtbokjhdhpmmpfaaQ118
namespace Go.Proofs.Ytbokjhdhpmmpfaa.Q
open Go.RowKit Go.Proofs.YtbokjhdhpmmpfaaW.PrintWords Go.Proofs.YtbokjhdhpmmpfaaW.PrintLast Go.Proofs.YtbokjhdhpmmpfaaW.PrintMore
attribute [local go_sem] max2_int min2_int max_two min_two max_three min_three max_four min_four   -- for this text's walks alone
set_option linter.unusedVariables false
set_option linter.unusedSimpArgs false

/-! ### spec_EndOps: function 109 -/
mutual
def spec_EndOps.l0 : Nat → List (S75) → Int → List (S75) → Int → Int → List Int → List Bool → List Int → List Int → Bool → Option ((List (S75)) × Bool)
 | 0,_,_,_,_,_,_,_,_,_,_ => none
 | k + 1,x0,x5,x6,x7,x8,e8,e9,d8,g4,g5 => if x8 < (d8.length : Int) then (if 0 ≤ x8 then (if (rd d8 x8) < 0 then (spec_EndOps.l0 k x0 x5 x6 (wrap64 (x7 + 1)) (wrap64 (x8 + 1)) e8 e9 d8 g4 g5) else (spec_EndOps.l0 k x0 x5 x6 x7 (wrap64 (x8 + 1)) e8 e9 d8 g4 g5)) else (none)) else (spec_EndOps.l1 k x0 x5 x6 x7 0 e8 e9 d8 g4 g5)
def spec_EndOps.l1 : Nat → List (S75) → Int → List (S75) → Int → Int → List Int → List Bool → List Int → List Int → Bool → Option ((List (S75)) × Bool)
 | 0,_,_,_,_,_,_,_,_,_,_ => none
 | k + 1,x0,x5,x6,x7,x9,e8,e9,d8,g4,g5 => if x9 < x7 then (if x6.length < 8796093022208 then (spec_EndOps.l1 k x0 x5 (x6 ++ [(⟨3,0⟩ : S75)]) x7 (wrap64 (x9 + 1)) e8 e9 d8 g4 g5) else (none)) else (spec_EndOps.l2 k x0 x5 x6 x7 0 e8 e9 d8 g4 g5)
def spec_EndOps.j3 : Nat → List (S75) → Int → List (S75) → Int → Int → Option ((List (S75)) × Bool)
 | 0,_,_,_,_,_ => none
 | k + 1,x0,x5,x6,x7,x10 => if x7 > 0 then (spec_EndOps.j4 k x0 x5 x6 (wrap64 (x10 + 1))) else (spec_EndOps.j4 k x0 x5 x6 x10)
def spec_EndOps.j4 : Nat → List (S75) → Int → List (S75) → Int → Option ((List (S75)) × Bool)
 | 0,_,_,_,_ => none
 | k + 1,x0,x5,x6,x10 => spec_EndOps.l3 k x0 x5 x6 x10 1
def spec_EndOps.l3 : Nat → List (S75) → Int → List (S75) → Int → Int → Option ((List (S75)) × Bool)
 | 0,_,_,_,_,_ => none
 | k + 1,x0,x5,x6,x10,x11 => if x11 < x10 then (if x6.length < 8796093022208 then (spec_EndOps.l3 k x0 x5 (x6 ++ [(⟨6,0⟩ : S75)]) x10 (wrap64 (x11 + 1))) else (none)) else (if x10 = 0 then (if x6.length < 8796093022208 then (spec_EndOps.j6 k x0 x5 (x6 ++ [(⟨4,0⟩ : S75)])) else (none)) else (spec_EndOps.j6 k x0 x5 x6))
def spec_EndOps.j6 : Nat → List (S75) → Int → List (S75) → Option ((List (S75)) × Bool)
 | 0,_,_,_ => none
 | k + 1,x0,x5,x6 => if x6.length < 8796093022208 then ((some (x6 ++ [(⟨19,0⟩ : S75)] : List (S75))).bind fun d0 => ((some (([] : List (S75)) : List (S75))).bind fun g8 => (if 0 ≤ x5 then (if x5 ≤ (x0.length : Int) then ((some (x0.take (x5 : Int).toNat : List (S75))).bind fun d9 => (if g8.length + d9.length < 8796093022208 then ((some (g8 ++ d9 : List (S75))).bind fun e6 => (if e6.length + d0.length < 8796093022208 then ((some (e6 ++ d0 : List (S75))).bind fun b5 => ((spec_runShapes.f k b5).bind fun g9 => ((spec_validOps.f k b5).bind fun g7 => (if g7 = true then (if g9.2.2.2.2.2 < (b5.length : Int) then (some (([] : List (S75)),false)) else (some (d0,true))) else (some (([] : List (S75)),false)))))) else (none))) else (none))) else (none)) else (none)))) else (none)
def spec_EndOps.l2 : Nat → List (S75) → Int → List (S75) → Int → Int → List Int → List Bool → List Int → List Int → Bool → Option ((List (S75)) × Bool)
 | 0,_,_,_,_,_,_,_,_,_,_ => none
 | k + 1,x0,x5,x6,x7,x10,e8,e9,d8,g4,g5 => if x10 < (d8.length : Int) then (if 0 ≤ x10 then (if (rd d8 x10) ≥ 0 then (spec_EndOps.l2 k x0 x5 x6 x7 (wrap64 (x10 + 1)) e8 e9 d8 g4 g5) else (spec_EndOps.j3 k x0 x5 x6 x7 x10)) else (none)) else (spec_EndOps.j3 k x0 x5 x6 x7 x10)
end
def spec_EndOps.f (k : Nat) (l0 : List (S75)) : Option ((List (S75)) × Bool) := (spec_validOps.f k l0).bind fun j2 => (if j2 = true then ((spec_runShapes.f k l0).bind fun b7 => ((some (([] : List (S75)) : List (S75))).bind fun e0 => (if b7.2.2.2.2.1 = true then (some (e0,true)) else (spec_EndOps.l0 k l0 b7.2.2.2.2.2 e0 0 0 b7.1 b7.2.1 b7.2.2.1 b7.2.2.2.1 b7.2.2.2.2.1)))) else (some (([] : List (S75)),false)))
set_option maxRecDepth 100000 in
theorem spec_EndOps.mono_l : ∀ k,(∀ y0 y1 y2 y3 y4 y5 y6 y7 y8 y9,LeO (spec_EndOps.l0 k y0 y1 y2 y3 y4 y5 y6 y7 y8 y9) (spec_EndOps.l0 (k + 1) y0 y1 y2 y3 y4 y5 y6 y7 y8 y9)) ∧ (∀ y0 y1 y2 y3 y4 y5 y6 y7 y8 y9,LeO (spec_EndOps.l1 k y0 y1 y2 y3 y4 y5 y6 y7 y8 y9) (spec_EndOps.l1 (k + 1) y0 y1 y2 y3 y4 y5 y6 y7 y8 y9)) ∧ (∀ y0 y1 y2 y3 y4,LeO (spec_EndOps.j3 k y0 y1 y2 y3 y4) (spec_EndOps.j3 (k + 1) y0 y1 y2 y3 y4)) ∧ (∀ y0 y1 y2 y3,LeO (spec_EndOps.j4 k y0 y1 y2 y3) (spec_EndOps.j4 (k + 1) y0 y1 y2 y3)) ∧ (∀ y0 y1 y2 y3 y4,LeO (spec_EndOps.l3 k y0 y1 y2 y3 y4) (spec_EndOps.l3 (k + 1) y0 y1 y2 y3 y4)) ∧ (∀ y0 y1 y2,LeO (spec_EndOps.j6 k y0 y1 y2) (spec_EndOps.j6 (k + 1) y0 y1 y2)) ∧ (∀ y0 y1 y2 y3 y4 y5 y6 y7 y8 y9,LeO (spec_EndOps.l2 k y0 y1 y2 y3 y4 y5 y6 y7 y8 y9) (spec_EndOps.l2 (k + 1) y0 y1 y2 y3 y4 y5 y6 y7 y8 y9))
 | 0 => ⟨fun _ _ _ _ _ _ _ _ _ _ r h => (by cases h),fun _ _ _ _ _ _ _ _ _ _ r h => (by cases h),fun _ _ _ _ _ r h => (by cases h),fun _ _ _ _ r h => (by cases h),fun _ _ _ _ _ r h => (by cases h),fun _ _ _ r h => (by cases h),fun _ _ _ _ _ _ _ _ _ _ r h => (by cases h)⟩
 | k + 1 => by
  obtain ⟨ih0,ih1,ih2,ih3,ih4,ih5,ih6⟩ := spec_EndOps.mono_l k
  refine ⟨?_,?_,?_,?_,?_,?_,?_⟩
  ·intro y0 y1 y2 y3 y4 y5 y6 y7 y8 y9
   unfold spec_EndOps.l0
   repeat' first
   | (with_reducible exact ih0 _ _ _ _ _ _ _ _ _ _)
   | (with_reducible exact ih1 _ _ _ _ _ _ _ _ _ _)
   | (with_reducible exact ih2 _ _ _ _ _)
   | (with_reducible exact ih3 _ _ _ _)
   | (with_reducible exact ih4 _ _ _ _ _)
   | (with_reducible exact ih5 _ _ _)
   | (with_reducible exact ih6 _ _ _ _ _ _ _ _ _ _)
   | (with_reducible exact spec_runShapes.mono _ _)
   | (with_reducible exact spec_validOps.mono _ _)
   | (with_reducible exact LeO.refl _)
   | (with_reducible exact LeO.none _)
   | (with_reducible refine LeO.ite ?_ ?_)
   | (with_reducible refine LeO.bind ?_ (fun _ => ?_))
   | exact ih0 _ _ _ _ _ _ _ _ _ _
   | exact ih1 _ _ _ _ _ _ _ _ _ _
   | exact ih2 _ _ _ _ _
   | exact ih3 _ _ _ _
   | exact ih4 _ _ _ _ _
   | exact ih5 _ _ _
   | exact ih6 _ _ _ _ _ _ _ _ _ _
   | exact spec_runShapes.mono _ _
   | exact spec_validOps.mono _ _
   | exact LeO.none _
   | refine LeO.ite ?_ ?_
   | refine LeO.bind ?_ (fun _ => ?_)
  ·intro y0 y1 y2 y3 y4 y5 y6 y7 y8 y9
   unfold spec_EndOps.l1
   repeat' first
   | (with_reducible exact ih0 _ _ _ _ _ _ _ _ _ _)
   | (with_reducible exact ih1 _ _ _ _ _ _ _ _ _ _)
   | (with_reducible exact ih2 _ _ _ _ _)
   | (with_reducible exact ih3 _ _ _ _)
   | (with_reducible exact ih4 _ _ _ _ _)
   | (with_reducible exact ih5 _ _ _)
   | (with_reducible exact ih6 _ _ _ _ _ _ _ _ _ _)
   | (with_reducible exact spec_runShapes.mono _ _)
   | (with_reducible exact spec_validOps.mono _ _)
   | (with_reducible exact LeO.refl _)
   | (with_reducible exact LeO.none _)
   | (with_reducible refine LeO.ite ?_ ?_)
   | (with_reducible refine LeO.bind ?_ (fun _ => ?_))
   | exact ih0 _ _ _ _ _ _ _ _ _ _
   | exact ih1 _ _ _ _ _ _ _ _ _ _
   | exact ih2 _ _ _ _ _
   | exact ih3 _ _ _ _
   | exact ih4 _ _ _ _ _
   | exact ih5 _ _ _
   | exact ih6 _ _ _ _ _ _ _ _ _ _
   | exact spec_runShapes.mono _ _
   | exact spec_validOps.mono _ _
   | exact LeO.none _
   | refine LeO.ite ?_ ?_
   | refine LeO.bind ?_ (fun _ => ?_)
  ·intro y0 y1 y2 y3 y4
   unfold spec_EndOps.j3
   repeat' first
   | (with_reducible exact ih0 _ _ _ _ _ _ _ _ _ _)
   | (with_reducible exact ih1 _ _ _ _ _ _ _ _ _ _)
   | (with_reducible exact ih2 _ _ _ _ _)
   | (with_reducible exact ih3 _ _ _ _)
   | (with_reducible exact ih4 _ _ _ _ _)
   | (with_reducible exact ih5 _ _ _)
   | (with_reducible exact ih6 _ _ _ _ _ _ _ _ _ _)
   | (with_reducible exact spec_runShapes.mono _ _)
   | (with_reducible exact spec_validOps.mono _ _)
   | (with_reducible exact LeO.refl _)
   | (with_reducible exact LeO.none _)
   | (with_reducible refine LeO.ite ?_ ?_)
   | (with_reducible refine LeO.bind ?_ (fun _ => ?_))
   | exact ih0 _ _ _ _ _ _ _ _ _ _
   | exact ih1 _ _ _ _ _ _ _ _ _ _
   | exact ih2 _ _ _ _ _
   | exact ih3 _ _ _ _
   | exact ih4 _ _ _ _ _
   | exact ih5 _ _ _
   | exact ih6 _ _ _ _ _ _ _ _ _ _
   | exact spec_runShapes.mono _ _
   | exact spec_validOps.mono _ _
   | exact LeO.none _
   | refine LeO.ite ?_ ?_
   | refine LeO.bind ?_ (fun _ => ?_)
  ·intro y0 y1 y2 y3
   unfold spec_EndOps.j4
   repeat' first
   | (with_reducible exact ih0 _ _ _ _ _ _ _ _ _ _)
   | (with_reducible exact ih1 _ _ _ _ _ _ _ _ _ _)
   | (with_reducible exact ih2 _ _ _ _ _)
   | (with_reducible exact ih3 _ _ _ _)
   | (with_reducible exact ih4 _ _ _ _ _)
   | (with_reducible exact ih5 _ _ _)
   | (with_reducible exact ih6 _ _ _ _ _ _ _ _ _ _)
   | (with_reducible exact spec_runShapes.mono _ _)
   | (with_reducible exact spec_validOps.mono _ _)
   | (with_reducible exact LeO.refl _)
   | (with_reducible exact LeO.none _)
   | (with_reducible refine LeO.ite ?_ ?_)
   | (with_reducible refine LeO.bind ?_ (fun _ => ?_))
   | exact ih0 _ _ _ _ _ _ _ _ _ _
   | exact ih1 _ _ _ _ _ _ _ _ _ _
   | exact ih2 _ _ _ _ _
   | exact ih3 _ _ _ _
   | exact ih4 _ _ _ _ _
   | exact ih5 _ _ _
   | exact ih6 _ _ _ _ _ _ _ _ _ _
   | exact spec_runShapes.mono _ _
   | exact spec_validOps.mono _ _
   | exact LeO.none _
   | refine LeO.ite ?_ ?_
   | refine LeO.bind ?_ (fun _ => ?_)
  ·intro y0 y1 y2 y3 y4
   unfold spec_EndOps.l3
   repeat' first
   | (with_reducible exact ih0 _ _ _ _ _ _ _ _ _ _)
   | (with_reducible exact ih1 _ _ _ _ _ _ _ _ _ _)
   | (with_reducible exact ih2 _ _ _ _ _)
   | (with_reducible exact ih3 _ _ _ _)
   | (with_reducible exact ih4 _ _ _ _ _)
   | (with_reducible exact ih5 _ _ _)
   | (with_reducible exact ih6 _ _ _ _ _ _ _ _ _ _)
   | (with_reducible exact spec_runShapes.mono _ _)
   | (with_reducible exact spec_validOps.mono _ _)
   | (with_reducible exact LeO.refl _)
   | (with_reducible exact LeO.none _)
   | (with_reducible refine LeO.ite ?_ ?_)
   | (with_reducible refine LeO.bind ?_ (fun _ => ?_))
   | exact ih0 _ _ _ _ _ _ _ _ _ _
   | exact ih1 _ _ _ _ _ _ _ _ _ _
   | exact ih2 _ _ _ _ _
   | exact ih3 _ _ _ _
   | exact ih4 _ _ _ _ _
   | exact ih5 _ _ _
   | exact ih6 _ _ _ _ _ _ _ _ _ _
   | exact spec_runShapes.mono _ _
   | exact spec_validOps.mono _ _
   | exact LeO.none _
   | refine LeO.ite ?_ ?_
   | refine LeO.bind ?_ (fun _ => ?_)
  ·intro y0 y1 y2
   unfold spec_EndOps.j6
   repeat' first
   | (with_reducible exact ih0 _ _ _ _ _ _ _ _ _ _)
   | (with_reducible exact ih1 _ _ _ _ _ _ _ _ _ _)
   | (with_reducible exact ih2 _ _ _ _ _)
   | (with_reducible exact ih3 _ _ _ _)
   | (with_reducible exact ih4 _ _ _ _ _)
   | (with_reducible exact ih5 _ _ _)
   | (with_reducible exact ih6 _ _ _ _ _ _ _ _ _ _)
   | (with_reducible exact spec_runShapes.mono _ _)
   | (with_reducible exact spec_validOps.mono _ _)
   | (with_reducible exact LeO.refl _)
   | (with_reducible exact LeO.none _)
   | (with_reducible refine LeO.ite ?_ ?_)
   | (with_reducible refine LeO.bind ?_ (fun _ => ?_))
   | exact ih0 _ _ _ _ _ _ _ _ _ _
   | exact ih1 _ _ _ _ _ _ _ _ _ _
   | exact ih2 _ _ _ _ _
   | exact ih3 _ _ _ _
   | exact ih4 _ _ _ _ _
   | exact ih5 _ _ _
   | exact ih6 _ _ _ _ _ _ _ _ _ _
   | exact spec_runShapes.mono _ _
   | exact spec_validOps.mono _ _
   | exact LeO.none _
   | refine LeO.ite ?_ ?_
   | refine LeO.bind ?_ (fun _ => ?_)
  ·intro y0 y1 y2 y3 y4 y5 y6 y7 y8 y9
   unfold spec_EndOps.l2
   repeat' first
   | (with_reducible exact ih0 _ _ _ _ _ _ _ _ _ _)
   | (with_reducible exact ih1 _ _ _ _ _ _ _ _ _ _)
   | (with_reducible exact ih2 _ _ _ _ _)
   | (with_reducible exact ih3 _ _ _ _)
   | (with_reducible exact ih4 _ _ _ _ _)
   | (with_reducible exact ih5 _ _ _)
   | (with_reducible exact ih6 _ _ _ _ _ _ _ _ _ _)
   | (with_reducible exact spec_runShapes.mono _ _)
   | (with_reducible exact spec_validOps.mono _ _)
   | (with_reducible exact LeO.refl _)
   | (with_reducible exact LeO.none _)
   | (with_reducible refine LeO.ite ?_ ?_)
   | (with_reducible refine LeO.bind ?_ (fun _ => ?_))
   | exact ih0 _ _ _ _ _ _ _ _ _ _
   | exact ih1 _ _ _ _ _ _ _ _ _ _
   | exact ih2 _ _ _ _ _
   | exact ih3 _ _ _ _
   | exact ih4 _ _ _ _ _
   | exact ih5 _ _ _
   | exact ih6 _ _ _ _ _ _ _ _ _ _
   | exact spec_runShapes.mono _ _
   | exact spec_validOps.mono _ _
   | exact LeO.none _
   | refine LeO.ite ?_ ?_
   | refine LeO.bind ?_ (fun _ => ?_)
set_option maxRecDepth 100000 in
theorem spec_EndOps.mono : ∀ a0 k,LeO (spec_EndOps.f k a0) (spec_EndOps.f (k + 1) a0) := by
 intro a0 k
 obtain ⟨ih0,ih1,ih2,ih3,ih4,ih5,ih6⟩ := spec_EndOps.mono_l k
 unfold spec_EndOps.f
 repeat' first
   | (with_reducible exact ih0 _ _ _ _ _ _ _ _ _ _)
   | (with_reducible exact ih1 _ _ _ _ _ _ _ _ _ _)
   | (with_reducible exact ih2 _ _ _ _ _)
   | (with_reducible exact ih3 _ _ _ _)
   | (with_reducible exact ih4 _ _ _ _ _)
   | (with_reducible exact ih5 _ _ _)
   | (with_reducible exact ih6 _ _ _ _ _ _ _ _ _ _)
   | (with_reducible exact spec_runShapes.mono _ _)
   | (with_reducible exact spec_validOps.mono _ _)
   | (with_reducible exact LeO.refl _)
   | (with_reducible exact LeO.none _)
   | (with_reducible refine LeO.ite ?_ ?_)
   | (with_reducible refine LeO.bind ?_ (fun _ => ?_))
   | exact ih0 _ _ _ _ _ _ _ _ _ _
   | exact ih1 _ _ _ _ _ _ _ _ _ _
   | exact ih2 _ _ _ _ _
   | exact ih3 _ _ _ _
   | exact ih4 _ _ _ _ _
   | exact ih5 _ _ _
   | exact ih6 _ _ _ _ _ _ _ _ _ _
   | exact spec_runShapes.mono _ _
   | exact spec_validOps.mono _ _
   | exact LeO.none _
   | refine LeO.ite ?_ ?_
   | refine LeO.bind ?_ (fun _ => ?_)
set_option maxHeartbeats 8000000 in
set_option maxRecDepth 100000 in
theorem spec_EndOps.calls (k : Nat) (A0 : Option Addr) (c0 : Nat) (l0 : List (S75)) (r1 : List (S75)) (r2 : Bool) (w : World) (hr0 : Kd.C k75 w A0 l0.length l0) (hc0 : l0.length ≤ c0) (h : spec_EndOps.f k l0 = some (r1,r2)) :
  Calls Try.prog 109 #[.slice A0 l0.length c0] w fun e w' => ∃ v0_ : Value,e = .returned (.tuple #[v0_,.bool r2]) ∧ Kd.R k75 75 w' w.heap.size (fun _ => True) v0_ r1 ∧ Below w.heap.size w w' := by
 have hu120 := Try.underlying120
 have hu75 := Try.underlying75
 have HR0 := As_ hr0
 have HC0 := As_ hc0
 clear hr0 hc0
 have HB := As_ (Below.refl w.heap.size w)
 have H : ((spec_validOps.f k l0).bind fun j2 => (if j2 = true then ((spec_runShapes.f k l0).bind fun b7 => ((some (([] : List (S75)) : List (S75))).bind fun e0 => (if b7.2.2.2.2.1 = true then (some (e0,true)) else (spec_EndOps.l0 k l0 b7.2.2.2.2.2 e0 0 0 b7.1 b7.2.1 b7.2.2.1 b7.2.2.2.1 b7.2.2.2.2.1)))) else (some (([] : List (S75)),false)))) = some (r1,r2) := h
 clear h
 replace H := obS H
 obtain ⟨j2,A20,H⟩ := H
 replace H : (if j2 = true then ((spec_runShapes.f k l0).bind fun b7 => ((some (([] : List (S75)) : List (S75))).bind fun e0 => (if b7.2.2.2.2.1 = true then (some (e0,true)) else (spec_EndOps.l0 k l0 b7.2.2.2.2.2 e0 0 0 b7.1 b7.2.1 b7.2.2.1 b7.2.2.2.1 b7.2.2.2.2.1)))) else (some (([] : List (S75)),false))) = some (r1,r2) := H
 have A2 := As_ A20
 clear A20
 by_cases c3 : j2 = true
 rotate_left
 ·replace c3 := Bool.eq_false_iff.mpr c3
  subst c3
  have H1 : (some (([] : List (S75)),false)) = some (r1,r2) := by rw [if_neg (show ¬ (false = true) by decide)] at H;exact H
  clear H
  have H := H1
  clear H1
  simp only [Option.some.injEq,Prod.mk.injEq] at H
  obtain ⟨rfl,rfl⟩ := H
  go_enter Try.func109,Try.ntmps109
  go_wp2_with (first|((with_reducible refine gate_callee (f := 55) rfl ?_);refine goesL_ (some 16) rfl rfl Try.func55 (by kernel_rfl) rfl #[.slice A0 l0.length c0] rfl zM_ ?_;(with_reducible refine (spec_validOps.calls k _ _ l0 false _ ?side1 ?side2 A2.out).mono ?_);(case side1 => repeat (first|exact HR0.out|(with_reducible refine Kd.C_alloc ?_ _)|(with_reducible refine Kd.C_drewN ?_ _)|(with_reducible refine Kd.C_drew ?_)));(case side2 => exact HC0.out);rintro e w113 ⟨rfl,hb⟩;refine ⟨_,rfl,?_⟩;have n0_ := As_ (bwT (zb0 HB.out) hb);clear HB;revert n0_;intro HB))
  go_ret2
  exact ⟨_,zE_,by first|exact Kd.R_nil _ _ _ _ _|exact Kd.N_nil _ _ _ _ _|exact Kd.V_nil _ _ _ _ _|exact Kd.Q_nil _ _ _ _ _|exact Kd.S_nil _ _ _ _ _,zb0 HB.out⟩

 subst c3
 have H1 : ((spec_runShapes.f k l0).bind fun b7 => ((some (([] : List (S75)) : List (S75))).bind fun e0 => (if b7.2.2.2.2.1 = true then (some (e0,true)) else (spec_EndOps.l0 k l0 b7.2.2.2.2.2 e0 0 0 b7.1 b7.2.1 b7.2.2.1 b7.2.2.2.1 b7.2.2.2.2.1)))) = some (r1,r2) := by rw [if_pos rfl] at H;exact H
 clear H
 have H := H1
 clear H1
 replace H := obS H
 obtain ⟨⟨b1,b4,b0,b2,l6,b9⟩,A40,H⟩ := H
 replace H : ((some (([] : List (S75)) : List (S75))).bind fun e0 => (if l6 = true then (some (e0,true)) else (spec_EndOps.l0 k l0 b9 e0 0 0 b1 b4 b0 b2 l6))) = some (r1,r2) := H
 have A4 := As_ A40
 clear A40
 obtain ⟨e0,m1⟩ : ∃ y_ : List (S75),y_ = (([] : List (S75))) := ⟨_,rfl⟩
 replace H : (if l6 = true then (some (e0,true)) else (spec_EndOps.l0 k l0 b9 e0 0 0 b1 b4 b0 b2 l6)) = some (r1,r2) := zH_ H m1
 have l5 := As_ m1
 clear m1
 by_cases c5 : l6 = true
 ·subst c5
  have H1 : (some (e0,true)) = some (r1,r2) := by rw [if_pos rfl] at H;exact H
  clear H
  have H := H1
  clear H1
  simp only [Option.some.injEq,Prod.mk.injEq] at H
  obtain ⟨rfl,rfl⟩ := H
  go_enter Try.func109,Try.ntmps109
  go_wp2_with (first|((with_reducible refine gate_callee (f := 55) rfl ?_);refine goesL_ (some 16) rfl rfl Try.func55 (by kernel_rfl) rfl #[.slice A0 l0.length c0] rfl zM_ ?_;(with_reducible refine (spec_validOps.calls k _ _ l0 true _ ?side1 ?side2 A2.out).mono ?_);(case side1 => repeat (first|exact HR0.out|(with_reducible refine Kd.C_alloc ?_ _)|(with_reducible refine Kd.C_drewN ?_ _)|(with_reducible refine Kd.C_drew ?_)));(case side2 => exact HC0.out);rintro e w6 ⟨rfl,hb⟩;refine ⟨_,rfl,?_⟩;have n0_ := As_ (bwT (zb0 HB.out) hb);clear HB;revert n0_;intro HB)|((with_reducible refine gate_callee (f := 118) rfl ?_);refine goesL_ (some 20) rfl rfl Try.func118 (by kernel_rfl) rfl #[.slice A0 l0.length c0] rfl zM_ ?_;(with_reducible refine (spec_runShapes.calls k _ _ l0 b1 b4 b0 b2 true b9 _ ?side1 ?side2 A4.out).mono ?_);(case side1 => exact zC_ (Kd.C_below HR0.out HB.out));(case side2 => exact HC0.out);rintro e w7 ⟨v1024,v1027,v1030,v1033,rfl,ho0,ho1,ho2,ho3,hb⟩;refine ⟨_,rfl,?_⟩;have n0_ := As_ (Kd.R_lower ho0 (bwZ (zb0 HB.out)));have n1_ := As_ (Kd.R_lower ho1 (bwZ (zb0 HB.out)));have n2_ := As_ (Kd.R_lower ho2 (bwZ (zb0 HB.out)));have n3_ := As_ (Kd.R_lower ho3 (bwZ (zb0 HB.out)));have n4_ := As_ (bwT (zb0 HB.out) hb);clear HB;revert n0_ n1_ n2_ n3_ n4_;intro e1 e2 e3 e4 HB)|((with_reducible refine gate_dst (N := 4) rfl ?_);(try (refine gate_guard (by rfl) ?_;dsimp only));refine box_event ?hg (N := 4) ?hd (cs := #[.slice none 0 0,.slice none 0 0,.slice none 0 0,.slice none 0 0,.bool false]) (t := 120) ?hr ?_;(case hd => rfl);(case hg => rfl);(case hr => go_simp <;> rfl);intro a6 hg w8 hbox hb;have n0_ := As_ (Kd.R_below (zR_ e1.out) hb);have n1_ := As_ (Kd.R_below (zR_ e2.out) hb);have n2_ := As_ (Kd.R_below (zR_ e3.out) hb);have n3_ := As_ (Kd.R_below (zR_ e4.out) hb);have n4_ := As_ (bwT (zb0 HB.out) hb);have n5_ := As_ (hbox);have n6_ := As_ ((by rw [hg];exact (bwZ (zb0 HB.out)) : w.heap.size ≤ a6));have n7_ := As_ ((by rw [hg];exact (bwZ (zb0 HB.out)) : w.heap.size ≤ a6));clear e1 e2 e3 e4 HB;revert n0_ n1_ n2_ n3_ n4_ n5_ n6_ n7_;intro e1 e2 e3 e4 HB a1 o1 a7;clear hb hbox hg;obtain ⟨Ao9,co9,eo9⟩ := Kd.R_slice e1.out;subst eo9;have r4 : w8.cell? ⟨a6,0,none⟩ = some (.slice none 0 0) := (bkC a1.out 0).trans rfl;have r5 : w8.cell? ⟨a6,1,none⟩ = some (.slice none 0 0) := (bkC a1.out 1).trans rfl;have r6 : w8.cell? ⟨a6,2,none⟩ = some (.slice none 0 0) := (bkC a1.out 2).trans rfl;have r7 : w8.cell? ⟨a6,3,none⟩ = some (.slice none 0 0) := (bkC a1.out 3).trans rfl;have r8 : w8.cell? ⟨a6,4,none⟩ = some (.bool false) := (bkC a1.out 4).trans rfl;have r9 := bkF a1.out 0;have s0 := bkF a1.out 1;have s5 := bkF a1.out 2;have s6 := bkF a1.out 3;have s7 := bkF a1.out 4;obtain ⟨Ao11,co11,eo11⟩ := Kd.R_slice e2.out;subst eo11;obtain ⟨Ao12,co12,eo12⟩ := Kd.R_slice e3.out;subst eo12;obtain ⟨Ao13,co13,eo13⟩ := Kd.R_slice e4.out;subst eo13)|((with_reducible refine gate_dst (N := 23) rfl ?_);(try (refine gate_guard (by rfl) ?_;dsimp only));refine Kd.R_lit k75 _ 75 ?hg (N := 23) ?hd (xs := ([] : List (S75))) (inner := []) (ok := fun _ => True) (okp := fun _ => True) ?hr ?hp (fun _ hk => hk) trivial (Below.refl _ _) (Nat.le_refl _) (by simp) ?_;(case hd => rfl);(case hg => rfl);(case hr => go_simp <;> rfl);(case hp => exact (Reps.none _ _));intro v1039 w14 ho15 hb hg_ hnew_;clear hg_ hnew_;(first|rw [← l5.out] at ho15|(simp only [Int.reduceToNat] at ho15;rw [← l5.out] at ho15));have n0_ := As_ (Kd.R_below (by exact (Kd.R_mono (rX5 e1.out a1.out) (fun _ h_ => h_.1))) hb);have n1_ := As_ (Kd.R_below (by exact (Kd.R_mono (rX5 e2.out a1.out) (fun _ h_ => h_.1))) hb);have n2_ := As_ (Kd.R_below (by exact (Kd.R_mono (rX5 e3.out a1.out) (fun _ h_ => h_.1))) hb);have n3_ := As_ (Kd.R_below (by exact (Kd.R_mono (rX5 e4.out a1.out) (fun _ h_ => h_.1))) hb);have n4_ := As_ (Kd.R_lower ho15 (bwZ (zb1 HB.out a7.out)));have n5_ := As_ (blk_below (g := a6) (o := .cells #[.slice Ao9 b1.length co9,.slice Ao11 b4.length co11,.slice Ao12 b0.length co12,.slice Ao13 b2.length co13,.bool true] 120 (0,0)) (p5 a1.out) hb);have n6_ := As_ (bwT (zb1 HB.out a7.out) hb);clear e1 e2 e3 e4 a1 HB;revert n0_ n1_ n2_ n3_ n4_ n5_ n6_;intro e1 e2 e3 e4 m2 a1 HB;clear hb ho15;have s8 : w14.cell? ⟨a6,0,none⟩ = some (.slice Ao9 b1.length co9) := (bkC a1.out 0).trans rfl;have s9 : w14.cell? ⟨a6,1,none⟩ = some (.slice Ao11 b4.length co11) := (bkC a1.out 1).trans rfl;have t0 : w14.cell? ⟨a6,2,none⟩ = some (.slice Ao12 b0.length co12) := (bkC a1.out 2).trans rfl;have t1 : w14.cell? ⟨a6,3,none⟩ = some (.slice Ao13 b2.length co13) := (bkC a1.out 3).trans rfl;have t2 : w14.cell? ⟨a6,4,none⟩ = some (.bool true) := (bkC a1.out 4).trans rfl;have t3 := bkF a1.out 0;have t4 := bkF a1.out 1;have t5 := bkF a1.out 2;have t6 := bkF a1.out 3;have t7 := bkF a1.out 4))
  go_ret2
  exact ⟨_,zE_,by exact m2.out,zb1 HB.out a7.out⟩
 replace c5 := Bool.eq_false_iff.mpr c5
 subst c5
 have H1 : (spec_EndOps.l0 k l0 b9 e0 0 0 b1 b4 b0 b2 false) = some (r1,r2) := by rw [if_neg (show ¬ (false = true) by decide)] at H;exact H
 clear H
 have H := H1
 clear H1
 have H' := As_ H
 clear H
 go_enter Try.func109,Try.ntmps109
 go_wp2_with (first|((with_reducible refine gate_callee (f := 55) rfl ?_);refine goesL_ (some 16) rfl rfl Try.func55 (by kernel_rfl) rfl #[.slice A0 l0.length c0] rfl zM_ ?_;(with_reducible refine (spec_validOps.calls k _ _ l0 true _ ?side1 ?side2 A2.out).mono ?_);(case side1 => repeat (first|exact HR0.out|(with_reducible refine Kd.C_alloc ?_ _)|(with_reducible refine Kd.C_drewN ?_ _)|(with_reducible refine Kd.C_drew ?_)));(case side2 => exact HC0.out);rintro e w17 ⟨rfl,hb⟩;refine ⟨_,rfl,?_⟩;have n0_ := As_ (bwT (zb0 HB.out) hb);clear HB;revert n0_;intro HB)|((with_reducible refine gate_callee (f := 118) rfl ?_);refine goesL_ (some 20) rfl rfl Try.func118 (by kernel_rfl) rfl #[.slice A0 l0.length c0] rfl zM_ ?_;(with_reducible refine (spec_runShapes.calls k _ _ l0 b1 b4 b0 b2 false b9 _ ?side1 ?side2 A4.out).mono ?_);(case side1 => exact zC_ (Kd.C_below HR0.out HB.out));(case side2 => exact HC0.out);rintro e w18 ⟨v1024,v1027,v1030,v1033,rfl,ho0,ho1,ho2,ho3,hb⟩;refine ⟨_,rfl,?_⟩;have n0_ := As_ (Kd.R_lower ho0 (bwZ (zb0 HB.out)));have n1_ := As_ (Kd.R_lower ho1 (bwZ (zb0 HB.out)));have n2_ := As_ (Kd.R_lower ho2 (bwZ (zb0 HB.out)));have n3_ := As_ (Kd.R_lower ho3 (bwZ (zb0 HB.out)));have n4_ := As_ (bwT (zb0 HB.out) hb);clear HB;revert n0_ n1_ n2_ n3_ n4_;intro e1 e2 e3 e4 HB)|((with_reducible refine gate_dst (N := 4) rfl ?_);(try (refine gate_guard (by rfl) ?_;dsimp only));refine box_event ?hg (N := 4) ?hd (cs := #[.slice none 0 0,.slice none 0 0,.slice none 0 0,.slice none 0 0,.bool false]) (t := 120) ?hr ?_;(case hd => rfl);(case hg => rfl);(case hr => go_simp <;> rfl);intro a6 hg w19 hbox hb;have n0_ := As_ (Kd.R_below (zR_ e1.out) hb);have n1_ := As_ (Kd.R_below (zR_ e2.out) hb);have n2_ := As_ (Kd.R_below (zR_ e3.out) hb);have n3_ := As_ (Kd.R_below (zR_ e4.out) hb);have n4_ := As_ (bwT (zb0 HB.out) hb);have n5_ := As_ (hbox);have n6_ := As_ ((by rw [hg];exact (bwZ (zb0 HB.out)) : w.heap.size ≤ a6));have n7_ := As_ ((by rw [hg];exact (bwZ (zb0 HB.out)) : w.heap.size ≤ a6));clear e1 e2 e3 e4 HB;revert n0_ n1_ n2_ n3_ n4_ n5_ n6_ n7_;intro e1 e2 e3 e4 HB a1 o1 a7;clear hb hbox hg;obtain ⟨Ao20,co20,eo20⟩ := Kd.R_slice e1.out;subst eo20;have t8 : w19.cell? ⟨a6,0,none⟩ = some (.slice none 0 0) := (bkC a1.out 0).trans rfl;have t9 : w19.cell? ⟨a6,1,none⟩ = some (.slice none 0 0) := (bkC a1.out 1).trans rfl;have u0 : w19.cell? ⟨a6,2,none⟩ = some (.slice none 0 0) := (bkC a1.out 2).trans rfl;have u1 : w19.cell? ⟨a6,3,none⟩ = some (.slice none 0 0) := (bkC a1.out 3).trans rfl;have u2 : w19.cell? ⟨a6,4,none⟩ = some (.bool false) := (bkC a1.out 4).trans rfl;have u3 := bkF a1.out 0;have u4 := bkF a1.out 1;have u5 := bkF a1.out 2;have u7 := bkF a1.out 3;have u9 := bkF a1.out 4;obtain ⟨Ao22,co22,eo22⟩ := Kd.R_slice e2.out;subst eo22;obtain ⟨Ao23,co23,eo23⟩ := Kd.R_slice e3.out;subst eo23;obtain ⟨Ao24,co24,eo24⟩ := Kd.R_slice e4.out;subst eo24)|((with_reducible refine gate_dst (N := 23) rfl ?_);(try (refine gate_guard (by rfl) ?_;dsimp only));refine Kd.R_lit k75 _ 75 ?hg (N := 23) ?hd (xs := ([] : List (S75))) (inner := []) (ok := fun _ => True) (okp := fun _ => True) ?hr ?hp (fun _ hk => hk) trivial (Below.refl _ _) (Nat.le_refl _) (by simp) ?_;(case hd => rfl);(case hg => rfl);(case hr => go_simp <;> rfl);(case hp => exact (Reps.none _ _));intro v1039 w25 ho26 hb hg_ hnew_;clear hg_ hnew_;(first|rw [← l5.out] at ho26|(simp only [Int.reduceToNat] at ho26;rw [← l5.out] at ho26));have n0_ := As_ (Kd.R_below (by exact (Kd.R_mono (rX5 e1.out a1.out) (fun _ h_ => h_.1))) hb);have n1_ := As_ (Kd.R_below (by exact (Kd.R_mono (rX5 e2.out a1.out) (fun _ h_ => h_.1))) hb);have n2_ := As_ (Kd.R_below (by exact (Kd.R_mono (rX5 e3.out a1.out) (fun _ h_ => h_.1))) hb);have n3_ := As_ (Kd.R_below (by exact (Kd.R_mono (rX5 e4.out a1.out) (fun _ h_ => h_.1))) hb);have n4_ := As_ (Kd.R_lower ho26 (bwZ (zb1 HB.out a7.out)));have n5_ := As_ (blk_below (g := a6) (o := .cells #[.slice Ao20 b1.length co20,.slice Ao22 b4.length co22,.slice Ao23 b0.length co23,.slice Ao24 b2.length co24,.bool false] 120 (0,0)) (p5 a1.out) hb);have n6_ := As_ (bwT (zb1 HB.out a7.out) hb);clear e1 e2 e3 e4 a1 HB;revert n0_ n1_ n2_ n3_ n4_ n5_ n6_;intro e1 e2 e3 e4 m2 a1 HB;clear hb ho26;have v4 : w25.cell? ⟨a6,0,none⟩ = some (.slice Ao20 b1.length co20) := (bkC a1.out 0).trans rfl;have v5 : w25.cell? ⟨a6,1,none⟩ = some (.slice Ao22 b4.length co22) := (bkC a1.out 1).trans rfl;have x1 : w25.cell? ⟨a6,2,none⟩ = some (.slice Ao23 b0.length co23) := (bkC a1.out 2).trans rfl;have x2 : w25.cell? ⟨a6,3,none⟩ = some (.slice Ao24 b2.length co24) := (bkC a1.out 3).trans rfl;have x3 : w25.cell? ⟨a6,4,none⟩ = some (.bool false) := (bkC a1.out 4).trans rfl;have x4 := bkF a1.out 0;have z1 := bkF a1.out 1;have z2 := bkF a1.out 2;have z3 := bkF a1.out 3;have z4 := bkF a1.out 4))
 go_loopg [7,8] k (fun kq v7 v8 w' => ∃ (i3 : Int) (i1 : Int),v7 = .int .i64 i3 ∧ v8 = .int .i64 i1 ∧ Aside0 (spec_EndOps.l0 kq l0 b9 e0 i3 i1 b1 b4 b0 b2 false = some (r1,r2)) ∧ Aside0 (kq ≤ k) ∧ Aside0 (Kd.R k75 75 w' w.heap.size (fun _ => True) v1039 e0) ∧ Aside0 (Kd.R (Kd.int .i64) 3 w' w.heap.size (fun k_ => some k_ ≠ ((.slice Ao23 b0.length co23) : Value).ownBlock ∧ some k_ ≠ ((.slice Ao24 b2.length co24) : Value).ownBlock) (.slice Ao20 b1.length co20) b1) ∧ Aside0 (Kd.R Kd.bool 4 w' w.heap.size (fun _ => True) (.slice Ao22 b4.length co22) b4) ∧ Aside0 (Kd.R (Kd.int .i64) 3 w' w.heap.size (fun k_ => some k_ ≠ ((.slice Ao20 b1.length co20) : Value).ownBlock ∧ some k_ ≠ ((.slice Ao24 b2.length co24) : Value).ownBlock) (.slice Ao23 b0.length co23) b0) ∧ Aside0 (Kd.R (Kd.int .i64) 3 w' w.heap.size (fun k_ => some k_ ≠ ((.slice Ao20 b1.length co20) : Value).ownBlock ∧ some k_ ≠ ((.slice Ao23 b0.length co23) : Value).ownBlock) (.slice Ao24 b2.length co24) b2) ∧ Aside0 (w'.heap[a6]? = some (.cells #[(.slice Ao20 b1.length co20),(.slice Ao22 b4.length co22),(.slice Ao23 b0.length co23),(.slice Ao24 b2.length co24),.bool false] 120 (0,0))) ∧ Aside0 (Below w.heap.size w w'))
 case atStart => exact ⟨(0),(0),zT_,zT_,H',⟨Nat.le_refl _⟩,⟨m2.out⟩,⟨e1.out⟩,⟨e2.out⟩,⟨e3.out⟩,⟨e4.out⟩,⟨a1.out⟩,⟨zb1 HB.out a7.out⟩⟩
 case round =>
  clear H'
  obtain ⟨i3,i1,rfl,rfl,HA,HK1,b8,a3,a5,a2,a4,a1,HB⟩ := hrel
  cases gk with
  | zero => exact absurd HA.out (fun h_ => (by cases h_))
  | succ k1 =>
   have H := HA.out
   clear HA
   simp only [spec_EndOps.l0] at H
   by_cases c28 : i1 < (b0.length : Int)
   ·rw [if_pos c28] at H
    have p1 : decide (i1 < (b0.length : Int)) = true := deT c28
    clear c28
    by_cases c29 : 0 ≤ i1
    rotate_left
    ·rw [if_neg c29] at H
     exact absurd H (by simp)
    rw [if_pos c29] at H
    have I3 : decide (0 ≤ i1) = true := deT c29
    clear c29
    by_cases c30 : (rd b0 i1) < 0
    ·rw [if_pos c30] at H
     have p2 : decide ((rd b0 i1) < 0) = true := deT c30
     clear c30
     have H' := As_ H
     clear H
     have z5 : wr.cell? ⟨a6,0,none⟩ = some (.slice Ao20 b1.length co20) := (bkC a1.out 0).trans rfl
     have z6 : wr.cell? ⟨a6,1,none⟩ = some (.slice Ao22 b4.length co22) := (bkC a1.out 1).trans rfl
     have z7 : wr.cell? ⟨a6,2,none⟩ = some (.slice Ao23 b0.length co23) := (bkC a1.out 2).trans rfl
     have z8 : wr.cell? ⟨a6,3,none⟩ = some (.slice Ao24 b2.length co24) := (bkC a1.out 3).trans rfl
     have z9 : wr.cell? ⟨a6,4,none⟩ = some (.bool false) := (bkC a1.out 4).trans rfl
     have A5 := bkF a1.out 0
     have A6 := bkF a1.out 1
     have A7 := bkF a1.out 2
     have A8 := bkF a1.out 3
     have A9 := bkF a1.out 4
     have p1041 : 0 ≤ (i1 : Int) := odT zA_
     have q1041 : i1 < (b0.length : Int) := odT zA_
     obtain ⟨ad1041,e1041,hx1041_0⟩ := Kd.at_int (Kd.R_reads' a2.out).2.2 i1 p1041 q1041
     cases e1041
     replace p1041 := eq_true p1041
     replace q1041 := eq_true q1041
     go_wp2
     go_roundg k1
     case measure => have := HK1.out;omega
     case rel => exact ⟨(wrap64 (i3 + 1)),(wrap64 (i1 + 1)),zT_,zT_,H',⟨by have := HK1.out;omega⟩,⟨b8.out⟩,⟨a3.out⟩,⟨a5.out⟩,⟨a2.out⟩,⟨a4.out⟩,⟨a1.out⟩,⟨zb1 HB.out a7.out⟩⟩
    rw [if_neg c30] at H
    have p2 : decide ((rd b0 i1) < 0) = false := deF c30
    clear c30
    have H' := As_ H
    clear H
    have B0 : wr.cell? ⟨a6,0,none⟩ = some (.slice Ao20 b1.length co20) := (bkC a1.out 0).trans rfl
    have B1 : wr.cell? ⟨a6,1,none⟩ = some (.slice Ao22 b4.length co22) := (bkC a1.out 1).trans rfl
    have B2 : wr.cell? ⟨a6,2,none⟩ = some (.slice Ao23 b0.length co23) := (bkC a1.out 2).trans rfl
    have B3 : wr.cell? ⟨a6,3,none⟩ = some (.slice Ao24 b2.length co24) := (bkC a1.out 3).trans rfl
    have B4 : wr.cell? ⟨a6,4,none⟩ = some (.bool false) := (bkC a1.out 4).trans rfl
    have B5 := bkF a1.out 0
    have B6 := bkF a1.out 1
    have B7 := bkF a1.out 2
    have B8 := bkF a1.out 3
    have B9 := bkF a1.out 4
    have p1041 : 0 ≤ (i1 : Int) := odT zA_
    have q1041 : i1 < (b0.length : Int) := odT zA_
    obtain ⟨ad1041,e1041,hx1041_0⟩ := Kd.at_int (Kd.R_reads' a2.out).2.2 i1 p1041 q1041
    cases e1041
    replace p1041 := eq_true p1041
    replace q1041 := eq_true q1041
    go_wp2
    go_roundg k1
    case measure => have := HK1.out;omega
    case rel => exact ⟨(i3),(wrap64 (i1 + 1)),zT_,zT_,H',⟨by have := HK1.out;omega⟩,⟨b8.out⟩,⟨a3.out⟩,⟨a5.out⟩,⟨a2.out⟩,⟨a4.out⟩,⟨a1.out⟩,⟨zb1 HB.out a7.out⟩⟩
   rw [if_neg c28] at H
   have p1 : decide (i1 < (b0.length : Int)) = false := deF c28
   clear c28
   have H' := As_ H
   clear H
   have C0 : wr.cell? ⟨a6,0,none⟩ = some (.slice Ao20 b1.length co20) := (bkC a1.out 0).trans rfl
   have C1 : wr.cell? ⟨a6,1,none⟩ = some (.slice Ao22 b4.length co22) := (bkC a1.out 1).trans rfl
   have C2 : wr.cell? ⟨a6,2,none⟩ = some (.slice Ao23 b0.length co23) := (bkC a1.out 2).trans rfl
   have C3 : wr.cell? ⟨a6,3,none⟩ = some (.slice Ao24 b2.length co24) := (bkC a1.out 3).trans rfl
   have C4 : wr.cell? ⟨a6,4,none⟩ = some (.bool false) := (bkC a1.out 4).trans rfl
   have C5 := bkF a1.out 0
   have C6 := bkF a1.out 1
   have C7 := bkF a1.out 2
   have C8 := bkF a1.out 3
   have C9 := bkF a1.out 4
   go_wp2
   go_loopg [6,9] k1 (fun kq v6 v9 w' => ∃ (i5 : List (S75)) (l7 : Int),v9 = .int .i64 l7 ∧ Aside0 (spec_EndOps.l1 kq l0 b9 i5 i3 l7 b1 b4 b0 b2 false = some (r1,r2)) ∧ Aside0 (kq ≤ k1) ∧ Aside0 (Kd.R k75 75 w' w.heap.size (fun _ => True) v6 i5) ∧ Aside0 (Kd.R (Kd.int .i64) 3 w' w.heap.size (fun k_ => some k_ ≠ ((.slice Ao23 b0.length co23) : Value).ownBlock ∧ some k_ ≠ ((.slice Ao24 b2.length co24) : Value).ownBlock) (.slice Ao20 b1.length co20) b1) ∧ Aside0 (Kd.R Kd.bool 4 w' w.heap.size (fun _ => True) (.slice Ao22 b4.length co22) b4) ∧ Aside0 (Kd.R (Kd.int .i64) 3 w' w.heap.size (fun k_ => some k_ ≠ ((.slice Ao20 b1.length co20) : Value).ownBlock ∧ some k_ ≠ ((.slice Ao24 b2.length co24) : Value).ownBlock) (.slice Ao23 b0.length co23) b0) ∧ Aside0 (Kd.R (Kd.int .i64) 3 w' w.heap.size (fun k_ => some k_ ≠ ((.slice Ao20 b1.length co20) : Value).ownBlock ∧ some k_ ≠ ((.slice Ao23 b0.length co23) : Value).ownBlock) (.slice Ao24 b2.length co24) b2) ∧ Aside0 (w'.heap[a6]? = some (.cells #[(.slice Ao20 b1.length co20),(.slice Ao22 b4.length co22),(.slice Ao23 b0.length co23),(.slice Ao24 b2.length co24),.bool false] 120 (0,0))) ∧ Aside0 (Below w.heap.size w w'))
   case atStart => exact ⟨(e0),(0),zT_,H',⟨Nat.le_refl _⟩,⟨b8.out⟩,⟨a3.out⟩,⟨a5.out⟩,⟨a2.out⟩,⟨a4.out⟩,⟨a1.out⟩,⟨zb1 HB.out a7.out⟩⟩
   case round =>
    clear H'
    obtain ⟨i5,l7,rfl,HA,HK2,b8,a3,a5,a2,a4,a1,HB⟩ := hrel
    cases gk with
    | zero => exact absurd HA.out (fun h_ => (by cases h_))
    | succ k2 =>
     have H := HA.out
     clear HA
     simp only [spec_EndOps.l1] at H
     by_cases c34 : l7 < i3
     ·rw [if_pos c34] at H
      have p3 : decide (l7 < i3) = true := deT c34
      clear c34
      by_cases c35 : i5.length < 8796093022208
      rotate_left
      ·rw [if_neg c35] at H
       exact absurd H (by simp)
      rw [if_pos c35] at H
      have p4 := As_ c35
      clear c35
      obtain ⟨n8,m3⟩ : ∃ y_ : List (S75),y_ = (i5 ++ [(⟨3,0⟩ : S75)]) := ⟨_,rfl⟩
      replace H : (spec_EndOps.l1 k2 l0 b9 n8 i3 (wrap64 (l7 + 1)) b1 b4 b0 b2 false) = some (r1,r2) := zH_ H m3
      have o2 := As_ m3
      clear m3
      have H' := As_ H
      clear H
      go_wp2_with (first|((with_reducible refine gate_builtin (b := .append) (xs := #[.tmp 47,.tmp 49]) rfl ?_);(try (refine gate_guard (by rfl) ?_;dsimp only));at_builtin;refine Kd.R_append k75 (w0 := w) w.heap.size rfl (.tmp 47) (.tmp 49) 23 75 (.agg #[(.int .i64 0),(.int .i64 0)]) 16 rfl Try.underlying23 info75 rfl (by decide) (by omega) u6 i5 (⟨3,0⟩ : S75) [.int .i64 3,.int .i64 0] (fun _ => True) (fun _ => False) rfl rfl ?aP (fun _ hk => hk.elim) ?aF ?aO ?aB ?aS ?aL ?_;(case aP => exact k75_mkM _ _ _ (⟨3,0⟩ : S75));(case aB => exact (zb1 HB.out a7.out));(case aF => exact (fun _ _ => trivial));(case aO => exact (zR_ b8.out));(case aS => exact (bwZ (zb1 HB.out a7.out)));(case aL => have := p4.out;omega);intro v1043 w36 ho hb hg hat;rw [← o2.out] at ho;have n0_ := As_ (Kd.R_over' (zR_ a3.out) (Kd.R_typed (zR_ b8.out)) (by decide) hg);have n1_ := As_ (Kd.R_over' (zR_ a5.out) (Kd.R_typed (zR_ b8.out)) (by decide) hg);have n2_ := As_ (Kd.R_over' (zR_ a2.out) (Kd.R_typed (zR_ b8.out)) (by decide) hg);have n3_ := As_ (Kd.R_over' (zR_ a4.out) (Kd.R_typed (zR_ b8.out)) (by decide) hg);have n4_ := As_ (blk_grown (g := a6) (o := .cells #[.slice Ao20 b1.length co20,.slice Ao22 b4.length co22,.slice Ao23 b0.length co23,.slice Ao24 b2.length co24,.bool false] 120 (0,0)) (zk_ a1.out) hg (rne b8.out a1.out));have n5_ := As_ (hb);have n6_ := As_ (ho);clear a3 a5 a2 a4 a1 HB b8;revert n0_ n1_ n2_ n3_ n4_ n5_ n6_;intro a3 a5 a2 a4 a1 HB o3;clear ho hb hg hat))
      go_roundg k2
      case measure => have := HK1.out;have := HK2.out;omega
      case rel => exact ⟨(n8),(wrap64 (l7 + 1)),zT_,H',⟨by have := HK1.out;have := HK2.out;omega⟩,⟨o3.out⟩,⟨a3.out⟩,⟨a5.out⟩,⟨a2.out⟩,⟨a4.out⟩,⟨a1.out⟩,⟨zb1 HB.out a7.out⟩⟩
     rw [if_neg c34] at H
     have p3 : decide (l7 < i3) = false := deF c34
     clear c34
     have HC37 := As_ H
     clear H
     go_upto_block 4 with (fail)
     go_cut [10] (fun v10 wc => ∃ (kq : Nat) (j0 : Int),v10 = .int .i64 j0 ∧ Aside0 (spec_EndOps.j3 kq l0 b9 i5 i3 j0 = some (r1,r2)) ∧ Aside0 (kq ≤ k2) ∧ Aside0 (Kd.R k75 75 wc w.heap.size (fun _ => True) u6 i5) ∧ Aside0 (Kd.R (Kd.int .i64) 3 wc w.heap.size (fun k_ => some k_ ≠ ((.slice Ao23 b0.length co23) : Value).ownBlock ∧ some k_ ≠ ((.slice Ao24 b2.length co24) : Value).ownBlock) (.slice Ao20 b1.length co20) b1) ∧ Aside0 (Kd.R Kd.bool 4 wc w.heap.size (fun _ => True) (.slice Ao22 b4.length co22) b4) ∧ Aside0 (Kd.R (Kd.int .i64) 3 wc w.heap.size (fun k_ => some k_ ≠ ((.slice Ao20 b1.length co20) : Value).ownBlock ∧ some k_ ≠ ((.slice Ao24 b2.length co24) : Value).ownBlock) (.slice Ao23 b0.length co23) b0) ∧ Aside0 (Kd.R (Kd.int .i64) 3 wc w.heap.size (fun k_ => some k_ ≠ ((.slice Ao20 b1.length co20) : Value).ownBlock ∧ some k_ ≠ ((.slice Ao23 b0.length co23) : Value).ownBlock) (.slice Ao24 b2.length co24) b2) ∧ Aside0 (wc.heap[a6]? = some (.cells #[(.slice Ao20 b1.length co20),(.slice Ao22 b4.length co22),(.slice Ao23 b0.length co23),(.slice Ao24 b2.length co24),.bool false] 120 (0,0))) ∧ Aside0 (Below w.heap.size w wc))
     case first =>
      have H := HC37.out
      clear HC37
      have H' := As_ H
      clear H
      go_wp2
      go_loopg [10] k2 (fun kq v10 w' => ∃ (e5 : Int),v10 = .int .i64 e5 ∧ Aside0 (spec_EndOps.l2 kq l0 b9 i5 i3 e5 b1 b4 b0 b2 false = some (r1,r2)) ∧ Aside0 (kq ≤ k2) ∧ Aside0 (Kd.R k75 75 w' w.heap.size (fun _ => True) u6 i5) ∧ Aside0 (Kd.R (Kd.int .i64) 3 w' w.heap.size (fun k_ => some k_ ≠ ((.slice Ao23 b0.length co23) : Value).ownBlock ∧ some k_ ≠ ((.slice Ao24 b2.length co24) : Value).ownBlock) (.slice Ao20 b1.length co20) b1) ∧ Aside0 (Kd.R Kd.bool 4 w' w.heap.size (fun _ => True) (.slice Ao22 b4.length co22) b4) ∧ Aside0 (Kd.R (Kd.int .i64) 3 w' w.heap.size (fun k_ => some k_ ≠ ((.slice Ao20 b1.length co20) : Value).ownBlock ∧ some k_ ≠ ((.slice Ao24 b2.length co24) : Value).ownBlock) (.slice Ao23 b0.length co23) b0) ∧ Aside0 (Kd.R (Kd.int .i64) 3 w' w.heap.size (fun k_ => some k_ ≠ ((.slice Ao20 b1.length co20) : Value).ownBlock ∧ some k_ ≠ ((.slice Ao23 b0.length co23) : Value).ownBlock) (.slice Ao24 b2.length co24) b2) ∧ Aside0 (w'.heap[a6]? = some (.cells #[(.slice Ao20 b1.length co20),(.slice Ao22 b4.length co22),(.slice Ao23 b0.length co23),(.slice Ao24 b2.length co24),.bool false] 120 (0,0))) ∧ Aside0 (Below w.heap.size w w'))
      case atStart => exact ⟨(0),zT_,H',⟨Nat.le_refl _⟩,⟨b8.out⟩,⟨a3.out⟩,⟨a5.out⟩,⟨a2.out⟩,⟨a4.out⟩,⟨a1.out⟩,⟨zb1 HB.out a7.out⟩⟩
      case round =>
       clear H'
       obtain ⟨e5,rfl,HA,HK3,b8,a3,a5,a2,a4,a1,HB⟩ := hrel
       cases gk with
       | zero => exact absurd HA.out (fun h_ => (by cases h_))
       | succ k3 =>
        have H := HA.out
        clear HA
        simp only [spec_EndOps.l2] at H
        by_cases c38 : e5 < (b0.length : Int)
        rotate_left
        ·rw [if_neg c38] at H
         have l8 : decide (e5 < (b0.length : Int)) = false := deF c38
         clear c38
         (first|rw [l8]|(simp only [i64_w,i32_w];rw [l8])|skip)
         have H' := As_ H
         clear H
         have D0 : wr.cell? ⟨a6,0,none⟩ = some (.slice Ao20 b1.length co20) := (bkC a1.out 0).trans rfl
         have D1 : wr.cell? ⟨a6,1,none⟩ = some (.slice Ao22 b4.length co22) := (bkC a1.out 1).trans rfl
         have D2 : wr.cell? ⟨a6,2,none⟩ = some (.slice Ao23 b0.length co23) := (bkC a1.out 2).trans rfl
         have D3 : wr.cell? ⟨a6,3,none⟩ = some (.slice Ao24 b2.length co24) := (bkC a1.out 3).trans rfl
         have D4 : wr.cell? ⟨a6,4,none⟩ = some (.bool false) := (bkC a1.out 4).trans rfl
         have D5 := bkF a1.out 0
         have D6 := bkF a1.out 1
         have D7 := bkF a1.out 2
         have D8 := bkF a1.out 3
         have D9 := bkF a1.out 4
         go_wp2
         go_meet
         case rel => exact ⟨_,(e5),zT_,H',⟨by have := HK1.out;have := HK2.out;have := HK3.out;first|omega|exact Nat.le_refl _⟩,⟨b8.out⟩,⟨a3.out⟩,⟨a5.out⟩,⟨a2.out⟩,⟨a4.out⟩,⟨a1.out⟩,⟨zb1 HB.out a7.out⟩⟩
        rw [if_pos c38] at H
        have l8 : decide (e5 < (b0.length : Int)) = true := deT c38
        clear c38
        (first|rw [l8]|(simp only [i64_w,i32_w];rw [l8])|skip)
        by_cases c39 : 0 ≤ e5
        rotate_left
        ·rw [if_neg c39] at H
         exact absurd H (by simp)
        rw [if_pos c39] at H
        have I4 : decide (0 ≤ e5) = true := deT c39
        clear c39
        by_cases c40 : (rd b0 e5) ≥ 0
        rotate_left
        ·rw [if_neg c40] at H
         have p6 : decide (0 ≤ (rd b0 e5)) = false := deF c40
         clear c40
         have H' := As_ H
         clear H
         have E0 : wr.cell? ⟨a6,0,none⟩ = some (.slice Ao20 b1.length co20) := (bkC a1.out 0).trans rfl
         have E1 : wr.cell? ⟨a6,1,none⟩ = some (.slice Ao22 b4.length co22) := (bkC a1.out 1).trans rfl
         have E2 : wr.cell? ⟨a6,2,none⟩ = some (.slice Ao23 b0.length co23) := (bkC a1.out 2).trans rfl
         have E3 : wr.cell? ⟨a6,3,none⟩ = some (.slice Ao24 b2.length co24) := (bkC a1.out 3).trans rfl
         have E4 : wr.cell? ⟨a6,4,none⟩ = some (.bool false) := (bkC a1.out 4).trans rfl
         have E5 := bkF a1.out 0
         have E6 := bkF a1.out 1
         have E7 := bkF a1.out 2
         have E8 := bkF a1.out 3
         have E9 := bkF a1.out 4
         have p1045 : 0 ≤ (e5 : Int) := odT zA_
         have q1045 : e5 < (b0.length : Int) := odT zA_
         obtain ⟨ad1045,e1045,hx1045_0⟩ := Kd.at_int (Kd.R_reads' a2.out).2.2 e5 p1045 q1045
         cases e1045
         replace p1045 := eq_true p1045
         replace q1045 := eq_true q1045
         go_wp2
         go_meet
         case rel => exact ⟨_,(e5),zT_,H',⟨by have := HK1.out;have := HK2.out;have := HK3.out;first|omega|exact Nat.le_refl _⟩,⟨b8.out⟩,⟨a3.out⟩,⟨a5.out⟩,⟨a2.out⟩,⟨a4.out⟩,⟨a1.out⟩,⟨zb1 HB.out a7.out⟩⟩
        rw [if_pos c40] at H
        have p6 : decide (0 ≤ (rd b0 e5)) = true := deT c40
        clear c40
        have H' := As_ H
        clear H
        have F0 : wr.cell? ⟨a6,0,none⟩ = some (.slice Ao20 b1.length co20) := (bkC a1.out 0).trans rfl
        have F1 : wr.cell? ⟨a6,1,none⟩ = some (.slice Ao22 b4.length co22) := (bkC a1.out 1).trans rfl
        have F2 : wr.cell? ⟨a6,2,none⟩ = some (.slice Ao23 b0.length co23) := (bkC a1.out 2).trans rfl
        have F3 : wr.cell? ⟨a6,3,none⟩ = some (.slice Ao24 b2.length co24) := (bkC a1.out 3).trans rfl
        have F4 : wr.cell? ⟨a6,4,none⟩ = some (.bool false) := (bkC a1.out 4).trans rfl
        have F5 := bkF a1.out 0
        have F6 := bkF a1.out 1
        have F7 := bkF a1.out 2
        have F8 := bkF a1.out 3
        have F9 := bkF a1.out 4
        have p1045 : 0 ≤ (e5 : Int) := odT zA_
        have q1045 : e5 < (b0.length : Int) := odT zA_
        obtain ⟨ad1045,e1045,hx1045_0⟩ := Kd.at_int (Kd.R_reads' a2.out).2.2 e5 p1045 q1045
        cases e1045
        replace p1045 := eq_true p1045
        replace q1045 := eq_true q1045
        go_wp2
        go_roundg k3
        case measure => have := HK1.out;have := HK2.out;have := HK3.out;omega
        case rel => exact ⟨(wrap64 (e5 + 1)),zT_,H',⟨by have := HK1.out;have := HK2.out;have := HK3.out;omega⟩,⟨b8.out⟩,⟨a3.out⟩,⟨a5.out⟩,⟨a2.out⟩,⟨a4.out⟩,⟨a1.out⟩,⟨zb1 HB.out a7.out⟩⟩
     case rest =>
      clear HC37
      obtain ⟨kq,j0,rfl,HA,HJ36,b8,a3,a5,a2,a4,a1,HB⟩ := hcut
      cases kq with
      | zero => exact absurd HA.out (fun h_ => (by cases h_))
      | succ kj36 =>
       have H := HA.out
       clear HA
       simp only [spec_EndOps.j3] at H
       have HC44 := As_ H
       clear H
       go_upto_if 67 with (fail)
       go_cut [10] (fun v10 wc => ∃ (kq : Nat) (e7 : Int),v10 = .int .i64 e7 ∧ Aside0 (spec_EndOps.j4 kq l0 b9 i5 e7 = some (r1,r2)) ∧ Aside0 (kq ≤ kj36) ∧ Aside0 (Kd.R k75 75 wc w.heap.size (fun _ => True) u6 i5) ∧ Aside0 (Kd.R (Kd.int .i64) 3 wc w.heap.size (fun k_ => some k_ ≠ ((.slice Ao23 b0.length co23) : Value).ownBlock ∧ some k_ ≠ ((.slice Ao24 b2.length co24) : Value).ownBlock) (.slice Ao20 b1.length co20) b1) ∧ Aside0 (Kd.R Kd.bool 4 wc w.heap.size (fun _ => True) (.slice Ao22 b4.length co22) b4) ∧ Aside0 (Kd.R (Kd.int .i64) 3 wc w.heap.size (fun k_ => some k_ ≠ ((.slice Ao20 b1.length co20) : Value).ownBlock ∧ some k_ ≠ ((.slice Ao24 b2.length co24) : Value).ownBlock) (.slice Ao23 b0.length co23) b0) ∧ Aside0 (Kd.R (Kd.int .i64) 3 wc w.heap.size (fun k_ => some k_ ≠ ((.slice Ao20 b1.length co20) : Value).ownBlock ∧ some k_ ≠ ((.slice Ao23 b0.length co23) : Value).ownBlock) (.slice Ao24 b2.length co24) b2) ∧ Aside0 (wc.heap[a6]? = some (.cells #[(.slice Ao20 b1.length co20),(.slice Ao22 b4.length co22),(.slice Ao23 b0.length co23),(.slice Ao24 b2.length co24),.bool false] 120 (0,0))) ∧ Aside0 (Below w.heap.size w wc))
       case first =>
        have H := HC44.out
        clear HC44
        by_cases c45 : i3 > 0
        ·rw [if_pos c45] at H
         have l9 : decide (0 < i3) = true := deT c45
         clear c45
         (first|rw [l9]|(simp only [i64_w,i32_w];rw [l9])|skip)
         have H' := As_ H
         clear H
         go_wp2
         go_meet
         case rel => exact ⟨_,(wrap64 (j0 + 1)),zT_,H',⟨by have := HK1.out;have := HK2.out;have := HJ36.out;first|omega|exact Nat.le_refl _⟩,⟨b8.out⟩,⟨a3.out⟩,⟨a5.out⟩,⟨a2.out⟩,⟨a4.out⟩,⟨a1.out⟩,⟨zb1 HB.out a7.out⟩⟩
        rw [if_neg c45] at H
        have l9 : decide (0 < i3) = false := deF c45
        clear c45
        (first|rw [l9]|(simp only [i64_w,i32_w];rw [l9])|skip)
        have H' := As_ H
        clear H
        go_wp2
        go_meet
        case rel => exact ⟨_,(j0),zT_,H',⟨by have := HK1.out;have := HK2.out;have := HJ36.out;first|omega|exact Nat.le_refl _⟩,⟨b8.out⟩,⟨a3.out⟩,⟨a5.out⟩,⟨a2.out⟩,⟨a4.out⟩,⟨a1.out⟩,⟨zb1 HB.out a7.out⟩⟩
       case rest =>
        clear HC44
        obtain ⟨kq,e7,rfl,HA,HJ43,b8,a3,a5,a2,a4,a1,HB⟩ := hcut
        cases kq with
        | zero => exact absurd HA.out (fun h_ => (by cases h_))
        | succ kj43 =>
         have H := HA.out
         clear HA
         simp only [spec_EndOps.j4] at H
         have H' := As_ H
         clear H
         go_wp2
         go_loopg [6,11] kj43 (fun kq v6 v11 w' => ∃ (j1 : List (S75)) (i8 : Int),v11 = .int .i64 i8 ∧ Aside0 (spec_EndOps.l3 kq l0 b9 j1 e7 i8 = some (r1,r2)) ∧ Aside0 (kq ≤ kj43) ∧ Aside0 (Kd.R k75 75 w' w.heap.size (fun _ => True) v6 j1) ∧ Aside0 (Kd.R (Kd.int .i64) 3 w' w.heap.size (fun k_ => some k_ ≠ ((.slice Ao23 b0.length co23) : Value).ownBlock ∧ some k_ ≠ ((.slice Ao24 b2.length co24) : Value).ownBlock) (.slice Ao20 b1.length co20) b1) ∧ Aside0 (Kd.R Kd.bool 4 w' w.heap.size (fun _ => True) (.slice Ao22 b4.length co22) b4) ∧ Aside0 (Kd.R (Kd.int .i64) 3 w' w.heap.size (fun k_ => some k_ ≠ ((.slice Ao20 b1.length co20) : Value).ownBlock ∧ some k_ ≠ ((.slice Ao24 b2.length co24) : Value).ownBlock) (.slice Ao23 b0.length co23) b0) ∧ Aside0 (Kd.R (Kd.int .i64) 3 w' w.heap.size (fun k_ => some k_ ≠ ((.slice Ao20 b1.length co20) : Value).ownBlock ∧ some k_ ≠ ((.slice Ao23 b0.length co23) : Value).ownBlock) (.slice Ao24 b2.length co24) b2) ∧ Aside0 (w'.heap[a6]? = some (.cells #[(.slice Ao20 b1.length co20),(.slice Ao22 b4.length co22),(.slice Ao23 b0.length co23),(.slice Ao24 b2.length co24),.bool false] 120 (0,0))) ∧ Aside0 (Below w.heap.size w w'))
         case atStart => exact ⟨(i5),(1),zT_,H',⟨Nat.le_refl _⟩,⟨b8.out⟩,⟨a3.out⟩,⟨a5.out⟩,⟨a2.out⟩,⟨a4.out⟩,⟨a1.out⟩,⟨zb1 HB.out a7.out⟩⟩
         case round =>
          clear H'
          obtain ⟨j1,i8,rfl,HA,HK5,b8,a3,a5,a2,a4,a1,HB⟩ := hrel
          cases gk with
          | zero => exact absurd HA.out (fun h_ => (by cases h_))
          | succ k5 =>
           have H := HA.out
           clear HA
           simp only [spec_EndOps.l3] at H
           by_cases c46 : i8 < e7
           ·rw [if_pos c46] at H
            have p7 : decide (i8 < e7) = true := deT c46
            clear c46
            by_cases c47 : j1.length < 8796093022208
            rotate_left
            ·rw [if_neg c47] at H
             exact absurd H (by simp)
            rw [if_pos c47] at H
            have p8 := As_ c47
            clear c47
            obtain ⟨n9,m4⟩ : ∃ y_ : List (S75),y_ = (j1 ++ [(⟨6,0⟩ : S75)]) := ⟨_,rfl⟩
            replace H : (spec_EndOps.l3 k5 l0 b9 n9 e7 (wrap64 (i8 + 1))) = some (r1,r2) := zH_ H m4
            have o4 := As_ m4
            clear m4
            have H' := As_ H
            clear H
            go_wp2_with (first|((with_reducible refine gate_builtin (b := .append) (xs := #[.tmp 75,.tmp 77]) rfl ?_);(try (refine gate_guard (by rfl) ?_;dsimp only));at_builtin;refine Kd.R_append k75 (w0 := w) w.heap.size rfl (.tmp 75) (.tmp 77) 23 75 (.agg #[(.int .i64 0),(.int .i64 0)]) 16 rfl Try.underlying23 info75 rfl (by decide) (by omega) u6 j1 (⟨6,0⟩ : S75) [.int .i64 6,.int .i64 0] (fun _ => True) (fun _ => False) rfl rfl ?aP (fun _ hk => hk.elim) ?aF ?aO ?aB ?aS ?aL ?_;(case aP => exact k75_mkM _ _ _ (⟨6,0⟩ : S75));(case aB => exact (zb1 HB.out a7.out));(case aF => exact (fun _ _ => trivial));(case aO => exact (zR_ b8.out));(case aS => exact (bwZ (zb1 HB.out a7.out)));(case aL => have := p8.out;omega);intro v1047 w48 ho hb hg hat;rw [← o4.out] at ho;have n0_ := As_ (Kd.R_over' (zR_ a3.out) (Kd.R_typed (zR_ b8.out)) (by decide) hg);have n1_ := As_ (Kd.R_over' (zR_ a5.out) (Kd.R_typed (zR_ b8.out)) (by decide) hg);have n2_ := As_ (Kd.R_over' (zR_ a2.out) (Kd.R_typed (zR_ b8.out)) (by decide) hg);have n3_ := As_ (Kd.R_over' (zR_ a4.out) (Kd.R_typed (zR_ b8.out)) (by decide) hg);have n4_ := As_ (blk_grown (g := a6) (o := .cells #[.slice Ao20 b1.length co20,.slice Ao22 b4.length co22,.slice Ao23 b0.length co23,.slice Ao24 b2.length co24,.bool false] 120 (0,0)) (zk_ a1.out) hg (rne b8.out a1.out));have n5_ := As_ (hb);have n6_ := As_ (ho);clear a3 a5 a2 a4 a1 HB b8;revert n0_ n1_ n2_ n3_ n4_ n5_ n6_;intro a3 a5 a2 a4 a1 HB o5;clear ho hb hg hat))
            go_roundg k5
            case measure => have := HK1.out;have := HK2.out;have := HJ36.out;have := HJ43.out;have := HK5.out;omega
            case rel => exact ⟨(n9),(wrap64 (i8 + 1)),zT_,H',⟨by have := HK1.out;have := HK2.out;have := HJ36.out;have := HJ43.out;have := HK5.out;omega⟩,⟨o5.out⟩,⟨a3.out⟩,⟨a5.out⟩,⟨a2.out⟩,⟨a4.out⟩,⟨a1.out⟩,⟨zb1 HB.out a7.out⟩⟩
           rw [if_neg c46] at H
           have p7 : decide (i8 < e7) = false := deF c46
           clear c46
           have HC49 := As_ H
           clear H
           go_upto_if 80 with (fail)
           go_cut [6] (fun v6 wc => ∃ (kq : Nat) (i9 : List (S75)),Aside0 (spec_EndOps.j6 kq l0 b9 i9 = some (r1,r2)) ∧ Aside0 (kq ≤ k5) ∧ Aside0 (Kd.R k75 75 wc w.heap.size (fun _ => True) v6 i9) ∧ Aside0 (Kd.R (Kd.int .i64) 3 wc w.heap.size (fun k_ => some k_ ≠ ((.slice Ao23 b0.length co23) : Value).ownBlock ∧ some k_ ≠ ((.slice Ao24 b2.length co24) : Value).ownBlock) (.slice Ao20 b1.length co20) b1) ∧ Aside0 (Kd.R Kd.bool 4 wc w.heap.size (fun _ => True) (.slice Ao22 b4.length co22) b4) ∧ Aside0 (Kd.R (Kd.int .i64) 3 wc w.heap.size (fun k_ => some k_ ≠ ((.slice Ao20 b1.length co20) : Value).ownBlock ∧ some k_ ≠ ((.slice Ao24 b2.length co24) : Value).ownBlock) (.slice Ao23 b0.length co23) b0) ∧ Aside0 (Kd.R (Kd.int .i64) 3 wc w.heap.size (fun k_ => some k_ ≠ ((.slice Ao20 b1.length co20) : Value).ownBlock ∧ some k_ ≠ ((.slice Ao23 b0.length co23) : Value).ownBlock) (.slice Ao24 b2.length co24) b2) ∧ Aside0 (wc.heap[a6]? = some (.cells #[(.slice Ao20 b1.length co20),(.slice Ao22 b4.length co22),(.slice Ao23 b0.length co23),(.slice Ao24 b2.length co24),.bool false] 120 (0,0))) ∧ Aside0 (Below w.heap.size w wc))
           case first =>
            have H := HC49.out
            clear HC49
            by_cases c50 : e7 = 0
            rotate_left
            ·rw [if_neg c50] at H
             have m0 : (e7 == 0) = false := beq_eq_false_iff_ne.mpr c50
             have p9 : (e7 != 0) = true := bne_iff_ne.mpr c50
             (first|rw [m0]|(simp only [i64_w,i32_w];rw [m0])|skip)
             have H' := As_ H
             clear H
             go_wp2
             go_meet
             case rel => exact ⟨_,(j1),H',⟨by have := HK1.out;have := HK2.out;have := HJ36.out;have := HJ43.out;have := HK5.out;first|omega|exact Nat.le_refl _⟩,⟨b8.out⟩,⟨a3.out⟩,⟨a5.out⟩,⟨a2.out⟩,⟨a4.out⟩,⟨a1.out⟩,⟨zb1 HB.out a7.out⟩⟩
            rw [if_pos c50] at H
            have m0 : (e7 == 0) = true := beq_iff_eq.mpr c50
            have p9 : (e7 != 0) = false := bne_eq_false_iff_eq.mpr c50
            clear c50
            (first|rw [m0]|(simp only [i64_w,i32_w];rw [m0])|skip)
            by_cases c51 : j1.length < 8796093022208
            rotate_left
            ·rw [if_neg c51] at H
             exact absurd H (by simp)
            rw [if_pos c51] at H
            have q0 := As_ c51
            clear c51
            obtain ⟨o0,m5⟩ : ∃ y_ : List (S75),y_ = (j1 ++ [(⟨4,0⟩ : S75)]) := ⟨_,rfl⟩
            replace H : (spec_EndOps.j6 k5 l0 b9 o0) = some (r1,r2) := zH_ H m5
            have o6 := As_ m5
            clear m5
            have H' := As_ H
            clear H
            go_wp2_with (first|((with_reducible refine gate_builtin (b := .append) (xs := #[.tmp 81,.tmp 83]) rfl ?_);(try (refine gate_guard (by rfl) ?_;dsimp only));at_builtin;refine Kd.R_append k75 (w0 := w) w.heap.size rfl (.tmp 81) (.tmp 83) 23 75 (.agg #[(.int .i64 0),(.int .i64 0)]) 16 rfl Try.underlying23 info75 rfl (by decide) (by omega) u6 j1 (⟨4,0⟩ : S75) [.int .i64 4,.int .i64 0] (fun _ => True) (fun _ => False) rfl rfl ?aP (fun _ hk => hk.elim) ?aF ?aO ?aB ?aS ?aL ?_;(case aP => exact k75_mkM _ _ _ (⟨4,0⟩ : S75));(case aB => exact (zb1 HB.out a7.out));(case aF => exact (fun _ _ => trivial));(case aO => exact (zR_ b8.out));(case aS => exact (bwZ (zb1 HB.out a7.out)));(case aL => have := q0.out;omega);intro v1050 w52 ho hb hg hat;rw [← o6.out] at ho;have n0_ := As_ (Kd.R_over' (zR_ a3.out) (Kd.R_typed (zR_ b8.out)) (by decide) hg);have n1_ := As_ (Kd.R_over' (zR_ a5.out) (Kd.R_typed (zR_ b8.out)) (by decide) hg);have n2_ := As_ (Kd.R_over' (zR_ a2.out) (Kd.R_typed (zR_ b8.out)) (by decide) hg);have n3_ := As_ (Kd.R_over' (zR_ a4.out) (Kd.R_typed (zR_ b8.out)) (by decide) hg);have n4_ := As_ (blk_grown (g := a6) (o := .cells #[.slice Ao20 b1.length co20,.slice Ao22 b4.length co22,.slice Ao23 b0.length co23,.slice Ao24 b2.length co24,.bool false] 120 (0,0)) (zk_ a1.out) hg (rne b8.out a1.out));have n5_ := As_ (hb);have n6_ := As_ (ho);clear a3 a5 a2 a4 a1 HB b8;revert n0_ n1_ n2_ n3_ n4_ n5_ n6_;intro a3 a5 a2 a4 a1 HB o7;clear ho hb hg hat))
            go_meet
            case rel => exact ⟨_,(o0),H',⟨by have := HK1.out;have := HK2.out;have := HJ36.out;have := HJ43.out;have := HK5.out;first|omega|exact Nat.le_refl _⟩,⟨o7.out⟩,⟨a3.out⟩,⟨a5.out⟩,⟨a2.out⟩,⟨a4.out⟩,⟨a1.out⟩,⟨zb1 HB.out a7.out⟩⟩
           case rest =>
            clear HC49
            obtain ⟨kq,i9,HA,HJ48,b8,a3,a5,a2,a4,a1,HB⟩ := hcut
            cases kq with
            | zero => exact absurd HA.out (fun h_ => (by cases h_))
            | succ kj48 =>
             have H := HA.out
             clear HA
             simp only [spec_EndOps.j6] at H
             by_cases c53 : i9.length < 8796093022208
             rotate_left
             ·rw [if_neg c53] at H
              exact absurd H (by simp)
             rw [if_pos c53] at H
             have n4 := As_ c53
             clear c53
             obtain ⟨d0,m6⟩ : ∃ y_ : List (S75),y_ = (i9 ++ [(⟨19,0⟩ : S75)]) := ⟨_,rfl⟩
             replace H : ((some (([] : List (S75)) : List (S75))).bind fun g8 => (if 0 ≤ b9 then (if b9 ≤ (l0.length : Int) then ((some (l0.take (b9 : Int).toNat : List (S75))).bind fun d9 => (if g8.length + d9.length < 8796093022208 then ((some (g8 ++ d9 : List (S75))).bind fun e6 => (if e6.length + d0.length < 8796093022208 then ((some (e6 ++ d0 : List (S75))).bind fun b5 => ((spec_runShapes.f kj48 b5).bind fun g9 => ((spec_validOps.f kj48 b5).bind fun g7 => (if g7 = true then (if g9.2.2.2.2.2 < (b5.length : Int) then (some (([] : List (S75)),false)) else (some (d0,true))) else (some (([] : List (S75)),false)))))) else (none))) else (none))) else (none)) else (none))) = some (r1,r2) := zH_ H m6
             have m7 := As_ m6
             clear m6
             obtain ⟨g8,m8⟩ : ∃ y_ : List (S75),y_ = (([] : List (S75))) := ⟨_,rfl⟩
             replace H : (if 0 ≤ b9 then (if b9 ≤ (l0.length : Int) then ((some (l0.take (b9 : Int).toNat : List (S75))).bind fun d9 => (if g8.length + d9.length < 8796093022208 then ((some (g8 ++ d9 : List (S75))).bind fun e6 => (if e6.length + d0.length < 8796093022208 then ((some (e6 ++ d0 : List (S75))).bind fun b5 => ((spec_runShapes.f kj48 b5).bind fun g9 => ((spec_validOps.f kj48 b5).bind fun g7 => (if g7 = true then (if g9.2.2.2.2.2 < (b5.length : Int) then (some (([] : List (S75)),false)) else (some (d0,true))) else (some (([] : List (S75)),false)))))) else (none))) else (none))) else (none)) else (none)) = some (r1,r2) := zH_ H m8
             have i6 := As_ m8
             clear m8
             by_cases c54 : 0 ≤ b9
             rotate_left
             ·rw [if_neg c54] at H
              exact absurd H (by simp)
             rw [if_pos c54] at H
             have I5 := eq_true c54
             have I6 : decide (0 ≤ b9) = true := deT c54
             clear c54
             by_cases c55 : b9 ≤ (l0.length : Int)
             rotate_left
             ·rw [if_neg c55] at H
              exact absurd H (by simp)
             rw [if_pos c55] at H
             have I7 := eq_true c55
             have I8 : decide (b9 ≤ (l0.length : Int)) = true := deT c55
             clear c55
             obtain ⟨d9,m9⟩ : ∃ y_ : List (S75),y_ = (l0.take (b9 : Int).toNat) := ⟨_,rfl⟩
             replace H : (if g8.length + d9.length < 8796093022208 then ((some (g8 ++ d9 : List (S75))).bind fun e6 => (if e6.length + d0.length < 8796093022208 then ((some (e6 ++ d0 : List (S75))).bind fun b5 => ((spec_runShapes.f kj48 b5).bind fun g9 => ((spec_validOps.f kj48 b5).bind fun g7 => (if g7 = true then (if g9.2.2.2.2.2 < (b5.length : Int) then (some (([] : List (S75)),false)) else (some (d0,true))) else (some (([] : List (S75)),false)))))) else (none))) else (none)) = some (r1,r2) := zH_ H m9
             have i7 := As_ m9
             clear m9
             by_cases c56 : g8.length + d9.length < 8796093022208
             rotate_left
             ·rw [if_neg c56] at H
              exact absurd H (by simp)
             rw [if_pos c56] at H
             have n5 := As_ c56
             clear c56
             obtain ⟨e6,n0⟩ : ∃ y_ : List (S75),y_ = (g8 ++ d9) := ⟨_,rfl⟩
             replace H : (if e6.length + d0.length < 8796093022208 then ((some (e6 ++ d0 : List (S75))).bind fun b5 => ((spec_runShapes.f kj48 b5).bind fun g9 => ((spec_validOps.f kj48 b5).bind fun g7 => (if g7 = true then (if g9.2.2.2.2.2 < (b5.length : Int) then (some (([] : List (S75)),false)) else (some (d0,true))) else (some (([] : List (S75)),false)))))) else (none)) = some (r1,r2) := zH_ H n0
             have n1 := As_ n0
             clear n0
             by_cases c57 : e6.length + d0.length < 8796093022208
             rotate_left
             ·rw [if_neg c57] at H
              exact absurd H (by simp)
             rw [if_pos c57] at H
             have n6 := As_ c57
             clear c57
             obtain ⟨b5,n2⟩ : ∃ y_ : List (S75),y_ = (e6 ++ d0) := ⟨_,rfl⟩
             replace H : ((spec_runShapes.f kj48 b5).bind fun g9 => ((spec_validOps.f kj48 b5).bind fun g7 => (if g7 = true then (if g9.2.2.2.2.2 < (b5.length : Int) then (some (([] : List (S75)),false)) else (some (d0,true))) else (some (([] : List (S75)),false))))) = some (r1,r2) := zH_ H n2
             have n3 := As_ n2
             clear n2
             replace H := obS H
             obtain ⟨⟨j5,j7,j8,j9,l4,i4⟩,A580,H⟩ := H
             replace H : ((spec_validOps.f kj48 b5).bind fun g7 => (if g7 = true then (if i4 < (b5.length : Int) then (some (([] : List (S75)),false)) else (some (d0,true))) else (some (([] : List (S75)),false)))) = some (r1,r2) := H
             have A58 := As_ A580
             clear A580
             replace H := obS H
             obtain ⟨g7,A590,H⟩ := H
             replace H : (if g7 = true then (if i4 < (b5.length : Int) then (some (([] : List (S75)),false)) else (some (d0,true))) else (some (([] : List (S75)),false))) = some (r1,r2) := H
             have A59 := As_ A590
             clear A590
             by_cases c60 : g7 = true
             rotate_left
             ·replace c60 := Bool.eq_false_iff.mpr c60
              subst c60
              have H1 : (some (([] : List (S75)),false)) = some (r1,r2) := by rw [if_neg (show ¬ (false = true) by decide)] at H;exact H
              clear H
              have H := H1
              clear H1
              simp only [Option.some.injEq,Prod.mk.injEq] at H
              obtain ⟨rfl,rfl⟩ := H
              go_wp2_with (first|((with_reducible refine gate_builtin (b := .append) (xs := #[.tmp 85,.tmp 87]) rfl ?_);(try (refine gate_guard (by rfl) ?_;dsimp only));at_builtin;refine Kd.R_append k75 (w0 := w) w.heap.size rfl (.tmp 85) (.tmp 87) 23 75 (.agg #[(.int .i64 0),(.int .i64 0)]) 16 rfl Try.underlying23 info75 rfl (by decide) (by omega) u6 i9 (⟨19,0⟩ : S75) [.int .i64 19,.int .i64 0] (fun _ => True) (fun _ => False) rfl rfl ?aP (fun _ hk => hk.elim) ?aF ?aO ?aB ?aS ?aL ?_;(case aP => exact k75_mkM _ _ _ (⟨19,0⟩ : S75));(case aB => exact (zb1 HB.out a7.out));(case aF => exact (fun _ _ => trivial));(case aO => exact (zR_ b8.out));(case aS => exact (bwZ (zb1 HB.out a7.out)));(case aL => have := n4.out;omega);intro v1053 w96 ho hb hg hat;rw [← m7.out] at ho;have n0_ := As_ (Kd.R_over' (zR_ a3.out) (Kd.R_typed (zR_ b8.out)) (by decide) hg);have n1_ := As_ (Kd.R_over' (zR_ a5.out) (Kd.R_typed (zR_ b8.out)) (by decide) hg);have n2_ := As_ (Kd.R_over' (zR_ a2.out) (Kd.R_typed (zR_ b8.out)) (by decide) hg);have n3_ := As_ (Kd.R_over' (zR_ a4.out) (Kd.R_typed (zR_ b8.out)) (by decide) hg);have n4_ := As_ (blk_grown (g := a6) (o := .cells #[.slice Ao20 b1.length co20,.slice Ao22 b4.length co22,.slice Ao23 b0.length co23,.slice Ao24 b2.length co24,.bool false] 120 (0,0)) (zk_ a1.out) hg (rne b8.out a1.out));have n5_ := As_ (hb);have n6_ := As_ (ho);clear a3 a5 a2 a4 a1 HB b8;revert n0_ n1_ n2_ n3_ n4_ n5_ n6_;intro a3 a5 a2 a4 a1 HB a9;clear ho hb hg hat)|((with_reducible refine gate_dst (N := 89) rfl ?_);(try (refine gate_guard (by rfl) ?_;dsimp only));refine Kd.R_lit k75 _ 75 ?hg (N := 89) ?hd (xs := ([] : List (S75))) (inner := []) (ok := fun _ => True) (okp := fun _ => True) ?hr ?hp (fun _ hk => hk) trivial (Below.refl _ _) (Nat.le_refl _) (by simp) ?_;(case hd => rfl);(case hg => rfl);(case hr => go_simp <;> rfl);(case hp => exact (Reps.none _ _));intro v1056 w97 ho98 hb hg_ hnew_;clear hg_ hnew_;(first|rw [← i6.out] at ho98|(simp only [Int.reduceToNat] at ho98;rw [← i6.out] at ho98));have n0_ := As_ (Kd.R_below (zR_ a3.out) hb);have n1_ := As_ (Kd.R_below (zR_ a5.out) hb);have n2_ := As_ (Kd.R_below (zR_ a2.out) hb);have n3_ := As_ (Kd.R_below (zR_ a4.out) hb);have n4_ := As_ (Kd.R_elder' (zR_ a9.out) (Kd.R_base ho98) hb);have n5_ := As_ (Kd.R_lower (Kd.R_new' ho98 (Kd.R_lt (zR_ a9.out))) (bwZ (zb1 HB.out a7.out)));have n6_ := As_ (zkb a1.out hb);have n7_ := As_ (bwT (zb1 HB.out a7.out) hb);clear a3 a5 a2 a4 a9 a1 HB;revert n0_ n1_ n2_ n3_ n4_ n5_ n6_ n7_;intro a3 a5 a2 a4 a9 d1 a1 HB;clear hb ho98;have q99 : (b9 : Int) ≤ ((l0.length : Int) : Int) := odT zA_;obtain ⟨i099,hi099,_,hsz99,_⟩ := info_parts info75;have hroom99 : l0.length ≤ c0 := HC0.out;have hC99 : Kd.C k75 _ A0 l0.length l0 := HR0.out;have hcut99 := cut_to (P := Try.prog) 23 75 .i64 Try.underlying23 hi099 A0 l0.length c0 b9 (odT zA_) q99 hroom99;have hr99 := Kd.C_take (m := (b9 : Int).toNat) hC99 (by omega);have o8 : d9.length = (b9 : Int).toNat := (by rw [i7.out,List.length_take];omega);rw [← i7.out] at hr99;rw [← o8] at hcut99;have HR1061 := As_ hr99;have HC1061 := As_ (show d9.length ≤ c0 from by omega);clear hr99 hC99 hroom99 hi099 hsz99;have KY99 := As_ o8;clear o8;replace q99 := eq_true q99)|((with_reducible refine gate_builtin (b := .append) (xs := #[.tmp 89,.tmp 92]) rfl ?_);(try (refine gate_guard (by rfl) ?_;dsimp only));at_builtin;refine Kd.R_append_rows k75 (w0 := w) w.heap.size rfl (.tmp 89) (.tmp 92) 23 75 (.agg #[(.int .i64 0),(.int .i64 0)]) 16 rfl Try.underlying23 info75 rfl (by decide) (by omega) v1056 g8 d9 _ _ _ (fun k_ => some k_ ≠ (v1053 : Value).ownBlock) (fun _ => False) rfl rfl ?aO ?aR (fun _ _ h => h) (fun _ h => h.elim) ?aF ?aB ?aS ?aL ?_;(case aR => exact zC_ (Kd.C_below HR1061.out HB.out));(case aB => exact (zb1 HB.out a7.out));(case aF => exact (fun k_ hk => Kd.fresh' (Kd.R_lt (zR_ a9.out)) k_ hk));(case aO => exact (by exact Kd.R_mono d1.out (fun _ hk => hk.2)));(case aS => exact (bwZ (zb1 HB.out a7.out)));(case aL => have := n5.out;omega);intro v1063 w100 ho hb hg hat;rw [← n1.out] at ho;have n0_ := As_ (Kd.R_over' (zR_ a3.out) (Kd.R_typed (zR_ d1.out)) (by decide) hg);have n1_ := As_ (Kd.R_over' (zR_ a5.out) (Kd.R_typed (zR_ d1.out)) (by decide) hg);have n2_ := As_ (Kd.R_over' (zR_ a2.out) (Kd.R_typed (zR_ d1.out)) (by decide) hg);have n3_ := As_ (Kd.R_over' (zR_ a4.out) (Kd.R_typed (zR_ d1.out)) (by decide) hg);have n4_ := As_ (blk_grown (g := a6) (o := .cells #[.slice Ao20 b1.length co20,.slice Ao22 b4.length co22,.slice Ao23 b0.length co23,.slice Ao24 b2.length co24,.bool false] 120 (0,0)) (zk_ a1.out) hg (rne d1.out a1.out));have n5_ := As_ (Kd.R_after (ok := (fun _ => True)) (zR_ a9.out) hg hat);have n6_ := As_ (hb);have n7_ := As_ (ho);clear a3 a5 a2 a4 a1 a9 HB d1;revert n0_ n1_ n2_ n3_ n4_ n5_ n6_ n7_;intro a3 a5 a2 a4 a1 a9 HB d2;clear ho hb hg hat;obtain ⟨Ao102,co102,eo102⟩ := Kd.R_slice a9.out;subst eo102)|((with_reducible refine gate_builtin (b := .append) (xs := #[.tmp 93,.tmp 94]) rfl ?_);(try (refine gate_guard (by rfl) ?_;dsimp only));at_builtin;refine Kd.R_append_rows k75 (w0 := w) w.heap.size rfl (.tmp 93) (.tmp 94) 23 75 (.agg #[(.int .i64 0),(.int .i64 0)]) 16 rfl Try.underlying23 info75 rfl (by decide) (by omega) v1063 e6 d0 _ _ _ (fun k_ => some k_ ≠ (.slice Ao102 d0.length co102 : Value).ownBlock) (fun _ => False) rfl rfl ?aO ?aR (fun _ _ h => h) (fun _ h => h.elim) ?aF ?aB ?aS ?aL ?_;(case aR => exact zC_ (Kd.R_reads' a9.out).2.2);(case aB => exact (zb1 HB.out a7.out));(case aF => exact (fun k_ hk => Kd.fresh' (Kd.R_lt (zR_ a9.out)) k_ hk));(case aO => exact (zR_ d2.out));(case aS => exact (bwZ (zb1 HB.out a7.out)));(case aL => have := n6.out;omega);intro v1066 w101 ho hb hg hat;rw [← n3.out] at ho;have n0_ := As_ (Kd.R_over' (zR_ a3.out) (Kd.R_typed (zR_ d2.out)) (by decide) hg);have n1_ := As_ (Kd.R_over' (zR_ a5.out) (Kd.R_typed (zR_ d2.out)) (by decide) hg);have n2_ := As_ (Kd.R_over' (zR_ a2.out) (Kd.R_typed (zR_ d2.out)) (by decide) hg);have n3_ := As_ (Kd.R_over' (zR_ a4.out) (Kd.R_typed (zR_ d2.out)) (by decide) hg);have n4_ := As_ (blk_grown (g := a6) (o := .cells #[.slice Ao20 b1.length co20,.slice Ao22 b4.length co22,.slice Ao23 b0.length co23,.slice Ao24 b2.length co24,.bool false] 120 (0,0)) (zk_ a1.out) hg (rne d2.out a1.out));have n5_ := As_ (Kd.R_after (ok := (fun _ => True)) (zR_ a9.out) hg hat);have n6_ := As_ (hb);have n7_ := As_ (ho);clear a3 a5 a2 a4 a1 a9 HB d2;revert n0_ n1_ n2_ n3_ n4_ n5_ n6_ n7_;intro a3 a5 a2 a4 a1 a9 HB b3;clear ho hb hg hat;obtain ⟨Ao103,co103,eo103⟩ := Kd.R_slice b3.out;subst eo103)|((with_reducible refine gate_callee (f := 118) rfl ?_);refine goesL_ (some 98) rfl rfl Try.func118 (by kernel_rfl) rfl #[.slice Ao103 b5.length co103] rfl zM_ ?_;(with_reducible refine (spec_runShapes.calls kj48 _ _ b5 j5 j7 j8 j9 l4 i4 _ ?side1 ?side2 A58.out).mono ?_);(case side1 => exact zC_ (Kd.R_reads' b3.out).2.2);(case side2 => exact (Kd.R_reads' b3.out).2.1);rintro e w104 ⟨v1069,v1072,v1075,v1078,rfl,ho0,ho1,ho2,ho3,hb⟩;refine ⟨_,rfl,?_⟩;have n0_ := As_ (Kd.R_mono (Kd.R_told (Kd.R_told (Kd.R_told (Kd.R_old (zR_ a3.out) hb) (Kd.R_base ho0)) (Kd.R_base ho2)) (Kd.R_base ho3)) (fun _ h_ => h_.1));have n1_ := As_ (Kd.R_elder' (zR_ a5.out) (Kd.R_base ho1) hb);have n2_ := As_ (Kd.R_mono (Kd.R_told (Kd.R_told (Kd.R_told (Kd.R_old (zR_ a2.out) hb) (Kd.R_base ho0)) (Kd.R_base ho2)) (Kd.R_base ho3)) (fun _ h_ => h_.1));have n3_ := As_ (Kd.R_mono (Kd.R_told (Kd.R_told (Kd.R_told (Kd.R_old (zR_ a4.out) hb) (Kd.R_base ho0)) (Kd.R_base ho2)) (Kd.R_base ho3)) (fun _ h_ => h_.1));have n4_ := As_ (Kd.R_below (zR_ a9.out) hb);have n5_ := As_ (Kd.R_below (zR_ b3.out) hb);have n6_ := As_ (Kd.R_lower (Kd.R_new' (Kd.R_new' (Kd.R_new' ho0 (Kd.R_lt (zR_ a3.out))) (Kd.R_lt (zR_ a2.out))) (Kd.R_lt (zR_ a4.out))) (bwZ (zb1 HB.out a7.out)));have n7_ := As_ (Kd.R_lower (Kd.R_new' ho1 (Kd.R_lt (zR_ a5.out))) (bwZ (zb1 HB.out a7.out)));have n8_ := As_ (Kd.R_lower (Kd.R_new' (Kd.R_new' (Kd.R_new' ho2 (Kd.R_lt (zR_ a3.out))) (Kd.R_lt (zR_ a2.out))) (Kd.R_lt (zR_ a4.out))) (bwZ (zb1 HB.out a7.out)));have n9_ := As_ (Kd.R_lower (Kd.R_new' (Kd.R_new' (Kd.R_new' ho3 (Kd.R_lt (zR_ a3.out))) (Kd.R_lt (zR_ a2.out))) (Kd.R_lt (zR_ a4.out))) (bwZ (zb1 HB.out a7.out)));have n10_ := As_ (zkb a1.out hb);have n11_ := As_ (bwT (zb1 HB.out a7.out) hb);clear a3 a5 a2 a4 a9 b3 a1 HB;revert n0_ n1_ n2_ n3_ n4_ n5_ n6_ n7_ n8_ n9_ n10_ n11_;intro a3 a5 a2 a4 a9 b3 d3 d4 d5 d6 a1 HB)|((with_reducible refine gate_dst (N := 13) rfl ?_);(try (refine gate_guard (by rfl) ?_;dsimp only));refine box_event ?hg (N := 13) ?hd (cs := #[.slice none 0 0,.slice none 0 0,.slice none 0 0,.slice none 0 0,.bool false]) (t := 120) ?hr ?_;(case hd => rfl);(case hg => rfl);(case hr => go_simp <;> rfl);intro b6 hg w105 hbox hb;have n0_ := As_ (Kd.R_below (zR_ a3.out) hb);have n1_ := As_ (Kd.R_below (zR_ a5.out) hb);have n2_ := As_ (Kd.R_below (zR_ a2.out) hb);have n3_ := As_ (Kd.R_below (zR_ a4.out) hb);have n4_ := As_ (Kd.R_below (zR_ a9.out) hb);have n5_ := As_ (Kd.R_below (zR_ b3.out) hb);have n6_ := As_ (Kd.R_below (zR_ d3.out) hb);have n7_ := As_ (Kd.R_below (zR_ d4.out) hb);have n8_ := As_ (Kd.R_below (zR_ d5.out) hb);have n9_ := As_ (Kd.R_below (zR_ d6.out) hb);have n10_ := As_ (zkb a1.out hb);have n11_ := As_ (bwT (zb1 HB.out a7.out) hb);have n12_ := As_ (hbox);have n13_ := As_ ((by rw [hg];exact (bwZ (zb1 HB.out a7.out)) : w.heap.size ≤ b6));have n14_ := As_ ((by rw [hg];exact (bwZ (zb1 HB.out a7.out)) : w.heap.size ≤ b6));have n15_ := As_ ((by rw [hg];exact Nat.ne_of_lt (zkl a1.out) : a6 ≠ b6));have n16_ := As_ ((by rw [hg];exact Nat.ne_of_gt (zkl a1.out) : b6 ≠ a6));clear a3 a5 a2 a4 a9 b3 d3 d4 d5 d6 a1 HB;revert n0_ n1_ n2_ n3_ n4_ n5_ n6_ n7_ n8_ n9_ n10_ n11_ n12_ n13_ n14_ n15_ n16_;intro a3 a5 a2 a4 a9 b3 d3 d4 d5 d6 a1 HB a8 n7 i2 d7 g6;clear hb hbox hg;obtain ⟨Ao106,co106,eo106⟩ := Kd.R_slice d3.out;subst eo106;have I1 := g6.out;have I2 := d7.out;have q1 : w105.cell? ⟨b6,0,none⟩ = some (.slice none 0 0) := (bkC a8.out 0).trans rfl;have q2 : w105.cell? ⟨b6,1,none⟩ = some (.slice none 0 0) := (bkC a8.out 1).trans rfl;have q3 : w105.cell? ⟨b6,2,none⟩ = some (.slice none 0 0) := (bkC a8.out 2).trans rfl;have q4 : w105.cell? ⟨b6,3,none⟩ = some (.slice none 0 0) := (bkC a8.out 3).trans rfl;have q5 : w105.cell? ⟨b6,4,none⟩ = some (.bool false) := (bkC a8.out 4).trans rfl;have q6 := bkF a8.out 0;have q7 := bkF a8.out 1;have q8 := bkF a8.out 2;have q9 := bkF a8.out 3;have r0 := bkF a8.out 4;obtain ⟨Ao109,co109,eo109⟩ := Kd.R_slice d4.out;subst eo109;obtain ⟨Ao110,co110,eo110⟩ := Kd.R_slice d5.out;subst eo110;obtain ⟨Ao111,co111,eo111⟩ := Kd.R_slice d6.out;subst eo111)|((with_reducible refine gate_callee (f := 55) rfl ?_);refine goesL_ (some 102) rfl rfl Try.func55 (by kernel_rfl) rfl #[.slice Ao103 b5.length co103] rfl zM_ ?_;(with_reducible refine (spec_validOps.calls kj48 _ _ b5 false _ ?side1 ?side2 A59.out).mono ?_);(case side1 => refine (Kd.R_reads' (e := 75) (base := w.heap.size) (ok := fun k_ => some k_ ≠ (.slice Ao102 d0.length co102 : Value).ownBlock) (n := b5.length) (c := co103) ?_).2.2;exact (by exact (Kd.R_mono (rX5 b3.out a8.out) (fun _ h_ => h_.1))));(case side2 => exact (Kd.R_reads' b3.out).2.1);rintro e w112 ⟨rfl,hb⟩;refine ⟨_,rfl,?_⟩;have n0_ := As_ (Kd.R_below (by exact (Kd.R_mono (rX5 a3.out a8.out) (fun _ h_ => h_.1))) hb);have n1_ := As_ (Kd.R_below (by exact (Kd.R_mono (rX5 a5.out a8.out) (fun _ h_ => h_.1))) hb);have n2_ := As_ (Kd.R_below (by exact (Kd.R_mono (rX5 a2.out a8.out) (fun _ h_ => h_.1))) hb);have n3_ := As_ (Kd.R_below (by exact (Kd.R_mono (rX5 a4.out a8.out) (fun _ h_ => h_.1))) hb);have n4_ := As_ (Kd.R_below (by exact (Kd.R_mono (rX5 a9.out a8.out) (fun _ h_ => h_.1))) hb);have n5_ := As_ (Kd.R_below (by exact (Kd.R_mono (rX5 b3.out a8.out) (fun _ h_ => h_.1))) hb);have n6_ := As_ (Kd.R_below (by exact (Kd.R_mono (rX5 d3.out a8.out) (fun _ h_ => h_.1))) hb);have n7_ := As_ (Kd.R_below (by exact (Kd.R_mono (rX5 d4.out a8.out) (fun _ h_ => h_.1))) hb);have n8_ := As_ (Kd.R_below (by exact (Kd.R_mono (rX5 d5.out a8.out) (fun _ h_ => h_.1))) hb);have n9_ := As_ (Kd.R_below (by exact (Kd.R_mono (rX5 d6.out a8.out) (fun _ h_ => h_.1))) hb);have n10_ := As_ (blk_below (g := a6) (o := .cells #[.slice Ao20 b1.length co20,.slice Ao22 b4.length co22,.slice Ao23 b0.length co23,.slice Ao24 b2.length co24,.bool false] 120 (0,0)) (f5 d7.out a1.out) hb);have n11_ := As_ (blk_below (g := b6) (o := .cells #[.slice Ao106 j5.length co106,.slice Ao109 j7.length co109,.slice Ao110 j8.length co110,.slice Ao111 j9.length co111,.bool l4] 120 (0,0)) (p5 a8.out) hb);have n12_ := As_ (bwT (zb2 HB.out a7.out i2.out) hb);clear a3 a5 a2 a4 a9 b3 d3 d4 d5 d6 a1 a8 HB;revert n0_ n1_ n2_ n3_ n4_ n5_ n6_ n7_ n8_ n9_ n10_ n11_ n12_;intro a3 a5 a2 a4 a9 b3 d3 d4 d5 d6 a1 a8 HB))
              go_ret2
              exact ⟨_,zE_,by first|exact Kd.R_nil _ _ _ _ _|exact Kd.N_nil _ _ _ _ _|exact Kd.V_nil _ _ _ _ _|exact Kd.Q_nil _ _ _ _ _|exact Kd.S_nil _ _ _ _ _,zb2 HB.out a7.out i2.out⟩
             subst c60
             have H1 : (if i4 < (b5.length : Int) then (some (([] : List (S75)),false)) else (some (d0,true))) = some (r1,r2) := by rw [if_pos rfl] at H;exact H
             clear H
             have H := H1
             clear H1
             by_cases c61 : i4 < (b5.length : Int)
             ·rw [if_pos c61] at H
              have r3 : decide (i4 < (b5.length : Int)) = true := deT c61
              clear c61
              simp only [Option.some.injEq,Prod.mk.injEq] at H
              obtain ⟨rfl,rfl⟩ := H
              go_wp2_with (first|((with_reducible refine gate_builtin (b := .append) (xs := #[.tmp 85,.tmp 87]) rfl ?_);(try (refine gate_guard (by rfl) ?_;dsimp only));at_builtin;refine Kd.R_append k75 (w0 := w) w.heap.size rfl (.tmp 85) (.tmp 87) 23 75 (.agg #[(.int .i64 0),(.int .i64 0)]) 16 rfl Try.underlying23 info75 rfl (by decide) (by omega) u6 i9 (⟨19,0⟩ : S75) [.int .i64 19,.int .i64 0] (fun _ => True) (fun _ => False) rfl rfl ?aP (fun _ hk => hk.elim) ?aF ?aO ?aB ?aS ?aL ?_;(case aP => exact k75_mkM _ _ _ (⟨19,0⟩ : S75));(case aB => exact (zb1 HB.out a7.out));(case aF => exact (fun _ _ => trivial));(case aO => exact (zR_ b8.out));(case aS => exact (bwZ (zb1 HB.out a7.out)));(case aL => have := n4.out;omega);intro v1053 w62 ho hb hg hat;rw [← m7.out] at ho;have n0_ := As_ (Kd.R_over' (zR_ a3.out) (Kd.R_typed (zR_ b8.out)) (by decide) hg);have n1_ := As_ (Kd.R_over' (zR_ a5.out) (Kd.R_typed (zR_ b8.out)) (by decide) hg);have n2_ := As_ (Kd.R_over' (zR_ a2.out) (Kd.R_typed (zR_ b8.out)) (by decide) hg);have n3_ := As_ (Kd.R_over' (zR_ a4.out) (Kd.R_typed (zR_ b8.out)) (by decide) hg);have n4_ := As_ (blk_grown (g := a6) (o := .cells #[.slice Ao20 b1.length co20,.slice Ao22 b4.length co22,.slice Ao23 b0.length co23,.slice Ao24 b2.length co24,.bool false] 120 (0,0)) (zk_ a1.out) hg (rne b8.out a1.out));have n5_ := As_ (hb);have n6_ := As_ (ho);clear a3 a5 a2 a4 a1 HB b8;revert n0_ n1_ n2_ n3_ n4_ n5_ n6_;intro a3 a5 a2 a4 a1 HB a9;clear ho hb hg hat)|((with_reducible refine gate_dst (N := 89) rfl ?_);(try (refine gate_guard (by rfl) ?_;dsimp only));refine Kd.R_lit k75 _ 75 ?hg (N := 89) ?hd (xs := ([] : List (S75))) (inner := []) (ok := fun _ => True) (okp := fun _ => True) ?hr ?hp (fun _ hk => hk) trivial (Below.refl _ _) (Nat.le_refl _) (by simp) ?_;(case hd => rfl);(case hg => rfl);(case hr => go_simp <;> rfl);(case hp => exact (Reps.none _ _));intro v1056 w63 ho64 hb hg_ hnew_;clear hg_ hnew_;(first|rw [← i6.out] at ho64|(simp only [Int.reduceToNat] at ho64;rw [← i6.out] at ho64));have n0_ := As_ (Kd.R_below (zR_ a3.out) hb);have n1_ := As_ (Kd.R_below (zR_ a5.out) hb);have n2_ := As_ (Kd.R_below (zR_ a2.out) hb);have n3_ := As_ (Kd.R_below (zR_ a4.out) hb);have n4_ := As_ (Kd.R_elder' (zR_ a9.out) (Kd.R_base ho64) hb);have n5_ := As_ (Kd.R_lower (Kd.R_new' ho64 (Kd.R_lt (zR_ a9.out))) (bwZ (zb1 HB.out a7.out)));have n6_ := As_ (zkb a1.out hb);have n7_ := As_ (bwT (zb1 HB.out a7.out) hb);clear a3 a5 a2 a4 a9 a1 HB;revert n0_ n1_ n2_ n3_ n4_ n5_ n6_ n7_;intro a3 a5 a2 a4 a9 d1 a1 HB;clear hb ho64;have q65 : (b9 : Int) ≤ ((l0.length : Int) : Int) := odT zA_;obtain ⟨i065,hi065,_,hsz65,_⟩ := info_parts info75;have hroom65 : l0.length ≤ c0 := HC0.out;have hC65 : Kd.C k75 _ A0 l0.length l0 := HR0.out;have hcut65 := cut_to (P := Try.prog) 23 75 .i64 Try.underlying23 hi065 A0 l0.length c0 b9 (odT zA_) q65 hroom65;have hr65 := Kd.C_take (m := (b9 : Int).toNat) hC65 (by omega);have o9 : d9.length = (b9 : Int).toNat := (by rw [i7.out,List.length_take];omega);rw [← i7.out] at hr65;rw [← o9] at hcut65;have HR1061 := As_ hr65;have HC1061 := As_ (show d9.length ≤ c0 from by omega);clear hr65 hC65 hroom65 hi065 hsz65;have KY65 := As_ o9;clear o9;replace q65 := eq_true q65)|((with_reducible refine gate_builtin (b := .append) (xs := #[.tmp 89,.tmp 92]) rfl ?_);(try (refine gate_guard (by rfl) ?_;dsimp only));at_builtin;refine Kd.R_append_rows k75 (w0 := w) w.heap.size rfl (.tmp 89) (.tmp 92) 23 75 (.agg #[(.int .i64 0),(.int .i64 0)]) 16 rfl Try.underlying23 info75 rfl (by decide) (by omega) v1056 g8 d9 _ _ _ (fun k_ => some k_ ≠ (v1053 : Value).ownBlock) (fun _ => False) rfl rfl ?aO ?aR (fun _ _ h => h) (fun _ h => h.elim) ?aF ?aB ?aS ?aL ?_;(case aR => exact zC_ (Kd.C_below HR1061.out HB.out));(case aB => exact (zb1 HB.out a7.out));(case aF => exact (fun k_ hk => Kd.fresh' (Kd.R_lt (zR_ a9.out)) k_ hk));(case aO => exact (by exact Kd.R_mono d1.out (fun _ hk => hk.2)));(case aS => exact (bwZ (zb1 HB.out a7.out)));(case aL => have := n5.out;omega);intro v1063 w66 ho hb hg hat;rw [← n1.out] at ho;have n0_ := As_ (Kd.R_over' (zR_ a3.out) (Kd.R_typed (zR_ d1.out)) (by decide) hg);have n1_ := As_ (Kd.R_over' (zR_ a5.out) (Kd.R_typed (zR_ d1.out)) (by decide) hg);have n2_ := As_ (Kd.R_over' (zR_ a2.out) (Kd.R_typed (zR_ d1.out)) (by decide) hg);have n3_ := As_ (Kd.R_over' (zR_ a4.out) (Kd.R_typed (zR_ d1.out)) (by decide) hg);have n4_ := As_ (blk_grown (g := a6) (o := .cells #[.slice Ao20 b1.length co20,.slice Ao22 b4.length co22,.slice Ao23 b0.length co23,.slice Ao24 b2.length co24,.bool false] 120 (0,0)) (zk_ a1.out) hg (rne d1.out a1.out));have n5_ := As_ (Kd.R_after (ok := (fun _ => True)) (zR_ a9.out) hg hat);have n6_ := As_ (hb);have n7_ := As_ (ho);clear a3 a5 a2 a4 a1 a9 HB d1;revert n0_ n1_ n2_ n3_ n4_ n5_ n6_ n7_;intro a3 a5 a2 a4 a1 a9 HB d2;clear ho hb hg hat;obtain ⟨Ao68,co68,eo68⟩ := Kd.R_slice a9.out;subst eo68)|((with_reducible refine gate_builtin (b := .append) (xs := #[.tmp 93,.tmp 94]) rfl ?_);(try (refine gate_guard (by rfl) ?_;dsimp only));at_builtin;refine Kd.R_append_rows k75 (w0 := w) w.heap.size rfl (.tmp 93) (.tmp 94) 23 75 (.agg #[(.int .i64 0),(.int .i64 0)]) 16 rfl Try.underlying23 info75 rfl (by decide) (by omega) v1063 e6 d0 _ _ _ (fun k_ => some k_ ≠ (.slice Ao68 d0.length co68 : Value).ownBlock) (fun _ => False) rfl rfl ?aO ?aR (fun _ _ h => h) (fun _ h => h.elim) ?aF ?aB ?aS ?aL ?_;(case aR => exact zC_ (Kd.R_reads' a9.out).2.2);(case aB => exact (zb1 HB.out a7.out));(case aF => exact (fun k_ hk => Kd.fresh' (Kd.R_lt (zR_ a9.out)) k_ hk));(case aO => exact (zR_ d2.out));(case aS => exact (bwZ (zb1 HB.out a7.out)));(case aL => have := n6.out;omega);intro v1066 w67 ho hb hg hat;rw [← n3.out] at ho;have n0_ := As_ (Kd.R_over' (zR_ a3.out) (Kd.R_typed (zR_ d2.out)) (by decide) hg);have n1_ := As_ (Kd.R_over' (zR_ a5.out) (Kd.R_typed (zR_ d2.out)) (by decide) hg);have n2_ := As_ (Kd.R_over' (zR_ a2.out) (Kd.R_typed (zR_ d2.out)) (by decide) hg);have n3_ := As_ (Kd.R_over' (zR_ a4.out) (Kd.R_typed (zR_ d2.out)) (by decide) hg);have n4_ := As_ (blk_grown (g := a6) (o := .cells #[.slice Ao20 b1.length co20,.slice Ao22 b4.length co22,.slice Ao23 b0.length co23,.slice Ao24 b2.length co24,.bool false] 120 (0,0)) (zk_ a1.out) hg (rne d2.out a1.out));have n5_ := As_ (Kd.R_after (ok := (fun _ => True)) (zR_ a9.out) hg hat);have n6_ := As_ (hb);have n7_ := As_ (ho);clear a3 a5 a2 a4 a1 a9 HB d2;revert n0_ n1_ n2_ n3_ n4_ n5_ n6_ n7_;intro a3 a5 a2 a4 a1 a9 HB b3;clear ho hb hg hat;obtain ⟨Ao69,co69,eo69⟩ := Kd.R_slice b3.out;subst eo69)|((with_reducible refine gate_callee (f := 118) rfl ?_);refine goesL_ (some 98) rfl rfl Try.func118 (by kernel_rfl) rfl #[.slice Ao69 b5.length co69] rfl zM_ ?_;(with_reducible refine (spec_runShapes.calls kj48 _ _ b5 j5 j7 j8 j9 l4 i4 _ ?side1 ?side2 A58.out).mono ?_);(case side1 => exact zC_ (Kd.R_reads' b3.out).2.2);(case side2 => exact (Kd.R_reads' b3.out).2.1);rintro e w70 ⟨v1069,v1072,v1075,v1078,rfl,ho0,ho1,ho2,ho3,hb⟩;refine ⟨_,rfl,?_⟩;have n0_ := As_ (Kd.R_mono (Kd.R_told (Kd.R_told (Kd.R_told (Kd.R_old (zR_ a3.out) hb) (Kd.R_base ho0)) (Kd.R_base ho2)) (Kd.R_base ho3)) (fun _ h_ => h_.1));have n1_ := As_ (Kd.R_elder' (zR_ a5.out) (Kd.R_base ho1) hb);have n2_ := As_ (Kd.R_mono (Kd.R_told (Kd.R_told (Kd.R_told (Kd.R_old (zR_ a2.out) hb) (Kd.R_base ho0)) (Kd.R_base ho2)) (Kd.R_base ho3)) (fun _ h_ => h_.1));have n3_ := As_ (Kd.R_mono (Kd.R_told (Kd.R_told (Kd.R_told (Kd.R_old (zR_ a4.out) hb) (Kd.R_base ho0)) (Kd.R_base ho2)) (Kd.R_base ho3)) (fun _ h_ => h_.1));have n4_ := As_ (Kd.R_below (zR_ a9.out) hb);have n5_ := As_ (Kd.R_below (zR_ b3.out) hb);have n6_ := As_ (Kd.R_lower (Kd.R_new' (Kd.R_new' (Kd.R_new' ho0 (Kd.R_lt (zR_ a3.out))) (Kd.R_lt (zR_ a2.out))) (Kd.R_lt (zR_ a4.out))) (bwZ (zb1 HB.out a7.out)));have n7_ := As_ (Kd.R_lower (Kd.R_new' ho1 (Kd.R_lt (zR_ a5.out))) (bwZ (zb1 HB.out a7.out)));have n8_ := As_ (Kd.R_lower (Kd.R_new' (Kd.R_new' (Kd.R_new' ho2 (Kd.R_lt (zR_ a3.out))) (Kd.R_lt (zR_ a2.out))) (Kd.R_lt (zR_ a4.out))) (bwZ (zb1 HB.out a7.out)));have n9_ := As_ (Kd.R_lower (Kd.R_new' (Kd.R_new' (Kd.R_new' ho3 (Kd.R_lt (zR_ a3.out))) (Kd.R_lt (zR_ a2.out))) (Kd.R_lt (zR_ a4.out))) (bwZ (zb1 HB.out a7.out)));have n10_ := As_ (zkb a1.out hb);have n11_ := As_ (bwT (zb1 HB.out a7.out) hb);clear a3 a5 a2 a4 a9 b3 a1 HB;revert n0_ n1_ n2_ n3_ n4_ n5_ n6_ n7_ n8_ n9_ n10_ n11_;intro a3 a5 a2 a4 a9 b3 d3 d4 d5 d6 a1 HB)|((with_reducible refine gate_dst (N := 13) rfl ?_);(try (refine gate_guard (by rfl) ?_;dsimp only));refine box_event ?hg (N := 13) ?hd (cs := #[.slice none 0 0,.slice none 0 0,.slice none 0 0,.slice none 0 0,.bool false]) (t := 120) ?hr ?_;(case hd => rfl);(case hg => rfl);(case hr => go_simp <;> rfl);intro b6 hg w71 hbox hb;have n0_ := As_ (Kd.R_below (zR_ a3.out) hb);have n1_ := As_ (Kd.R_below (zR_ a5.out) hb);have n2_ := As_ (Kd.R_below (zR_ a2.out) hb);have n3_ := As_ (Kd.R_below (zR_ a4.out) hb);have n4_ := As_ (Kd.R_below (zR_ a9.out) hb);have n5_ := As_ (Kd.R_below (zR_ b3.out) hb);have n6_ := As_ (Kd.R_below (zR_ d3.out) hb);have n7_ := As_ (Kd.R_below (zR_ d4.out) hb);have n8_ := As_ (Kd.R_below (zR_ d5.out) hb);have n9_ := As_ (Kd.R_below (zR_ d6.out) hb);have n10_ := As_ (zkb a1.out hb);have n11_ := As_ (bwT (zb1 HB.out a7.out) hb);have n12_ := As_ (hbox);have n13_ := As_ ((by rw [hg];exact (bwZ (zb1 HB.out a7.out)) : w.heap.size ≤ b6));have n14_ := As_ ((by rw [hg];exact (bwZ (zb1 HB.out a7.out)) : w.heap.size ≤ b6));have n15_ := As_ ((by rw [hg];exact Nat.ne_of_lt (zkl a1.out) : a6 ≠ b6));have n16_ := As_ ((by rw [hg];exact Nat.ne_of_gt (zkl a1.out) : b6 ≠ a6));clear a3 a5 a2 a4 a9 b3 d3 d4 d5 d6 a1 HB;revert n0_ n1_ n2_ n3_ n4_ n5_ n6_ n7_ n8_ n9_ n10_ n11_ n12_ n13_ n14_ n15_ n16_;intro a3 a5 a2 a4 a9 b3 d3 d4 d5 d6 a1 HB a8 n7 i2 d7 g6;clear hb hbox hg;obtain ⟨Ao72,co72,eo72⟩ := Kd.R_slice d3.out;subst eo72;have I9 := g6.out;have J0 := d7.out;have G0 : w71.cell? ⟨b6,0,none⟩ = some (.slice none 0 0) := (bkC a8.out 0).trans rfl;have G1 : w71.cell? ⟨b6,1,none⟩ = some (.slice none 0 0) := (bkC a8.out 1).trans rfl;have G2 : w71.cell? ⟨b6,2,none⟩ = some (.slice none 0 0) := (bkC a8.out 2).trans rfl;have G3 : w71.cell? ⟨b6,3,none⟩ = some (.slice none 0 0) := (bkC a8.out 3).trans rfl;have G4 : w71.cell? ⟨b6,4,none⟩ = some (.bool false) := (bkC a8.out 4).trans rfl;have G5 := bkF a8.out 0;have G6 := bkF a8.out 1;have G7 := bkF a8.out 2;have G8 := bkF a8.out 3;have G9 := bkF a8.out 4;obtain ⟨Ao75,co75,eo75⟩ := Kd.R_slice d4.out;subst eo75;obtain ⟨Ao76,co76,eo76⟩ := Kd.R_slice d5.out;subst eo76;obtain ⟨Ao77,co77,eo77⟩ := Kd.R_slice d6.out;subst eo77)|((with_reducible refine gate_callee (f := 55) rfl ?_);refine goesL_ (some 102) rfl rfl Try.func55 (by kernel_rfl) rfl #[.slice Ao69 b5.length co69] rfl zM_ ?_;(with_reducible refine (spec_validOps.calls kj48 _ _ b5 true _ ?side1 ?side2 A59.out).mono ?_);(case side1 => refine (Kd.R_reads' (e := 75) (base := w.heap.size) (ok := fun k_ => some k_ ≠ (.slice Ao68 d0.length co68 : Value).ownBlock) (n := b5.length) (c := co69) ?_).2.2;exact (by exact (Kd.R_mono (rX5 b3.out a8.out) (fun _ h_ => h_.1))));(case side2 => exact (Kd.R_reads' b3.out).2.1);rintro e w78 ⟨rfl,hb⟩;refine ⟨_,rfl,?_⟩;have n0_ := As_ (Kd.R_below (by exact (Kd.R_mono (rX5 a3.out a8.out) (fun _ h_ => h_.1))) hb);have n1_ := As_ (Kd.R_below (by exact (Kd.R_mono (rX5 a5.out a8.out) (fun _ h_ => h_.1))) hb);have n2_ := As_ (Kd.R_below (by exact (Kd.R_mono (rX5 a2.out a8.out) (fun _ h_ => h_.1))) hb);have n3_ := As_ (Kd.R_below (by exact (Kd.R_mono (rX5 a4.out a8.out) (fun _ h_ => h_.1))) hb);have n4_ := As_ (Kd.R_below (by exact (Kd.R_mono (rX5 a9.out a8.out) (fun _ h_ => h_.1))) hb);have n5_ := As_ (Kd.R_below (by exact (Kd.R_mono (rX5 b3.out a8.out) (fun _ h_ => h_.1))) hb);have n6_ := As_ (Kd.R_below (by exact (Kd.R_mono (rX5 d3.out a8.out) (fun _ h_ => h_.1))) hb);have n7_ := As_ (Kd.R_below (by exact (Kd.R_mono (rX5 d4.out a8.out) (fun _ h_ => h_.1))) hb);have n8_ := As_ (Kd.R_below (by exact (Kd.R_mono (rX5 d5.out a8.out) (fun _ h_ => h_.1))) hb);have n9_ := As_ (Kd.R_below (by exact (Kd.R_mono (rX5 d6.out a8.out) (fun _ h_ => h_.1))) hb);have n10_ := As_ (blk_below (g := a6) (o := .cells #[.slice Ao20 b1.length co20,.slice Ao22 b4.length co22,.slice Ao23 b0.length co23,.slice Ao24 b2.length co24,.bool false] 120 (0,0)) (f5 d7.out a1.out) hb);have n11_ := As_ (blk_below (g := b6) (o := .cells #[.slice Ao72 j5.length co72,.slice Ao75 j7.length co75,.slice Ao76 j8.length co76,.slice Ao77 j9.length co77,.bool l4] 120 (0,0)) (p5 a8.out) hb);have n12_ := As_ (bwT (zb2 HB.out a7.out i2.out) hb);clear a3 a5 a2 a4 a9 b3 d3 d4 d5 d6 a1 a8 HB;revert n0_ n1_ n2_ n3_ n4_ n5_ n6_ n7_ n8_ n9_ n10_ n11_ n12_;intro a3 a5 a2 a4 a9 b3 d3 d4 d5 d6 a1 a8 HB))
              go_ret2
              exact ⟨_,zE_,by first|exact Kd.R_nil _ _ _ _ _|exact Kd.N_nil _ _ _ _ _|exact Kd.V_nil _ _ _ _ _|exact Kd.Q_nil _ _ _ _ _|exact Kd.S_nil _ _ _ _ _,zb2 HB.out a7.out i2.out⟩
             rw [if_neg c61] at H
             have r3 : decide (i4 < (b5.length : Int)) = false := deF c61
             clear c61
             simp only [Option.some.injEq,Prod.mk.injEq] at H
             obtain ⟨rfl,rfl⟩ := H
             go_wp2_with (first|((with_reducible refine gate_builtin (b := .append) (xs := #[.tmp 85,.tmp 87]) rfl ?_);(try (refine gate_guard (by rfl) ?_;dsimp only));at_builtin;refine Kd.R_append k75 (w0 := w) w.heap.size rfl (.tmp 85) (.tmp 87) 23 75 (.agg #[(.int .i64 0),(.int .i64 0)]) 16 rfl Try.underlying23 info75 rfl (by decide) (by omega) u6 i9 (⟨19,0⟩ : S75) [.int .i64 19,.int .i64 0] (fun _ => True) (fun _ => False) rfl rfl ?aP (fun _ hk => hk.elim) ?aF ?aO ?aB ?aS ?aL ?_;(case aP => exact k75_mkM _ _ _ (⟨19,0⟩ : S75));(case aB => exact (zb1 HB.out a7.out));(case aF => exact (fun _ _ => trivial));(case aO => exact (zR_ b8.out));(case aS => exact (bwZ (zb1 HB.out a7.out)));(case aL => have := n4.out;omega);intro v1053 w79 ho hb hg hat;rw [← m7.out] at ho;have n0_ := As_ (Kd.R_over' (zR_ a3.out) (Kd.R_typed (zR_ b8.out)) (by decide) hg);have n1_ := As_ (Kd.R_over' (zR_ a5.out) (Kd.R_typed (zR_ b8.out)) (by decide) hg);have n2_ := As_ (Kd.R_over' (zR_ a2.out) (Kd.R_typed (zR_ b8.out)) (by decide) hg);have n3_ := As_ (Kd.R_over' (zR_ a4.out) (Kd.R_typed (zR_ b8.out)) (by decide) hg);have n4_ := As_ (blk_grown (g := a6) (o := .cells #[.slice Ao20 b1.length co20,.slice Ao22 b4.length co22,.slice Ao23 b0.length co23,.slice Ao24 b2.length co24,.bool false] 120 (0,0)) (zk_ a1.out) hg (rne b8.out a1.out));have n5_ := As_ (hb);have n6_ := As_ (ho);clear a3 a5 a2 a4 a1 HB b8;revert n0_ n1_ n2_ n3_ n4_ n5_ n6_;intro a3 a5 a2 a4 a1 HB a9;clear ho hb hg hat)|((with_reducible refine gate_dst (N := 89) rfl ?_);(try (refine gate_guard (by rfl) ?_;dsimp only));refine Kd.R_lit k75 _ 75 ?hg (N := 89) ?hd (xs := ([] : List (S75))) (inner := []) (ok := fun _ => True) (okp := fun _ => True) ?hr ?hp (fun _ hk => hk) trivial (Below.refl _ _) (Nat.le_refl _) (by simp) ?_;(case hd => rfl);(case hg => rfl);(case hr => go_simp <;> rfl);(case hp => exact (Reps.none _ _));intro v1056 w80 ho81 hb hg_ hnew_;clear hg_ hnew_;(first|rw [← i6.out] at ho81|(simp only [Int.reduceToNat] at ho81;rw [← i6.out] at ho81));have n0_ := As_ (Kd.R_below (zR_ a3.out) hb);have n1_ := As_ (Kd.R_below (zR_ a5.out) hb);have n2_ := As_ (Kd.R_below (zR_ a2.out) hb);have n3_ := As_ (Kd.R_below (zR_ a4.out) hb);have n4_ := As_ (Kd.R_elder' (zR_ a9.out) (Kd.R_base ho81) hb);have n5_ := As_ (Kd.R_lower (Kd.R_new' ho81 (Kd.R_lt (zR_ a9.out))) (bwZ (zb1 HB.out a7.out)));have n6_ := As_ (zkb a1.out hb);have n7_ := As_ (bwT (zb1 HB.out a7.out) hb);clear a3 a5 a2 a4 a9 a1 HB;revert n0_ n1_ n2_ n3_ n4_ n5_ n6_ n7_;intro a3 a5 a2 a4 a9 d1 a1 HB;clear hb ho81;have q82 : (b9 : Int) ≤ ((l0.length : Int) : Int) := odT zA_;obtain ⟨i082,hi082,_,hsz82,_⟩ := info_parts info75;have hroom82 : l0.length ≤ c0 := HC0.out;have hC82 : Kd.C k75 _ A0 l0.length l0 := HR0.out;have hcut82 := cut_to (P := Try.prog) 23 75 .i64 Try.underlying23 hi082 A0 l0.length c0 b9 (odT zA_) q82 hroom82;have hr82 := Kd.C_take (m := (b9 : Int).toNat) hC82 (by omega);have p0 : d9.length = (b9 : Int).toNat := (by rw [i7.out,List.length_take];omega);rw [← i7.out] at hr82;rw [← p0] at hcut82;have HR1061 := As_ hr82;have HC1061 := As_ (show d9.length ≤ c0 from by omega);clear hr82 hC82 hroom82 hi082 hsz82;have KY82 := As_ p0;clear p0;replace q82 := eq_true q82)|((with_reducible refine gate_builtin (b := .append) (xs := #[.tmp 89,.tmp 92]) rfl ?_);(try (refine gate_guard (by rfl) ?_;dsimp only));at_builtin;refine Kd.R_append_rows k75 (w0 := w) w.heap.size rfl (.tmp 89) (.tmp 92) 23 75 (.agg #[(.int .i64 0),(.int .i64 0)]) 16 rfl Try.underlying23 info75 rfl (by decide) (by omega) v1056 g8 d9 _ _ _ (fun k_ => some k_ ≠ (v1053 : Value).ownBlock) (fun _ => False) rfl rfl ?aO ?aR (fun _ _ h => h) (fun _ h => h.elim) ?aF ?aB ?aS ?aL ?_;(case aR => exact zC_ (Kd.C_below HR1061.out HB.out));(case aB => exact (zb1 HB.out a7.out));(case aF => exact (fun k_ hk => Kd.fresh' (Kd.R_lt (zR_ a9.out)) k_ hk));(case aO => exact (by exact Kd.R_mono d1.out (fun _ hk => hk.2)));(case aS => exact (bwZ (zb1 HB.out a7.out)));(case aL => have := n5.out;omega);intro v1063 w83 ho hb hg hat;rw [← n1.out] at ho;have n0_ := As_ (Kd.R_over' (zR_ a3.out) (Kd.R_typed (zR_ d1.out)) (by decide) hg);have n1_ := As_ (Kd.R_over' (zR_ a5.out) (Kd.R_typed (zR_ d1.out)) (by decide) hg);have n2_ := As_ (Kd.R_over' (zR_ a2.out) (Kd.R_typed (zR_ d1.out)) (by decide) hg);have n3_ := As_ (Kd.R_over' (zR_ a4.out) (Kd.R_typed (zR_ d1.out)) (by decide) hg);have n4_ := As_ (blk_grown (g := a6) (o := .cells #[.slice Ao20 b1.length co20,.slice Ao22 b4.length co22,.slice Ao23 b0.length co23,.slice Ao24 b2.length co24,.bool false] 120 (0,0)) (zk_ a1.out) hg (rne d1.out a1.out));have n5_ := As_ (Kd.R_after (ok := (fun _ => True)) (zR_ a9.out) hg hat);have n6_ := As_ (hb);have n7_ := As_ (ho);clear a3 a5 a2 a4 a1 a9 HB d1;revert n0_ n1_ n2_ n3_ n4_ n5_ n6_ n7_;intro a3 a5 a2 a4 a1 a9 HB d2;clear ho hb hg hat;obtain ⟨Ao85,co85,eo85⟩ := Kd.R_slice a9.out;subst eo85)|((with_reducible refine gate_builtin (b := .append) (xs := #[.tmp 93,.tmp 94]) rfl ?_);(try (refine gate_guard (by rfl) ?_;dsimp only));at_builtin;refine Kd.R_append_rows k75 (w0 := w) w.heap.size rfl (.tmp 93) (.tmp 94) 23 75 (.agg #[(.int .i64 0),(.int .i64 0)]) 16 rfl Try.underlying23 info75 rfl (by decide) (by omega) v1063 e6 d0 _ _ _ (fun k_ => some k_ ≠ (.slice Ao85 d0.length co85 : Value).ownBlock) (fun _ => False) rfl rfl ?aO ?aR (fun _ _ h => h) (fun _ h => h.elim) ?aF ?aB ?aS ?aL ?_;(case aR => exact zC_ (Kd.R_reads' a9.out).2.2);(case aB => exact (zb1 HB.out a7.out));(case aF => exact (fun k_ hk => Kd.fresh' (Kd.R_lt (zR_ a9.out)) k_ hk));(case aO => exact (zR_ d2.out));(case aS => exact (bwZ (zb1 HB.out a7.out)));(case aL => have := n6.out;omega);intro v1066 w84 ho hb hg hat;rw [← n3.out] at ho;have n0_ := As_ (Kd.R_over' (zR_ a3.out) (Kd.R_typed (zR_ d2.out)) (by decide) hg);have n1_ := As_ (Kd.R_over' (zR_ a5.out) (Kd.R_typed (zR_ d2.out)) (by decide) hg);have n2_ := As_ (Kd.R_over' (zR_ a2.out) (Kd.R_typed (zR_ d2.out)) (by decide) hg);have n3_ := As_ (Kd.R_over' (zR_ a4.out) (Kd.R_typed (zR_ d2.out)) (by decide) hg);have n4_ := As_ (blk_grown (g := a6) (o := .cells #[.slice Ao20 b1.length co20,.slice Ao22 b4.length co22,.slice Ao23 b0.length co23,.slice Ao24 b2.length co24,.bool false] 120 (0,0)) (zk_ a1.out) hg (rne d2.out a1.out));have n5_ := As_ (Kd.R_after (ok := (fun _ => True)) (zR_ a9.out) hg hat);have n6_ := As_ (hb);have n7_ := As_ (ho);clear a3 a5 a2 a4 a1 a9 HB d2;revert n0_ n1_ n2_ n3_ n4_ n5_ n6_ n7_;intro a3 a5 a2 a4 a1 a9 HB b3;clear ho hb hg hat;obtain ⟨Ao86,co86,eo86⟩ := Kd.R_slice b3.out;subst eo86)|((with_reducible refine gate_callee (f := 118) rfl ?_);refine goesL_ (some 98) rfl rfl Try.func118 (by kernel_rfl) rfl #[.slice Ao86 b5.length co86] rfl zM_ ?_;(with_reducible refine (spec_runShapes.calls kj48 _ _ b5 j5 j7 j8 j9 l4 i4 _ ?side1 ?side2 A58.out).mono ?_);(case side1 => exact zC_ (Kd.R_reads' b3.out).2.2);(case side2 => exact (Kd.R_reads' b3.out).2.1);rintro e w87 ⟨v1069,v1072,v1075,v1078,rfl,ho0,ho1,ho2,ho3,hb⟩;refine ⟨_,rfl,?_⟩;have n0_ := As_ (Kd.R_mono (Kd.R_told (Kd.R_told (Kd.R_told (Kd.R_old (zR_ a3.out) hb) (Kd.R_base ho0)) (Kd.R_base ho2)) (Kd.R_base ho3)) (fun _ h_ => h_.1));have n1_ := As_ (Kd.R_elder' (zR_ a5.out) (Kd.R_base ho1) hb);have n2_ := As_ (Kd.R_mono (Kd.R_told (Kd.R_told (Kd.R_told (Kd.R_old (zR_ a2.out) hb) (Kd.R_base ho0)) (Kd.R_base ho2)) (Kd.R_base ho3)) (fun _ h_ => h_.1));have n3_ := As_ (Kd.R_mono (Kd.R_told (Kd.R_told (Kd.R_told (Kd.R_old (zR_ a4.out) hb) (Kd.R_base ho0)) (Kd.R_base ho2)) (Kd.R_base ho3)) (fun _ h_ => h_.1));have n4_ := As_ (Kd.R_below (zR_ a9.out) hb);have n5_ := As_ (Kd.R_below (zR_ b3.out) hb);have n6_ := As_ (Kd.R_lower (Kd.R_new' (Kd.R_new' (Kd.R_new' ho0 (Kd.R_lt (zR_ a3.out))) (Kd.R_lt (zR_ a2.out))) (Kd.R_lt (zR_ a4.out))) (bwZ (zb1 HB.out a7.out)));have n7_ := As_ (Kd.R_lower (Kd.R_new' ho1 (Kd.R_lt (zR_ a5.out))) (bwZ (zb1 HB.out a7.out)));have n8_ := As_ (Kd.R_lower (Kd.R_new' (Kd.R_new' (Kd.R_new' ho2 (Kd.R_lt (zR_ a3.out))) (Kd.R_lt (zR_ a2.out))) (Kd.R_lt (zR_ a4.out))) (bwZ (zb1 HB.out a7.out)));have n9_ := As_ (Kd.R_lower (Kd.R_new' (Kd.R_new' (Kd.R_new' ho3 (Kd.R_lt (zR_ a3.out))) (Kd.R_lt (zR_ a2.out))) (Kd.R_lt (zR_ a4.out))) (bwZ (zb1 HB.out a7.out)));have n10_ := As_ (zkb a1.out hb);have n11_ := As_ (bwT (zb1 HB.out a7.out) hb);clear a3 a5 a2 a4 a9 b3 a1 HB;revert n0_ n1_ n2_ n3_ n4_ n5_ n6_ n7_ n8_ n9_ n10_ n11_;intro a3 a5 a2 a4 a9 b3 d3 d4 d5 d6 a1 HB)|((with_reducible refine gate_dst (N := 13) rfl ?_);(try (refine gate_guard (by rfl) ?_;dsimp only));refine box_event ?hg (N := 13) ?hd (cs := #[.slice none 0 0,.slice none 0 0,.slice none 0 0,.slice none 0 0,.bool false]) (t := 120) ?hr ?_;(case hd => rfl);(case hg => rfl);(case hr => go_simp <;> rfl);intro b6 hg w88 hbox hb;have n0_ := As_ (Kd.R_below (zR_ a3.out) hb);have n1_ := As_ (Kd.R_below (zR_ a5.out) hb);have n2_ := As_ (Kd.R_below (zR_ a2.out) hb);have n3_ := As_ (Kd.R_below (zR_ a4.out) hb);have n4_ := As_ (Kd.R_below (zR_ a9.out) hb);have n5_ := As_ (Kd.R_below (zR_ b3.out) hb);have n6_ := As_ (Kd.R_below (zR_ d3.out) hb);have n7_ := As_ (Kd.R_below (zR_ d4.out) hb);have n8_ := As_ (Kd.R_below (zR_ d5.out) hb);have n9_ := As_ (Kd.R_below (zR_ d6.out) hb);have n10_ := As_ (zkb a1.out hb);have n11_ := As_ (bwT (zb1 HB.out a7.out) hb);have n12_ := As_ (hbox);have n13_ := As_ ((by rw [hg];exact (bwZ (zb1 HB.out a7.out)) : w.heap.size ≤ b6));have n14_ := As_ ((by rw [hg];exact (bwZ (zb1 HB.out a7.out)) : w.heap.size ≤ b6));have n15_ := As_ ((by rw [hg];exact Nat.ne_of_lt (zkl a1.out) : a6 ≠ b6));have n16_ := As_ ((by rw [hg];exact Nat.ne_of_gt (zkl a1.out) : b6 ≠ a6));clear a3 a5 a2 a4 a9 b3 d3 d4 d5 d6 a1 HB;revert n0_ n1_ n2_ n3_ n4_ n5_ n6_ n7_ n8_ n9_ n10_ n11_ n12_ n13_ n14_ n15_ n16_;intro a3 a5 a2 a4 a9 b3 d3 d4 d5 d6 a1 HB a8 n7 i2 d7 g6;clear hb hbox hg;obtain ⟨Ao89,co89,eo89⟩ := Kd.R_slice d3.out;subst eo89;have J1 := g6.out;have J2 := d7.out;have H0 : w88.cell? ⟨b6,0,none⟩ = some (.slice none 0 0) := (bkC a8.out 0).trans rfl;have H2 : w88.cell? ⟨b6,1,none⟩ = some (.slice none 0 0) := (bkC a8.out 1).trans rfl;have H3 : w88.cell? ⟨b6,2,none⟩ = some (.slice none 0 0) := (bkC a8.out 2).trans rfl;have H4 : w88.cell? ⟨b6,3,none⟩ = some (.slice none 0 0) := (bkC a8.out 3).trans rfl;have H5 : w88.cell? ⟨b6,4,none⟩ = some (.bool false) := (bkC a8.out 4).trans rfl;have H6 := bkF a8.out 0;have H7 := bkF a8.out 1;have H8 := bkF a8.out 2;have H9 := bkF a8.out 3;have I0 := bkF a8.out 4;obtain ⟨Ao92,co92,eo92⟩ := Kd.R_slice d4.out;subst eo92;obtain ⟨Ao93,co93,eo93⟩ := Kd.R_slice d5.out;subst eo93;obtain ⟨Ao94,co94,eo94⟩ := Kd.R_slice d6.out;subst eo94)|((with_reducible refine gate_callee (f := 55) rfl ?_);refine goesL_ (some 102) rfl rfl Try.func55 (by kernel_rfl) rfl #[.slice Ao86 b5.length co86] rfl zM_ ?_;(with_reducible refine (spec_validOps.calls kj48 _ _ b5 true _ ?side1 ?side2 A59.out).mono ?_);(case side1 => refine (Kd.R_reads' (e := 75) (base := w.heap.size) (ok := fun k_ => some k_ ≠ (.slice Ao85 d0.length co85 : Value).ownBlock) (n := b5.length) (c := co86) ?_).2.2;exact (by exact (Kd.R_mono (rX5 b3.out a8.out) (fun _ h_ => h_.1))));(case side2 => exact (Kd.R_reads' b3.out).2.1);rintro e w95 ⟨rfl,hb⟩;refine ⟨_,rfl,?_⟩;have n0_ := As_ (Kd.R_below (by exact (Kd.R_mono (rX5 a3.out a8.out) (fun _ h_ => h_.1))) hb);have n1_ := As_ (Kd.R_below (by exact (Kd.R_mono (rX5 a5.out a8.out) (fun _ h_ => h_.1))) hb);have n2_ := As_ (Kd.R_below (by exact (Kd.R_mono (rX5 a2.out a8.out) (fun _ h_ => h_.1))) hb);have n3_ := As_ (Kd.R_below (by exact (Kd.R_mono (rX5 a4.out a8.out) (fun _ h_ => h_.1))) hb);have n4_ := As_ (Kd.R_below (by exact (Kd.R_mono (rX5 a9.out a8.out) (fun _ h_ => h_.1))) hb);have n5_ := As_ (Kd.R_below (by exact (Kd.R_mono (rX5 b3.out a8.out) (fun _ h_ => h_.1))) hb);have n6_ := As_ (Kd.R_below (by exact (Kd.R_mono (rX5 d3.out a8.out) (fun _ h_ => h_.1))) hb);have n7_ := As_ (Kd.R_below (by exact (Kd.R_mono (rX5 d4.out a8.out) (fun _ h_ => h_.1))) hb);have n8_ := As_ (Kd.R_below (by exact (Kd.R_mono (rX5 d5.out a8.out) (fun _ h_ => h_.1))) hb);have n9_ := As_ (Kd.R_below (by exact (Kd.R_mono (rX5 d6.out a8.out) (fun _ h_ => h_.1))) hb);have n10_ := As_ (blk_below (g := a6) (o := .cells #[.slice Ao20 b1.length co20,.slice Ao22 b4.length co22,.slice Ao23 b0.length co23,.slice Ao24 b2.length co24,.bool false] 120 (0,0)) (f5 d7.out a1.out) hb);have n11_ := As_ (blk_below (g := b6) (o := .cells #[.slice Ao89 j5.length co89,.slice Ao92 j7.length co92,.slice Ao93 j8.length co93,.slice Ao94 j9.length co94,.bool l4] 120 (0,0)) (p5 a8.out) hb);have n12_ := As_ (bwT (zb2 HB.out a7.out i2.out) hb);clear a3 a5 a2 a4 a9 b3 d3 d4 d5 d6 a1 a8 HB;revert n0_ n1_ n2_ n3_ n4_ n5_ n6_ n7_ n8_ n9_ n10_ n11_ n12_;intro a3 a5 a2 a4 a9 b3 d3 d4 d5 d6 a1 a8 HB))
             go_ret2
             exact ⟨_,zE_,by exact Kd.R_mono a9.out (fun _ hk => trivial),zb2 HB.out a7.out i2.out⟩
end Go.Proofs.Ytbokjhdhpmmpfaa.Q
