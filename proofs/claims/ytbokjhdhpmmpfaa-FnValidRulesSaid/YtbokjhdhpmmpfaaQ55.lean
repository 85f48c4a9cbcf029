-- Written by wip/tools/qprint.py (a program of this claim's author) by means of the kit's printer.
import Derived.Test.YtbokjhdhpmmpfaaQ0
import Derived.Test.YtbokjhdhpmmpfaaQ116
namespace Go.Proofs.Ytbokjhdhpmmpfaa.Q
open Go.RowKit Go.Proofs.YtbokjhdhpmmpfaaW.PrintWords Go.Proofs.YtbokjhdhpmmpfaaW.PrintLast Go.Proofs.YtbokjhdhpmmpfaaW.PrintMore
attribute [local go_sem] max2_int min2_int max_two min_two max_three min_three max_four min_four   -- for this text's walks alone
set_option linter.unusedVariables false
set_option linter.unusedSimpArgs false

/-! ### spec_validOps: function 55 -/
def spec_validOps.l0 : Nat → List (S75) → Int → Option (Bool)
 | 0,_,_ => none
 | k + 1,x0,x3 => if x3 < (x0.length : Int) then (if 0 ≤ x3 then ((spec_validOp.f ((rd_T75 x0 x3).f0) ((rd_T75 x0 x3).f1)).bind fun t276 => (if t276 = true then (spec_validOps.l0 k x0 (wrap64 (x3 + 1))) else (some false))) else (none)) else (some (decide ((x0.length : Int) ≤ 300)))
def spec_validOps.f (k : Nat) (l0 : List (S75)) : Option (Bool) := spec_validOps.l0 k l0 0
set_option maxRecDepth 100000 in
theorem spec_validOps.mono_l : ∀ k,(∀ y0 y1,LeO (spec_validOps.l0 k y0 y1) (spec_validOps.l0 (k + 1) y0 y1))
 | 0 => fun _ _ r h => (by cases h)
 | k + 1 => by
  have ih0 := spec_validOps.mono_l k
  ·intro y0 y1
   unfold spec_validOps.l0
   repeat' first
   | (with_reducible exact ih0 _ _)
   | (with_reducible exact LeO.refl _)
   | (with_reducible exact LeO.none _)
   | (with_reducible refine LeO.ite ?_ ?_)
   | (with_reducible refine LeO.bind ?_ (fun _ => ?_))
   | exact ih0 _ _
   | exact LeO.none _
   | refine LeO.ite ?_ ?_
   | refine LeO.bind ?_ (fun _ => ?_)
set_option maxRecDepth 100000 in
theorem spec_validOps.mono : ∀ a0 k,LeO (spec_validOps.f k a0) (spec_validOps.f (k + 1) a0) := by
 intro a0 k
 have ih0 := spec_validOps.mono_l k
 unfold spec_validOps.f
 repeat' first
   | (with_reducible exact ih0 _ _)
   | (with_reducible exact LeO.refl _)
   | (with_reducible exact LeO.none _)
   | (with_reducible refine LeO.ite ?_ ?_)
   | (with_reducible refine LeO.bind ?_ (fun _ => ?_))
   | exact ih0 _ _
   | exact LeO.none _
   | refine LeO.ite ?_ ?_
   | refine LeO.bind ?_ (fun _ => ?_)
set_option maxHeartbeats 8000000 in
set_option maxRecDepth 100000 in
theorem spec_validOps.calls (k : Nat) (A0 : Option Addr) (c0 : Nat) (l0 : List (S75)) (r : Bool) (w : World) (hr0 : Kd.C k75 w A0 l0.length l0) (hc0 : l0.length ≤ c0) (h : spec_validOps.f k l0 = some r) :
  Calls Try.prog 55 #[.slice A0 l0.length c0] w fun e w' => e = .returned (.bool r) ∧ Below w.heap.size w w' := by
 have hu75 := Try.underlying75
 have HR0 := As_ hr0
 have HC0 := As_ hc0
 clear hr0 hc0
 have HB := As_ (Below.refl w.heap.size w)
 have H : (spec_validOps.l0 k l0 0) = some r := h
 clear h
 have H' := As_ H
 clear H
 go_enter Try.func55,Try.ntmps55
 go_wp2
 go_loopg [3] k (fun kq v3 w' => ∃ (x3_1 : Int),v3 = .int .i64 x3_1 ∧ Aside0 (spec_validOps.l0 kq l0 x3_1 = some r) ∧ Aside0 (kq ≤ k) ∧ Aside0 (Below w.heap.size w w'))
 case atStart => exact ⟨(0),zT_,H',⟨Nat.le_refl _⟩,⟨zb0 HB.out⟩⟩
 case round =>
  clear H'
  obtain ⟨x3_1,rfl,HA,HK1,HB⟩ := hrel
  cases gk with
  | zero => exact absurd HA.out (fun h_ => (by cases h_))
  | succ k1 =>
   have H := HA.out
   clear HA
   simp only [spec_validOps.l0] at H
   by_cases c2 : x3_1 < (l0.length : Int)
   rotate_left
   ·rw [if_neg c2] at H
    have c2b0 : decide (x3_1 < (l0.length : Int)) = false := deF c2
    clear c2
    obtain rfl := Option.some.inj H
    go_wp2
    go_ret
    exact ⟨zE_,zb0 HB.out⟩

   rw [if_pos c2] at H
   have c2b0 : decide (x3_1 < (l0.length : Int)) = true := deT c2
   clear c2
   by_cases c3 : 0 ≤ x3_1
   rotate_left
   ·rw [if_neg c3] at H
    exact absurd H (by simp)
   rw [if_pos c3] at H
   have c3b0 : decide (0 ≤ x3_1) = true := deT c3
   clear c3
   replace H := obS H
   obtain ⟨t276,A40,H⟩ := H
   replace H : (if t276 = true then (spec_validOps.l0 k1 l0 (wrap64 (x3_1 + 1))) else (some false)) = some r := H
   have A4 := As_ A40
   clear A40
   by_cases c5 : t276 = true
   rotate_left
   ·replace c5 := Bool.eq_false_iff.mpr c5
    subst c5
    have H1 : (some false) = some r := by rw [if_neg (show ¬ (false = true) by decide)] at H;exact H
    clear H
    have H := H1
    clear H1
    obtain rfl := Option.some.inj H
    have p275 : 0 ≤ (x3_1 : Int) := odT zA_
    have q275 : x3_1 < (l0.length : Int) := odT zA_
    obtain ⟨ad275,e275,hx275_0,hx275_1⟩ := at_T75 HR0.out x3_1 p275 q275
    cases e275
    replace hx275_0 := bwC HB.out hx275_0
    replace hx275_1 := bwC HB.out hx275_1
    replace p275 := eq_true p275
    replace q275 := eq_true q275
    go_wp2_with (first|((with_reducible refine gate_callee (f := 92) rfl ?_);refine goesL_ (some 14) rfl rfl Try.func92 (by kernel_rfl) rfl #[.agg #[.int .i64 ((rd_T75 l0 x3_1).f0),.int .i64 ((rd_T75 l0 x3_1).f1)]] rfl zM_ ?_;(with_reducible refine (spec_validOp.calls ((rd_T75 l0 x3_1).f0) ((rd_T75 l0 x3_1).f1) false _ A4.out).mono ?_);rintro e w7 ⟨rfl,hb⟩;refine ⟨_,rfl,?_⟩;have n0_ := As_ (bwT (zb0 HB.out) hb);clear HB;revert n0_;intro HB))
    go_ret
    exact ⟨zE_,zb0 HB.out⟩
   subst c5
   have H1 : (spec_validOps.l0 k1 l0 (wrap64 (x3_1 + 1))) = some r := by rw [if_pos rfl] at H;exact H
   clear H
   have H := H1
   clear H1
   have H' := As_ H
   clear H
   have p275 : 0 ≤ (x3_1 : Int) := odT zA_
   have q275 : x3_1 < (l0.length : Int) := odT zA_
   obtain ⟨ad275,e275,hx275_0,hx275_1⟩ := at_T75 HR0.out x3_1 p275 q275
   cases e275
   replace hx275_0 := bwC HB.out hx275_0
   replace hx275_1 := bwC HB.out hx275_1
   replace p275 := eq_true p275
   replace q275 := eq_true q275
   go_wp2_with (first|((with_reducible refine gate_callee (f := 92) rfl ?_);refine goesL_ (some 14) rfl rfl Try.func92 (by kernel_rfl) rfl #[.agg #[.int .i64 ((rd_T75 l0 x3_1).f0),.int .i64 ((rd_T75 l0 x3_1).f1)]] rfl zM_ ?_;(with_reducible refine (spec_validOp.calls ((rd_T75 l0 x3_1).f0) ((rd_T75 l0 x3_1).f1) true _ A4.out).mono ?_);rintro e w6 ⟨rfl,hb⟩;refine ⟨_,rfl,?_⟩;have n0_ := As_ (bwT (zb0 HB.out) hb);clear HB;revert n0_;intro HB))
   go_roundg k1
   case measure => have := HK1.out;omega
   case rel => exact ⟨(wrap64 (x3_1 + 1)),zT_,H',⟨by have := HK1.out;omega⟩,⟨zb0 HB.out⟩⟩
end Go.Proofs.Ytbokjhdhpmmpfaa.Q
