-- Written by wip/tools/qprint.py (a program of this claim's author) by means of the kit's printer.
import Derived.Test.YtapaegcombfafaaQ0
import Derived.Test.YtapaegcombfafaaQ33
namespace Go.Proofs.Ytapaegcombfafaa.Q
open Go.RowKit Go.Proofs.YtapaegcombfafaaW.PrintWords Go.Proofs.YtapaegcombfafaaW.PrintLast Go.Proofs.YtapaegcombfafaaW.PrintMore
attribute [local go_sem] max2_int min2_int max_two min_two max_three min_three max_four min_four   -- for this text's walks alone
set_option linter.unusedVariables false
set_option linter.unusedSimpArgs false

/-! ### impl_Node_63: function 63 -/
def impl_Node_63.l0 : Nat → List (S58) → Int → Int → Int → Option (Int)
 | 0,_,_,_,_ => none
 | k + 1,x0,x1,x7,x8 => if x8 < x7 then (if 0 ≤ x8 then (if x8 < (x0.length : Int) then ((impl_MergeTexts_1.f ((rd_T58 x0 x8).f0) ((rd_T58 x0 x8).f1) ((rd_T58 x0 x8).f2) x1).bind fun t794 => (if t794 = true then (some x8) else (impl_Node_63.l0 k x0 x1 x7 (wrap64 (x8 + 1))))) else (none)) else (none)) else (some (-1))
def impl_Node_63.f (k : Nat) (l0 : List (S58)) (a1 : Int) : Option (Int) := impl_Node_63.l0 k l0 a1 (l0.length : Int) 0
set_option maxRecDepth 100000 in
theorem impl_Node_63.mono_l : ∀ k,(∀ y0 y1 y2 y3,LeO (impl_Node_63.l0 k y0 y1 y2 y3) (impl_Node_63.l0 (k + 1) y0 y1 y2 y3))
 | 0 => fun _ _ _ _ r h => (by cases h)
 | k + 1 => by
  have ih0 := impl_Node_63.mono_l k
  ·intro y0 y1 y2 y3
   unfold impl_Node_63.l0
   repeat' first
   | (with_reducible exact ih0 _ _ _ _)
   | (with_reducible exact LeO.refl _)
   | (with_reducible exact LeO.none _)
   | (with_reducible refine LeO.ite ?_ ?_)
   | (with_reducible refine LeO.bind ?_ (fun _ => ?_))
   | exact ih0 _ _ _ _
   | exact LeO.none _
   | refine LeO.ite ?_ ?_
   | refine LeO.bind ?_ (fun _ => ?_)
set_option maxRecDepth 100000 in
theorem impl_Node_63.mono : ∀ a0 a1 k,LeO (impl_Node_63.f k a0 a1) (impl_Node_63.f (k + 1) a0 a1) := by
 intro a0 a1 k
 have ih0 := impl_Node_63.mono_l k
 unfold impl_Node_63.f
 repeat' first
   | (with_reducible exact ih0 _ _ _ _)
   | (with_reducible exact LeO.refl _)
   | (with_reducible exact LeO.none _)
   | (with_reducible refine LeO.ite ?_ ?_)
   | (with_reducible refine LeO.bind ?_ (fun _ => ?_))
   | exact ih0 _ _ _ _
   | exact LeO.none _
   | refine LeO.ite ?_ ?_
   | refine LeO.bind ?_ (fun _ => ?_)
set_option maxHeartbeats 8000000 in
set_option maxRecDepth 100000 in
theorem impl_Node_63.calls (k : Nat) (A0 : Option Addr) (c0 : Nat) (l0 : List (S58)) (a1 : Int) (r : Int) (w : World) (hr0 : Kd.C k58 w A0 l0.length l0) (hc0 : l0.length ≤ c0) (h : impl_Node_63.f k l0 a1 = some r) {g : Nat} {u0 u2 : Value} (hbx : w.heap[g]? = some (.cells #[u0,.int .i64 a1,u2] 58 (0,0))) :
  Calls Try.prog 63 #[.slice A0 l0.length c0,.func (.func 64) #[] #[.pointer (some ⟨g,0,none⟩)]] w fun e w' => e = .returned (.int .i64 r) ∧ Below w.heap.size w w' := by
 have hu58 := Try.underlying58
 have HR0 := As_ hr0
 have HC0 := As_ hc0
 clear hr0 hc0
 have BX := As_ hbx
 clear hbx
 have HB := As_ (Below.refl w.heap.size w)
 have H : (impl_Node_63.l0 k l0 a1 (l0.length : Int) 0) = some r := h
 clear h
 have H' := As_ H
 clear H
 go_enter Try.func63,Try.ntmps63
 go_wp2
 go_loopg [8] k (fun kq v8 w' => ∃ (x8_1 : Int),v8 = .int .i64 x8_1 ∧ Aside0 (impl_Node_63.l0 kq l0 a1 (l0.length : Int) x8_1 = some r) ∧ Aside0 (kq ≤ k) ∧ Aside0 (Below w.heap.size w w'))
 case atStart => exact ⟨(0),(by first|rfl|(simp;done)|(simp [*];done)),H',⟨Nat.le_refl _⟩,⟨by repeat (first|(with_reducible first|exact HB.out|apply bwA|apply bwN|apply bwD)|exact HB.out)⟩⟩
 case round =>
  clear H'
  try clear p2
  obtain ⟨x8_1,rfl,HA,HK1,HB⟩ := hrel
  cases gk with
  | zero => exact absurd HA.out (fun h_ => (by cases h_))
  | succ k1 =>
   have H := HA.out
   clear HA
   simp only [impl_Node_63.l0] at H
   by_cases c3 : x8_1 < (l0.length : Int)
   ·rw [if_pos c3] at H
    have c3b0 : decide (x8_1 < (l0.length : Int)) = true := deT c3
    clear c3
    by_cases c4 : 0 ≤ x8_1
    rotate_left
    ·rw [if_neg c4] at H
     exact absurd H (by simp)
    rw [if_pos c4] at H
    have c4b0 : decide (0 ≤ x8_1) = true := deT c4
    clear c4
    by_cases c5 : x8_1 < (l0.length : Int)
    rotate_left
    ·rw [if_neg c5] at H
     exact absurd H (by simp)
    rw [if_pos c5] at H
    have c5b0 : decide (x8_1 < (l0.length : Int)) = true := deT c5
    clear c5
    replace H := obS H
    obtain ⟨t794,A60,H⟩ := H
    replace H : (if t794 = true then (some x8_1) else (impl_Node_63.l0 k1 l0 a1 (l0.length : Int) (wrap64 (x8_1 + 1)))) = some r := H
    have A6 := As_ A60
    clear A60
    by_cases c7 : t794 = true
    ·subst c7
     have H1 : (some x8_1) = some r := by rw [if_pos rfl] at H;exact H
     clear H
     have H := H1
     clear H1
     obtain rfl := Option.some.inj H
     have p793 : 0 ≤ (x8_1 : Int) := odT (by first|(with_reducible assumption)|assumption)
     have q793 : x8_1 < (l0.length : Int) := odT (by first|(with_reducible assumption)|assumption)
     obtain ⟨ad793,A793_2,c793_2,e793,hx793_0,hx793_1,hx793_2,hl793_2,hi793_2⟩ := at_T58 HR0.out x8_1 p793 q793
     cases e793
     replace hx793_0 := (HB.out.cell (bwL w _ hx793_0)).trans hx793_0
     replace hx793_1 := (HB.out.cell (bwL w _ hx793_1)).trans hx793_1
     replace hx793_2 := (HB.out.cell (bwL w _ hx793_2)).trans hx793_2
     have HR793_2 := As_ hi793_2
     have HC793_2 := As_ hl793_2
     clear hi793_2 hl793_2
     replace p793 := eq_true p793
     replace q793 := eq_true q793
     go_wp2_with (first|(go_at_call 64;(with_reducible refine (impl_MergeTexts_1.calls ((rd_T58 l0 x8_1).f0) ((rd_T58 l0 x8_1).f1) _ _ ((rd_T58 l0 x8_1).f2) a1 true _ ?side1 ?side2 A6.out (blk_below BX.out (by repeat (first|(with_reducible first|exact HB.out|apply bwA|apply bwN|apply bwD)|exact HB.out)))).mono ?_);(case side1 => repeat (first|exact (Kd.C_below HR793_2.out HB.out)|(with_reducible refine Kd.C_alloc ?_ _)|(with_reducible refine Kd.C_drewN ?_ _)|(with_reducible refine Kd.C_drew ?_)));(case side2 => exact HC793_2.out);rintro e w8 ⟨rfl,hb⟩;have n0_ := As_ (bwT (by repeat (first|(with_reducible first|exact HB.out|apply bwA|apply bwN|apply bwD)|exact HB.out)) hb);clear HB;have HB := n0_;clear n0_;(try clear hb);(try clear hb2);(try clear hk);(try clear hi)))
     go_ret
     exact ⟨by first|rfl|(simp [errW_none,errW_some] <;> rfl)|(simp [*,errW_none,errW_some] <;> rfl),by repeat (first|(with_reducible first|exact HB.out|apply bwA|apply bwN|apply bwD)|exact HB.out)⟩
    ·replace c7 := Bool.eq_false_iff.mpr c7
     subst c7
     have H1 : (impl_Node_63.l0 k1 l0 a1 (l0.length : Int) (wrap64 (x8_1 + 1))) = some r := by rw [if_neg (show ¬ (false = true) by decide)] at H;exact H
     clear H
     have H := H1
     clear H1
     have H' := As_ H
     clear H
     have p793 : 0 ≤ (x8_1 : Int) := odT (by first|(with_reducible assumption)|assumption)
     have q793 : x8_1 < (l0.length : Int) := odT (by first|(with_reducible assumption)|assumption)
     obtain ⟨ad793,A793_2,c793_2,e793,hx793_0,hx793_1,hx793_2,hl793_2,hi793_2⟩ := at_T58 HR0.out x8_1 p793 q793
     cases e793
     replace hx793_0 := (HB.out.cell (bwL w _ hx793_0)).trans hx793_0
     replace hx793_1 := (HB.out.cell (bwL w _ hx793_1)).trans hx793_1
     replace hx793_2 := (HB.out.cell (bwL w _ hx793_2)).trans hx793_2
     have HR793_2 := As_ hi793_2
     have HC793_2 := As_ hl793_2
     clear hi793_2 hl793_2
     replace p793 := eq_true p793
     replace q793 := eq_true q793
     go_wp2_with (first|(go_at_call 64;(with_reducible refine (impl_MergeTexts_1.calls ((rd_T58 l0 x8_1).f0) ((rd_T58 l0 x8_1).f1) _ _ ((rd_T58 l0 x8_1).f2) a1 false _ ?side1 ?side2 A6.out (blk_below BX.out (by repeat (first|(with_reducible first|exact HB.out|apply bwA|apply bwN|apply bwD)|exact HB.out)))).mono ?_);(case side1 => repeat (first|exact (Kd.C_below HR793_2.out HB.out)|(with_reducible refine Kd.C_alloc ?_ _)|(with_reducible refine Kd.C_drewN ?_ _)|(with_reducible refine Kd.C_drew ?_)));(case side2 => exact HC793_2.out);rintro e w9 ⟨rfl,hb⟩;have n0_ := As_ (bwT (by repeat (first|(with_reducible first|exact HB.out|apply bwA|apply bwN|apply bwD)|exact HB.out)) hb);clear HB;have HB := n0_;clear n0_;(try clear hb);(try clear hb2);(try clear hk);(try clear hi)))
     go_roundg k1
     case measure => have := HK1.out;omega
     case rel => exact ⟨(wrap64 (x8_1 + 1)),(by first|rfl|(simp;done)|(simp [*];done)),H',⟨by have := HK1.out;omega⟩,⟨by repeat (first|(with_reducible first|exact HB.out|apply bwA|apply bwN|apply bwD)|exact HB.out)⟩⟩
   ·rw [if_neg c3] at H
    have c3b0 : decide (x8_1 < (l0.length : Int)) = false := deF c3
    clear c3
    obtain rfl := Option.some.inj H
    go_wp2
    go_ret
    exact ⟨by first|rfl|(simp [errW_none,errW_some] <;> rfl)|(simp [*,errW_none,errW_some] <;> rfl),by repeat (first|(with_reducible first|exact HB.out|apply bwA|apply bwN|apply bwD)|exact HB.out)⟩

end Go.Proofs.Ytapaegcombfafaa.Q
