-- Written by wip/tools/qprint.py (a program of this claim's author) by means of the kit's printer.
import Derived.Test.YtbokjhdhpmmpfaaQ0
import Derived.Test.YtbokjhdhpmmpfaaQ97
namespace Go.Proofs.Ytbokjhdhpmmpfaa.Q
open Go.RowKit Go.Proofs.YtbokjhdhpmmpfaaW.PrintWords Go.Proofs.YtbokjhdhpmmpfaaW.PrintLast Go.Proofs.YtbokjhdhpmmpfaaW.PrintMore
attribute [local go_sem] max2_int min2_int max_two min_two max_three min_three max_four min_four   -- for this text's walks alone
set_option linter.unusedVariables false
set_option linter.unusedSimpArgs false

/-! ### impl_ValidOps: function 61 -/
def impl_ValidOps.l0 : Nat → List (S75) → List (S75) → Int → Int → Option (Bool)
 | 0,_,_,_,_ => none
 | k + 1,x0,x5,x6,x7 => if x7 < x6 then (if 0 ≤ x7 then (if x7 < (x5.length : Int) then ((impl_opOk.f ((rd_T75 x5 x7).f0) ((rd_T75 x5 x7).f1)).bind fun t352 => (if t352 = true then (impl_ValidOps.l0 k x0 x5 x6 (wrap64 (x7 + 1))) else (some false))) else (none)) else (none)) else (some (decide ((x0.length : Int) ≤ 300)))
def impl_ValidOps.f (k : Nat) (l0 : List (S75)) : Option (Bool) := impl_ValidOps.l0 k l0 l0 (l0.length : Int) 0
set_option maxRecDepth 100000 in
theorem impl_ValidOps.mono_l : ∀ k,(∀ y0 y1 y2 y3,LeO (impl_ValidOps.l0 k y0 y1 y2 y3) (impl_ValidOps.l0 (k + 1) y0 y1 y2 y3))
 | 0 => fun _ _ _ _ r h => (by cases h)
 | k + 1 => by
  have ih0 := impl_ValidOps.mono_l k
  ·intro y0 y1 y2 y3
   unfold impl_ValidOps.l0
   repeat' first
   | (with_reducible exact ih0 _ _ _ _)
   | (with_reducible exact LeO.refl _)
   | (with_reducible exact LeO.none _)
   | (with_reducible refine LeO.ite ?_ ?_)
   | (with_reducible refine LeO.bind ?_ (fun _ => ?_))
   | exact ih0 _ _ _ _
   | exact LeO.none _
   | refine LeO.ite ?_ ?_
   | refine LeO.bind ?_ (fun _ => ?_)
set_option maxRecDepth 100000 in
theorem impl_ValidOps.mono : ∀ a0 k,LeO (impl_ValidOps.f k a0) (impl_ValidOps.f (k + 1) a0) := by
 intro a0 k
 have ih0 := impl_ValidOps.mono_l k
 unfold impl_ValidOps.f
 repeat' first
   | (with_reducible exact ih0 _ _ _ _)
   | (with_reducible exact LeO.refl _)
   | (with_reducible exact LeO.none _)
   | (with_reducible refine LeO.ite ?_ ?_)
   | (with_reducible refine LeO.bind ?_ (fun _ => ?_))
   | exact ih0 _ _ _ _
   | exact LeO.none _
   | refine LeO.ite ?_ ?_
   | refine LeO.bind ?_ (fun _ => ?_)
set_option maxHeartbeats 8000000 in
set_option maxRecDepth 100000 in
theorem impl_ValidOps.calls (k : Nat) (A0 : Option Addr) (c0 : Nat) (l0 : List (S75)) (r : Bool) (w : World) (hr0 : Kd.C k75 w A0 l0.length l0) (hc0 : l0.length ≤ c0) (h : impl_ValidOps.f k l0 = some r) :
  Calls Try.prog 61 #[.slice A0 l0.length c0] w fun e w' => e = .returned (.bool r) ∧ Below w.heap.size w w' := by
 have hu75 := Try.underlying75
 have HR0 := As_ hr0
 have HC0 := As_ hc0
 clear hr0 hc0
 have HB := As_ (Below.refl w.heap.size w)
 have H : (impl_ValidOps.l0 k l0 l0 (l0.length : Int) 0) = some r := h
 clear h
 have H' := As_ H
 clear H
 go_enter Try.func61,Try.ntmps61
 go_wp2
 go_loopg [7] k (fun kq v7 w' => ∃ (x7_1 : Int),v7 = .int .i64 x7_1 ∧ Aside0 (impl_ValidOps.l0 kq l0 l0 (l0.length : Int) x7_1 = some r) ∧ Aside0 (kq ≤ k) ∧ Aside0 (Below w.heap.size w w'))
 case atStart => exact ⟨(0),zT_,H',⟨Nat.le_refl _⟩,⟨zb0 HB.out⟩⟩
 case round =>
  clear H'
  obtain ⟨x7_1,rfl,HA,HK1,HB⟩ := hrel
  cases gk with
  | zero => exact absurd HA.out (fun h_ => (by cases h_))
  | succ k1 =>
   have H := HA.out
   clear HA
   simp only [impl_ValidOps.l0] at H
   by_cases c2 : x7_1 < (l0.length : Int)
   rotate_left
   ·rw [if_neg c2] at H
    have c2b0 : decide (x7_1 < (l0.length : Int)) = false := deF c2
    clear c2
    obtain rfl := Option.some.inj H
    go_wp2
    go_ret
    exact ⟨zE_,zb0 HB.out⟩

   rw [if_pos c2] at H
   have c2b0 : decide (x7_1 < (l0.length : Int)) = true := deT c2
   clear c2
   by_cases c3 : 0 ≤ x7_1
   rotate_left
   ·rw [if_neg c3] at H
    exact absurd H (by simp)
   rw [if_pos c3] at H
   have c3b0 : decide (0 ≤ x7_1) = true := deT c3
   clear c3
   by_cases c4 : x7_1 < (l0.length : Int)
   rotate_left
   ·rw [if_neg c4] at H
    exact absurd H (by simp)
   rw [if_pos c4] at H
   have c4b0 : decide (x7_1 < (l0.length : Int)) = true := deT c4
   clear c4
   replace H := obS H
   obtain ⟨t352,A50,H⟩ := H
   replace H : (if t352 = true then (impl_ValidOps.l0 k1 l0 l0 (l0.length : Int) (wrap64 (x7_1 + 1))) else (some false)) = some r := H
   have A5 := As_ A50
   clear A50
   by_cases c6 : t352 = true
   rotate_left
   ·replace c6 := Bool.eq_false_iff.mpr c6
    subst c6
    have H1 : (some false) = some r := by rw [if_neg (show ¬ (false = true) by decide)] at H;exact H
    clear H
    have H := H1
    clear H1
    obtain rfl := Option.some.inj H
    have p350 : 0 ≤ (x7_1 : Int) := odT zA_
    have q350 : x7_1 < (l0.length : Int) := odT zA_
    obtain ⟨ad350,e350,hx350_0,hx350_1⟩ := at_T75 HR0.out x7_1 p350 q350
    cases e350
    replace hx350_0 := bwC HB.out hx350_0
    replace hx350_1 := bwC HB.out hx350_1
    replace p350 := eq_true p350
    replace q350 := eq_true q350
    go_wp2_with (first|((with_reducible refine gate_dst (N := 4) rfl ?_);refine box_event ?hg (N := 4) ?hd (cs := #[.int .i64 0,.int .i64 0]) (t := 75) ?hr ?_;(case hd => rfl);(case hg => rfl);(case hr => go_simp <;> rfl);intro gb351 hg w10 hbox hb;have n0_ := As_ (bwT (zb0 HB.out) hb);have n1_ := As_ (hbox);have n2_ := As_ ((by rw [hg];exact (bwZ (zb0 HB.out)) : w.heap.size ≤ gb351));have n3_ := As_ ((by rw [hg];exact (bwZ (zb0 HB.out)) : w.heap.size ≤ gb351));clear HB;revert n0_ n1_ n2_ n3_;intro HB BK351 GW351 GE351;clear hb hbox hg;obtain ⟨hcz11_0,hcz11_1,hfz11_0,hfz11_1⟩ := bk2 BK351.out)|((with_reducible refine gate_callee (f := 95) rfl ?_);refine goesL_ (some 12) rfl rfl Try.func95 (by kernel_rfl) rfl #[.agg #[.int .i64 ((rd_T75 l0 x7_1).f0),.int .i64 ((rd_T75 l0 x7_1).f1)]] rfl zM_ ?_;(with_reducible refine (impl_opOk.calls ((rd_T75 l0 x7_1).f0) ((rd_T75 l0 x7_1).f1) false _ A5.out).mono ?_);rintro e w12 ⟨rfl,hb⟩;refine ⟨_,rfl,?_⟩;have n0_ := As_ (blk_below (g := gb351) (o := .cells #[.int .i64 ((rd_T75 l0 x7_1).f0),.int .i64 ((rd_T75 l0 x7_1).f1)] 75 (0,0)) (by (with_reducible repeat first|apply bkN|apply bkD|apply bkA);refine blk_put (cs := #[.int .i64 ((rd_T75 l0 x7_1).f0),.int .i64 0]) ?_ 1 _ rfl;(with_reducible repeat first|apply bkN|apply bkD|apply bkA);refine blk_put (cs := #[.int .i64 0,.int .i64 0]) ?_ 0 _ rfl;(with_reducible repeat first|apply bkN|apply bkD|apply bkA);exact BK351.out) hb);have n1_ := As_ (bwT (zb1 HB.out GE351.out) hb);clear BK351 HB;revert n0_ n1_;intro BK351 HB))
    go_ret
    exact ⟨zE_,zb1 HB.out GE351.out⟩
   subst c6
   have H1 : (impl_ValidOps.l0 k1 l0 l0 (l0.length : Int) (wrap64 (x7_1 + 1))) = some r := by rw [if_pos rfl] at H;exact H
   clear H
   have H := H1
   clear H1
   have H' := As_ H
   clear H
   have p350 : 0 ≤ (x7_1 : Int) := odT zA_
   have q350 : x7_1 < (l0.length : Int) := odT zA_
   obtain ⟨ad350,e350,hx350_0,hx350_1⟩ := at_T75 HR0.out x7_1 p350 q350
   cases e350
   replace hx350_0 := bwC HB.out hx350_0
   replace hx350_1 := bwC HB.out hx350_1
   replace p350 := eq_true p350
   replace q350 := eq_true q350
   go_wp2_with (first|((with_reducible refine gate_dst (N := 4) rfl ?_);refine box_event ?hg (N := 4) ?hd (cs := #[.int .i64 0,.int .i64 0]) (t := 75) ?hr ?_;(case hd => rfl);(case hg => rfl);(case hr => go_simp <;> rfl);intro gb351 hg w7 hbox hb;have n0_ := As_ (bwT (zb0 HB.out) hb);have n1_ := As_ (hbox);have n2_ := As_ ((by rw [hg];exact (bwZ (zb0 HB.out)) : w.heap.size ≤ gb351));have n3_ := As_ ((by rw [hg];exact (bwZ (zb0 HB.out)) : w.heap.size ≤ gb351));clear HB;revert n0_ n1_ n2_ n3_;intro HB BK351 GW351 GE351;clear hb hbox hg;obtain ⟨hcz8_0,hcz8_1,hfz8_0,hfz8_1⟩ := bk2 BK351.out)|((with_reducible refine gate_callee (f := 95) rfl ?_);refine goesL_ (some 12) rfl rfl Try.func95 (by kernel_rfl) rfl #[.agg #[.int .i64 ((rd_T75 l0 x7_1).f0),.int .i64 ((rd_T75 l0 x7_1).f1)]] rfl zM_ ?_;(with_reducible refine (impl_opOk.calls ((rd_T75 l0 x7_1).f0) ((rd_T75 l0 x7_1).f1) true _ A5.out).mono ?_);rintro e w9 ⟨rfl,hb⟩;refine ⟨_,rfl,?_⟩;have n0_ := As_ (blk_below (g := gb351) (o := .cells #[.int .i64 ((rd_T75 l0 x7_1).f0),.int .i64 ((rd_T75 l0 x7_1).f1)] 75 (0,0)) (by (with_reducible repeat first|apply bkN|apply bkD|apply bkA);refine blk_put (cs := #[.int .i64 ((rd_T75 l0 x7_1).f0),.int .i64 0]) ?_ 1 _ rfl;(with_reducible repeat first|apply bkN|apply bkD|apply bkA);refine blk_put (cs := #[.int .i64 0,.int .i64 0]) ?_ 0 _ rfl;(with_reducible repeat first|apply bkN|apply bkD|apply bkA);exact BK351.out) hb);have n1_ := As_ (bwT (zb1 HB.out GE351.out) hb);clear BK351 HB;revert n0_ n1_;intro BK351 HB))
   go_roundg k1
   case measure => have := HK1.out;omega
   case rel => exact ⟨(wrap64 (x7_1 + 1)),zT_,H',⟨by have := HK1.out;omega⟩,⟨zb1 HB.out GE351.out⟩⟩
end Go.Proofs.Ytbokjhdhpmmpfaa.Q
