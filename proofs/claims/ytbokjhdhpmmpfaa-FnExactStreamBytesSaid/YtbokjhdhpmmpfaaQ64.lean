-- Written by wip/tools/qprint.py (a program of this claim's author) by means of the kit's printer.
import Derived.Test.YtbokjhdhpmmpfaaQ0
import Derived.Test.YtbokjhdhpmmpfaaQ61
import Derived.Test.YtbokjhdhpmmpfaaQ62
import Derived.Test.YtbokjhdhpmmpfaaQ97
namespace Go.Proofs.Ytbokjhdhpmmpfaa.Q
open Go.RowKit Go.Proofs.YtbokjhdhpmmpfaaW.PrintWords Go.Proofs.YtbokjhdhpmmpfaaW.PrintLast Go.Proofs.YtbokjhdhpmmpfaaW.PrintMore
attribute [local go_sem] max2_int min2_int max_two min_two max_three min_three max_four min_four   -- for this text's walks alone
set_option linter.unusedVariables false
set_option linter.unusedSimpArgs false

/-! ### impl_EncodeOps: function 64 -/
def impl_EncodeOps.l0 : Nat → List Int → List (S75) → Int → Int → Option (List Int)
 | 0,_,_,_,_ => none
 | k + 1,x3,x10,x11,x12 => if x12 < x11 then (if 0 ≤ x12 then (if x12 < (x10.length : Int) then (if x3.length < 17592186044416 then ((some (x3 ++ [(rd_T75 x10 x12).f0] : List Int)).bind fun y401 => ((impl_mostArg.f ((rd_T75 x10 x12).f0)).bind fun t404 => (if t404 = 0 then (impl_EncodeOps.l0 k y401 x10 x11 (wrap64 (x12 + 1))) else (if ((rd_T75 x10 x12).f1) < 128 then (if y401.length < 17592186044416 then (impl_EncodeOps.l0 k (y401 ++ [(rd_T75 x10 x12).f1]) x10 x11 (wrap64 (x12 + 1))) else (none)) else ((some (([wrap64 (128 + (Int.tmod ((rd_T75 x10 x12).f1) 128)),wrap64 (Int.tdiv ((rd_T75 x10 x12).f1) 128)] : List Int) : List Int)).bind fun y408 => (if y401.length + y408.length < 17592186044416 then (impl_EncodeOps.l0 k (y401 ++ y408) x10 x11 (wrap64 (x12 + 1))) else (none))))))) else (none)) else (none)) else (none)) else (some x3)
def impl_EncodeOps.f (k : Nat) (l0 : List (S75)) : Option (List Int) := (impl_ValidOps.f k l0).bind fun t395 => (if t395 = true then (impl_EncodeOps.l0 k (([] : List Int)) l0 (l0.length : Int) 0) else (some ([] : List Int)))
set_option maxRecDepth 100000 in
theorem impl_EncodeOps.mono_l : ∀ k,(∀ y0 y1 y2 y3,LeO (impl_EncodeOps.l0 k y0 y1 y2 y3) (impl_EncodeOps.l0 (k + 1) y0 y1 y2 y3))
 | 0 => fun _ _ _ _ r h => (by cases h)
 | k + 1 => by
  have ih0 := impl_EncodeOps.mono_l k
  ·intro y0 y1 y2 y3
   unfold impl_EncodeOps.l0
   repeat' first
   | (with_reducible exact ih0 _ _ _ _)
   | (with_reducible exact impl_ValidOps.mono _ _)
   | (with_reducible exact LeO.refl _)
   | (with_reducible exact LeO.none _)
   | (with_reducible refine LeO.ite ?_ ?_)
   | (with_reducible refine LeO.bind ?_ (fun _ => ?_))
   | exact ih0 _ _ _ _
   | exact impl_ValidOps.mono _ _
   | exact LeO.none _
   | refine LeO.ite ?_ ?_
   | refine LeO.bind ?_ (fun _ => ?_)
set_option maxRecDepth 100000 in
theorem impl_EncodeOps.mono : ∀ a0 k,LeO (impl_EncodeOps.f k a0) (impl_EncodeOps.f (k + 1) a0) := by
 intro a0 k
 have ih0 := impl_EncodeOps.mono_l k
 unfold impl_EncodeOps.f
 repeat' first
   | (with_reducible exact ih0 _ _ _ _)
   | (with_reducible exact impl_ValidOps.mono _ _)
   | (with_reducible exact LeO.refl _)
   | (with_reducible exact LeO.none _)
   | (with_reducible refine LeO.ite ?_ ?_)
   | (with_reducible refine LeO.bind ?_ (fun _ => ?_))
   | exact ih0 _ _ _ _
   | exact impl_ValidOps.mono _ _
   | exact LeO.none _
   | refine LeO.ite ?_ ?_
   | refine LeO.bind ?_ (fun _ => ?_)
set_option maxHeartbeats 8000000 in
set_option maxRecDepth 100000 in
theorem impl_EncodeOps.calls (k : Nat) (A0 : Option Addr) (c0 : Nat) (l0 : List (S75)) (r : List Int) (w : World) (hr0 : Kd.C k75 w A0 l0.length l0) (hc0 : l0.length ≤ c0) (h : impl_EncodeOps.f k l0 = some r) :
  Calls Try.prog 64 #[.slice A0 l0.length c0] w fun e w' => ∃ v0_ : Value,e = .returned (v0_) ∧ Kd.R (Kd.int .i64) 3 w' w.heap.size (fun _ => True) v0_ r ∧ Below w.heap.size w w' := by
 have hu75 := Try.underlying75
 have HR0 := Aside0.mk hr0
 have HC0 := Aside0.mk hc0
 clear hr0 hc0
 have HB := Aside0.mk (Below.refl w.heap.size w)
 have H : ((impl_ValidOps.f k l0).bind fun t395 => (if t395 = true then (impl_EncodeOps.l0 k (([] : List Int)) l0 (l0.length : Int) 0) else (some ([] : List Int)))) = some r := h
 clear h
 replace H := Option.bind_eq_some_iff.mp H
 obtain ⟨t395,A20,H⟩ := H
 replace H : (if t395 = true then (impl_EncodeOps.l0 k (([] : List Int)) l0 (l0.length : Int) 0) else (some ([] : List Int))) = some r := H
 have A2 := Aside0.mk A20
 clear A20
 by_cases c3 : t395 = true
 ·subst c3
  have H1 : (impl_EncodeOps.l0 k (([] : List Int)) l0 (l0.length : Int) 0) = some r := by rw [if_pos rfl] at H;exact H
  clear H
  have H := H1
  clear H1
  obtain ⟨y396,hy396⟩ : ∃ y_ : List Int,y_ = (([] : List Int)) := ⟨_,rfl⟩
  replace H : (impl_EncodeOps.l0 k y396 l0 (l0.length : Int) 0) = some r := by first|(rw [hy396];with_reducible exact H)|(have H2_ := (Option.bind_some _ _).symm.trans H;rw [hy396];with_reducible exact H2_)|(have H2_ := (Option.bind_some _ _).symm.trans H;with_reducible exact H2_)|with_reducible exact H|(rw [hy396];exact H)|exact H
  have Ny396 := Aside0.mk hy396
  clear hy396
  have H' := Aside0.mk H
  clear H
  go_enter Try.func64,Try.ntmps64
  go_wp2_with (first|((with_reducible refine gate_callee (f := 61) rfl ?_);refine goesL_ (some 7) rfl rfl Try.func61 (by kernel_rfl) rfl #[.slice A0 l0.length c0] rfl (by (try simp only [List.map_toArray,List.map_cons,List.map_nil]);first|done|rfl|(simp only [List.length_drop,List.length_take];rfl)) ?_;(with_reducible refine (impl_ValidOps.calls k _ _ l0 true _ ?side1 ?side2 A2.out).mono ?_);(case side1 => repeat (first|exact HR0.out|(with_reducible refine Kd.C_alloc ?_ _)|(with_reducible refine Kd.C_drewN ?_ _)|(with_reducible refine Kd.C_drew ?_)));(case side2 => exact HC0.out);rintro e w4 ⟨rfl,hb⟩;refine ⟨_,rfl,?_⟩;have n0_ := Aside0.mk (below_step (by repeat (first|(with_reducible first|exact HB.out|apply below_alloc|apply pw_below_drewN|apply below_drew1)|exact HB.out)) hb);clear HB;have HB := n0_;clear n0_;(try clear hb);(try clear hb2);(try clear hk);(try clear hi))|((with_reducible refine gate_dst (N := 9) rfl ?_);refine Kd.R_lit (Kd.int .i64) _ 3 ?hg (N := 9) ?hd (xs := ([] : List Int)) (inner := []) (ok := fun _ => True) (okp := fun _ => True) ?hr ?hp (fun _ hk => hk) trivial (Below.refl _ _) (Nat.le_refl _) (by simp) ?_;(case hd => rfl);(case hg => rfl);(case hr => first|(go_simp;done)|(go_simp;rfl));(case hp => exact (Reps.none _ _));intro v397 w5 ho6 hb hg_ hnew_;clear hg_ hnew_;(first|rw [← Ny396.out] at ho6|(simp only [Int.reduceToNat] at ho6;rw [← Ny396.out] at ho6));have n0_ := Aside0.mk (Kd.R_lower ho6 (below_size (by repeat (first|(with_reducible first|exact HB.out|apply below_alloc|apply pw_below_drewN|apply below_drew1)|exact HB.out))));have n1_ := Aside0.mk (below_step (by repeat (first|(with_reducible first|exact HB.out|apply below_alloc|apply pw_below_drewN|apply below_drew1)|exact HB.out)) hb);clear HB;have HO398 := n0_;have HB := n1_;clear n0_ n1_;clear hb ho6))
  go_loopg [3,12] k (fun kq v3 v12 w' => ∃ (x3_1 : List Int) (x12_1 : Int),v12 = .int .i64 x12_1 ∧ Aside0 (impl_EncodeOps.l0 kq x3_1 l0 (l0.length : Int) x12_1 = some r) ∧ Aside0 (kq ≤ k) ∧ Aside0 (Kd.R (Kd.int .i64) 3 w' w.heap.size (fun _ => True) v3 x3_1) ∧ Aside0 (Below w.heap.size w w'))
  case atStart => exact ⟨(y396),(0),(by first|rfl|(simp;done)|(simp [*];done)),H',⟨Nat.le_refl _⟩,⟨by (with_reducible repeat (first|apply Kd.R_alloc|apply Kd.R_drewN|apply Kd.R_drew));exact HO398.out⟩,⟨by repeat (first|(with_reducible first|exact HB.out|apply below_alloc|apply pw_below_drewN|apply below_drew1)|exact HB.out)⟩⟩
  case round =>
   clear H'
   try clear p2
   try clear c3
   try clear c6
   obtain ⟨x3_1,x12_1,rfl,HA,HK1,HO_3,HB⟩ := hrel
   cases gk with
   | zero => exact absurd HA.out (fun h_ => (by cases h_))
   | succ k1 =>
    have H := HA.out
    clear HA
    simp only [impl_EncodeOps.l0] at H
    by_cases c7 : x12_1 < (l0.length : Int)
    ·rw [if_pos c7] at H
     have c7b0 : decide (x12_1 < (l0.length : Int)) = true := decide_eq_true c7
     clear c7
     by_cases c8 : 0 ≤ x12_1
     ·rw [if_pos c8] at H
      have c8b0 : decide (0 ≤ x12_1) = true := decide_eq_true c8
      clear c8
      by_cases c9 : x12_1 < (l0.length : Int)
      ·rw [if_pos c9] at H
       have c9b0 : decide (x12_1 < (l0.length : Int)) = true := decide_eq_true c9
       clear c9
       by_cases c10 : x3_1.length < 17592186044416
       ·rw [if_pos c10] at H
        have LMc10 := Aside0.mk c10
        clear c10
        obtain ⟨y401,hy401⟩ : ∃ y_ : List Int,y_ = (x3_1 ++ [(rd_T75 l0 x12_1).f0]) := ⟨_,rfl⟩
        replace H : ((impl_mostArg.f ((rd_T75 l0 x12_1).f0)).bind fun t404 => (if t404 = 0 then (impl_EncodeOps.l0 k1 y401 l0 (l0.length : Int) (wrap64 (x12_1 + 1))) else (if ((rd_T75 l0 x12_1).f1) < 128 then (if y401.length < 17592186044416 then (impl_EncodeOps.l0 k1 (y401 ++ [(rd_T75 l0 x12_1).f1]) l0 (l0.length : Int) (wrap64 (x12_1 + 1))) else (none)) else ((some (([wrap64 (128 + (Int.tmod ((rd_T75 l0 x12_1).f1) 128)),wrap64 (Int.tdiv ((rd_T75 l0 x12_1).f1) 128)] : List Int) : List Int)).bind fun y408 => (if y401.length + y408.length < 17592186044416 then (impl_EncodeOps.l0 k1 (y401 ++ y408) l0 (l0.length : Int) (wrap64 (x12_1 + 1))) else (none)))))) = some r := by first|(rw [hy401];with_reducible exact H)|(have H2_ := (Option.bind_some _ _).symm.trans H;rw [hy401];with_reducible exact H2_)|(have H2_ := (Option.bind_some _ _).symm.trans H;with_reducible exact H2_)|with_reducible exact H|(rw [hy401];exact H)|exact H
        have Ny401 := Aside0.mk hy401
        clear hy401
        replace H := Option.bind_eq_some_iff.mp H
        obtain ⟨t404,A110,H⟩ := H
        replace H : (if t404 = 0 then (impl_EncodeOps.l0 k1 y401 l0 (l0.length : Int) (wrap64 (x12_1 + 1))) else (if ((rd_T75 l0 x12_1).f1) < 128 then (if y401.length < 17592186044416 then (impl_EncodeOps.l0 k1 (y401 ++ [(rd_T75 l0 x12_1).f1]) l0 (l0.length : Int) (wrap64 (x12_1 + 1))) else (none)) else ((some (([wrap64 (128 + (Int.tmod ((rd_T75 l0 x12_1).f1) 128)),wrap64 (Int.tdiv ((rd_T75 l0 x12_1).f1) 128)] : List Int) : List Int)).bind fun y408 => (if y401.length + y408.length < 17592186044416 then (impl_EncodeOps.l0 k1 (y401 ++ y408) l0 (l0.length : Int) (wrap64 (x12_1 + 1))) else (none))))) = some r := H
        have A11 := Aside0.mk A110
        clear A110
        by_cases c12 : t404 = 0
        ·rw [if_pos c12] at H
         have c12b0 : (t404 == 0) = true := beq_iff_eq.mpr c12
         have c12b1 : (t404 != 0) = false := bne_eq_false_iff_eq.mpr c12
         clear c12
         have H' := Aside0.mk H
         clear H
         have p399 : 0 ≤ (x12_1 : Int) := of_decide_eq_true (by first|(with_reducible assumption)|assumption)
         have q399 : x12_1 < (l0.length : Int) := of_decide_eq_true (by first|(with_reducible assumption)|assumption)
         obtain ⟨ad399,e399,hx399_0,hx399_1⟩ := at_T75 HR0.out x12_1 p399 q399
         cases e399
         replace hx399_0 := (HB.out.cell (World.block_lt_of_cell? w _ hx399_0)).trans hx399_0
         replace hx399_1 := (HB.out.cell (World.block_lt_of_cell? w _ hx399_1)).trans hx399_1
         replace p399 := eq_true p399
         replace q399 := eq_true q399
         go_wp2_with (first|((with_reducible refine gate_dst (N := 5) rfl ?_);refine box_event ?hg (N := 5) ?hd (cs := #[.int .i64 0,.int .i64 0]) (t := 75) ?hr ?_;(case hd => rfl);(case hg => rfl);(case hr => first|(go_simp;done)|(go_simp;rfl));intro gb400 hg w13 hbox hb;have n0_ := Aside0.mk (Kd.R_below (by (with_reducible repeat (first|apply Kd.R_alloc|apply Kd.R_drewN|apply Kd.R_drew));exact HO_3.out) hb);have n1_ := Aside0.mk (below_step (by repeat (first|(with_reducible first|exact HB.out|apply below_alloc|apply pw_below_drewN|apply below_drew1)|exact HB.out)) hb);have n2_ := Aside0.mk (hbox);have n3_ := Aside0.mk ((by rw [hg];exact (below_size (by repeat (first|(with_reducible first|exact HB.out|apply below_alloc|apply pw_below_drewN|apply below_drew1)|exact HB.out))) : w.heap.size ≤ gb400));have n4_ := Aside0.mk ((by rw [hg];exact (below_size (by repeat (first|(with_reducible first|exact HB.out|apply below_alloc|apply pw_below_drewN|apply below_drew1)|exact HB.out))) : w.heap.size ≤ gb400));clear HO_3;clear HB;have HO_3 := n0_;have HB := n1_;have BK400 := n2_;have GW400 := n3_;have GE400 := n4_;clear n0_ n1_ n2_ n3_ n4_;clear hb hbox hg;have hcz14_0 : w13.cell? ⟨gb400,0,none⟩ = some (.int .i64 0) := (blk_cell BK400.out 0).trans rfl;have hcz14_1 : w13.cell? ⟨gb400,1,none⟩ = some (.int .i64 0) := (blk_cell BK400.out 1).trans rfl;have hfz14_0 := blk_frozen BK400.out 0;have hfz14_1 := blk_frozen BK400.out 1)|((with_reducible refine gate_builtin (b := .append) (xs := #[.tmp 16,.tmp 19]) rfl ?_);at_builtin;refine Kd.R_append (Kd.int .i64) (w0 := w) w.heap.size rfl (.tmp 16) (.tmp 19) 22 3 (.int .i64 0) 8 rfl Try.underlying22 info3 rfl (by decide) (by omega) u3 x3_1 ((rd_T75 l0 x12_1).f0) [.int .i64 ((rd_T75 l0 x12_1).f0)] (fun _ => True) (fun _ => False) rfl (by first|(go_simp;done)|(go_simp;rfl)) ?aP (fun _ hk => hk.elim) ?aF ?aO ?aB ?aS ?aL ?_;(case aP => exact rfl);(case aB => exact (by repeat (first|(with_reducible first|exact HB.out|apply below_alloc|apply pw_below_drewN|apply below_drew1|refine below_set ?_ GE400.out)|exact HB.out)));(case aF => exact (fun _ _ => trivial));(case aO => exact (by (with_reducible repeat (first|apply Kd.R_alloc|apply Kd.R_drewN|apply Kd.R_drew));exact Kd.R_mono (Kd.R_far (p := ⟨gb400,1,none⟩) (Kd.R_far (p := ⟨gb400,0,none⟩) (Kd.R_types HO_3.out BK400.out (by decide)) (fun _ hk => hk.2) (.int .i64 ((rd_T75 l0 x12_1).f0))) (fun _ hk => hk.2) (.int .i64 ((rd_T75 l0 x12_1).f1))) (fun _ hk => trivial)));(case aS => exact (below_size (by repeat (first|(with_reducible first|exact HB.out|apply below_alloc|apply pw_below_drewN|apply below_drew1|refine below_set ?_ GE400.out)|exact HB.out))));(case aL => have := LMc10.out;omega);intro v402 w15 ho hb hg hat;rw [← Ny401.out] at ho;have n0_ := Aside0.mk (blk_grown (g := gb400) (o := .cells #[.int .i64 ((rd_T75 l0 x12_1).f0),.int .i64 ((rd_T75 l0 x12_1).f1)] 75 (0,0)) (by (with_reducible repeat (first|refine blk_drewN ?_ _|refine blk_drew ?_|refine blk_alloc ?_ _));refine blk_put (cs := #[.int .i64 ((rd_T75 l0 x12_1).f0),.int .i64 0]) ?_ 1 _ rfl;(with_reducible repeat (first|refine blk_drewN ?_ _|refine blk_drew ?_|refine blk_alloc ?_ _));refine blk_put (cs := #[.int .i64 0,.int .i64 0]) ?_ 0 _ rfl;(with_reducible repeat (first|refine blk_drewN ?_ _|refine blk_drew ?_|refine blk_alloc ?_ _));exact BK400.out) hg (Kd.R_ne HO_3.out BK400.out (by decide)));have n1_ := Aside0.mk (hb);have n2_ := Aside0.mk (ho);clear BK400;clear HB;clear HO_3;have BK400 := n0_;have HB := n1_;have HO403 := n2_;clear n0_ n1_ n2_;clear ho hb hg hat;have hcz16_0 : w15.cell? ⟨gb400,0,none⟩ = some (.int .i64 ((rd_T75 l0 x12_1).f0)) := (blk_cell BK400.out 0).trans rfl;have hcz16_1 : w15.cell? ⟨gb400,1,none⟩ = some (.int .i64 ((rd_T75 l0 x12_1).f1)) := (blk_cell BK400.out 1).trans rfl;have hfz16_0 := blk_frozen BK400.out 0;have hfz16_1 := blk_frozen BK400.out 1)|((with_reducible refine gate_callee (f := 97) rfl ?_);refine goesL_ (some 34) rfl rfl Try.func97 (by kernel_rfl) rfl #[.int .i64 ((rd_T75 l0 x12_1).f0)] rfl (by (try simp only [List.map_toArray,List.map_cons,List.map_nil]);first|done|rfl|(simp only [List.length_drop,List.length_take];rfl)) ?_;(with_reducible refine (impl_mostArg.calls ((rd_T75 l0 x12_1).f0) t404 _ A11.out).mono ?_);rintro e w' ⟨rfl,⟨nd,rfl⟩⟩;refine ⟨_,rfl,?_⟩))
         go_roundg k1
         case measure => have := HK1.out;omega
         case rel => exact ⟨(y401),(wrap64 (x12_1 + 1)),(by first|rfl|(simp;done)|(simp [*];done)),H',⟨by have := HK1.out;omega⟩,⟨by (with_reducible repeat (first|apply Kd.R_alloc|apply Kd.R_drewN|apply Kd.R_drew));exact HO403.out⟩,⟨by repeat (first|(with_reducible first|exact HB.out|apply below_alloc|apply pw_below_drewN|apply below_drew1|refine below_set ?_ GE400.out)|exact HB.out)⟩⟩
        ·rw [if_neg c12] at H
         have c12b0 : (t404 == 0) = false := beq_eq_false_iff_ne.mpr c12
         have c12b1 : (t404 != 0) = true := bne_iff_ne.mpr c12
         by_cases c17 : ((rd_T75 l0 x12_1).f1) < 128
         ·rw [if_pos c17] at H
          have c17b0 : decide (((rd_T75 l0 x12_1).f1) < 128) = true := decide_eq_true c17
          clear c17
          by_cases c18 : y401.length < 17592186044416
          ·rw [if_pos c18] at H
           have LMc18 := Aside0.mk c18
           clear c18
           obtain ⟨y405,hy405⟩ : ∃ y_ : List Int,y_ = (y401 ++ [(rd_T75 l0 x12_1).f1]) := ⟨_,rfl⟩
           replace H : (impl_EncodeOps.l0 k1 y405 l0 (l0.length : Int) (wrap64 (x12_1 + 1))) = some r := by first|(rw [hy405];with_reducible exact H)|(have H2_ := (Option.bind_some _ _).symm.trans H;rw [hy405];with_reducible exact H2_)|(have H2_ := (Option.bind_some _ _).symm.trans H;with_reducible exact H2_)|with_reducible exact H|(rw [hy405];exact H)|exact H
           have Ny405 := Aside0.mk hy405
           clear hy405
           have H' := Aside0.mk H
           clear H
           have p399 : 0 ≤ (x12_1 : Int) := of_decide_eq_true (by first|(with_reducible assumption)|assumption)
           have q399 : x12_1 < (l0.length : Int) := of_decide_eq_true (by first|(with_reducible assumption)|assumption)
           obtain ⟨ad399,e399,hx399_0,hx399_1⟩ := at_T75 HR0.out x12_1 p399 q399
           cases e399
           replace hx399_0 := (HB.out.cell (World.block_lt_of_cell? w _ hx399_0)).trans hx399_0
           replace hx399_1 := (HB.out.cell (World.block_lt_of_cell? w _ hx399_1)).trans hx399_1
           replace p399 := eq_true p399
           replace q399 := eq_true q399
           go_wp2_with (first|((with_reducible refine gate_dst (N := 5) rfl ?_);refine box_event ?hg (N := 5) ?hd (cs := #[.int .i64 0,.int .i64 0]) (t := 75) ?hr ?_;(case hd => rfl);(case hg => rfl);(case hr => first|(go_simp;done)|(go_simp;rfl));intro gb400 hg w19 hbox hb;have n0_ := Aside0.mk (Kd.R_below (by (with_reducible repeat (first|apply Kd.R_alloc|apply Kd.R_drewN|apply Kd.R_drew));exact HO_3.out) hb);have n1_ := Aside0.mk (below_step (by repeat (first|(with_reducible first|exact HB.out|apply below_alloc|apply pw_below_drewN|apply below_drew1)|exact HB.out)) hb);have n2_ := Aside0.mk (hbox);have n3_ := Aside0.mk ((by rw [hg];exact (below_size (by repeat (first|(with_reducible first|exact HB.out|apply below_alloc|apply pw_below_drewN|apply below_drew1)|exact HB.out))) : w.heap.size ≤ gb400));have n4_ := Aside0.mk ((by rw [hg];exact (below_size (by repeat (first|(with_reducible first|exact HB.out|apply below_alloc|apply pw_below_drewN|apply below_drew1)|exact HB.out))) : w.heap.size ≤ gb400));clear HO_3;clear HB;have HO_3 := n0_;have HB := n1_;have BK400 := n2_;have GW400 := n3_;have GE400 := n4_;clear n0_ n1_ n2_ n3_ n4_;clear hb hbox hg;have hcz20_0 : w19.cell? ⟨gb400,0,none⟩ = some (.int .i64 0) := (blk_cell BK400.out 0).trans rfl;have hcz20_1 : w19.cell? ⟨gb400,1,none⟩ = some (.int .i64 0) := (blk_cell BK400.out 1).trans rfl;have hfz20_0 := blk_frozen BK400.out 0;have hfz20_1 := blk_frozen BK400.out 1)|((with_reducible refine gate_builtin (b := .append) (xs := #[.tmp 16,.tmp 19]) rfl ?_);at_builtin;refine Kd.R_append (Kd.int .i64) (w0 := w) w.heap.size rfl (.tmp 16) (.tmp 19) 22 3 (.int .i64 0) 8 rfl Try.underlying22 info3 rfl (by decide) (by omega) u3 x3_1 ((rd_T75 l0 x12_1).f0) [.int .i64 ((rd_T75 l0 x12_1).f0)] (fun _ => True) (fun _ => False) rfl (by first|(go_simp;done)|(go_simp;rfl)) ?aP (fun _ hk => hk.elim) ?aF ?aO ?aB ?aS ?aL ?_;(case aP => exact rfl);(case aB => exact (by repeat (first|(with_reducible first|exact HB.out|apply below_alloc|apply pw_below_drewN|apply below_drew1|refine below_set ?_ GE400.out)|exact HB.out)));(case aF => exact (fun _ _ => trivial));(case aO => exact (by (with_reducible repeat (first|apply Kd.R_alloc|apply Kd.R_drewN|apply Kd.R_drew));exact Kd.R_mono (Kd.R_far (p := ⟨gb400,1,none⟩) (Kd.R_far (p := ⟨gb400,0,none⟩) (Kd.R_types HO_3.out BK400.out (by decide)) (fun _ hk => hk.2) (.int .i64 ((rd_T75 l0 x12_1).f0))) (fun _ hk => hk.2) (.int .i64 ((rd_T75 l0 x12_1).f1))) (fun _ hk => trivial)));(case aS => exact (below_size (by repeat (first|(with_reducible first|exact HB.out|apply below_alloc|apply pw_below_drewN|apply below_drew1|refine below_set ?_ GE400.out)|exact HB.out))));(case aL => have := LMc10.out;omega);intro v402 w21 ho hb hg hat;rw [← Ny401.out] at ho;have n0_ := Aside0.mk (blk_grown (g := gb400) (o := .cells #[.int .i64 ((rd_T75 l0 x12_1).f0),.int .i64 ((rd_T75 l0 x12_1).f1)] 75 (0,0)) (by (with_reducible repeat (first|refine blk_drewN ?_ _|refine blk_drew ?_|refine blk_alloc ?_ _));refine blk_put (cs := #[.int .i64 ((rd_T75 l0 x12_1).f0),.int .i64 0]) ?_ 1 _ rfl;(with_reducible repeat (first|refine blk_drewN ?_ _|refine blk_drew ?_|refine blk_alloc ?_ _));refine blk_put (cs := #[.int .i64 0,.int .i64 0]) ?_ 0 _ rfl;(with_reducible repeat (first|refine blk_drewN ?_ _|refine blk_drew ?_|refine blk_alloc ?_ _));exact BK400.out) hg (Kd.R_ne HO_3.out BK400.out (by decide)));have n1_ := Aside0.mk (hb);have n2_ := Aside0.mk (ho);clear BK400;clear HB;clear HO_3;have BK400 := n0_;have HB := n1_;have HO403 := n2_;clear n0_ n1_ n2_;clear ho hb hg hat;have hcz22_0 : w21.cell? ⟨gb400,0,none⟩ = some (.int .i64 ((rd_T75 l0 x12_1).f0)) := (blk_cell BK400.out 0).trans rfl;have hcz22_1 : w21.cell? ⟨gb400,1,none⟩ = some (.int .i64 ((rd_T75 l0 x12_1).f1)) := (blk_cell BK400.out 1).trans rfl;have hfz22_0 := blk_frozen BK400.out 0;have hfz22_1 := blk_frozen BK400.out 1)|((with_reducible refine gate_callee (f := 97) rfl ?_);refine goesL_ (some 34) rfl rfl Try.func97 (by kernel_rfl) rfl #[.int .i64 ((rd_T75 l0 x12_1).f0)] rfl (by (try simp only [List.map_toArray,List.map_cons,List.map_nil]);first|done|rfl|(simp only [List.length_drop,List.length_take];rfl)) ?_;(with_reducible refine (impl_mostArg.calls ((rd_T75 l0 x12_1).f0) t404 _ A11.out).mono ?_);rintro e w' ⟨rfl,⟨nd,rfl⟩⟩;refine ⟨_,rfl,?_⟩)|((with_reducible refine gate_builtin (b := .append) (xs := #[.tmp 40,.tmp 43]) rfl ?_);at_builtin;refine Kd.R_append (Kd.int .i64) (w0 := w) w.heap.size rfl (.tmp 40) (.tmp 43) 22 3 (.int .i64 0) 8 rfl Try.underlying22 info3 rfl (by decide) (by omega) v402 y401 ((rd_T75 l0 x12_1).f1) [.int .i64 ((rd_T75 l0 x12_1).f1)] (fun _ => True) (fun _ => False) rfl rfl ?aP (fun _ hk => hk.elim) ?aF ?aO ?aB ?aS ?aL ?_;(case aP => exact rfl);(case aB => exact (by repeat (first|(with_reducible first|exact HB.out|apply below_alloc|apply pw_below_drewN|apply below_drew1|refine below_set ?_ GE400.out)|exact HB.out)));(case aF => exact (fun _ _ => trivial));(case aO => exact (by (with_reducible repeat (first|apply Kd.R_alloc|apply Kd.R_drewN|apply Kd.R_drew));exact HO403.out));(case aS => exact (below_size (by repeat (first|(with_reducible first|exact HB.out|apply below_alloc|apply pw_below_drewN|apply below_drew1|refine below_set ?_ GE400.out)|exact HB.out))));(case aL => have := LMc18.out;omega);intro v406 w23 ho hb hg hat;rw [← Ny405.out] at ho;have n0_ := Aside0.mk (blk_grown (g := gb400) (o := .cells #[.int .i64 ((rd_T75 l0 x12_1).f0),.int .i64 ((rd_T75 l0 x12_1).f1)] 75 (0,0)) (by (with_reducible repeat (first|refine blk_drewN ?_ _|refine blk_drew ?_|refine blk_alloc ?_ _));exact BK400.out) hg (Kd.R_ne HO403.out BK400.out (by decide)));have n1_ := Aside0.mk (hb);have n2_ := Aside0.mk (ho);clear BK400;clear HB;clear HO403;have BK400 := n0_;have HB := n1_;have HO407 := n2_;clear n0_ n1_ n2_;clear ho hb hg hat))
           go_roundg k1
           case measure => have := HK1.out;omega
           case rel => exact ⟨(y405),(wrap64 (x12_1 + 1)),(by first|rfl|(simp;done)|(simp [*];done)),H',⟨by have := HK1.out;omega⟩,⟨by (with_reducible repeat (first|apply Kd.R_alloc|apply Kd.R_drewN|apply Kd.R_drew));exact HO407.out⟩,⟨by repeat (first|(with_reducible first|exact HB.out|apply below_alloc|apply pw_below_drewN|apply below_drew1|refine below_set ?_ GE400.out)|exact HB.out)⟩⟩
          ·rw [if_neg c18] at H
           exact absurd H (by simp)
         ·rw [if_neg c17] at H
          have c17b0 : decide (((rd_T75 l0 x12_1).f1) < 128) = false := decide_eq_false c17
          clear c17
          obtain ⟨y408,hy408⟩ : ∃ y_ : List Int,y_ = (([wrap64 (128 + (Int.tmod ((rd_T75 l0 x12_1).f1) 128)),wrap64 (Int.tdiv ((rd_T75 l0 x12_1).f1) 128)] : List Int)) := ⟨_,rfl⟩
          replace H : (if y401.length + y408.length < 17592186044416 then (impl_EncodeOps.l0 k1 (y401 ++ y408) l0 (l0.length : Int) (wrap64 (x12_1 + 1))) else (none)) = some r := by first|(rw [hy408];with_reducible exact H)|(have H2_ := (Option.bind_some _ _).symm.trans H;rw [hy408];with_reducible exact H2_)|(have H2_ := (Option.bind_some _ _).symm.trans H;with_reducible exact H2_)|with_reducible exact H|(rw [hy408];exact H)|exact H
          have Ny408 := Aside0.mk hy408
          clear hy408
          by_cases c24 : y401.length + y408.length < 17592186044416
          ·rw [if_pos c24] at H
           have LMc24 := Aside0.mk c24
           clear c24
           obtain ⟨y411,hy411⟩ : ∃ y_ : List Int,y_ = (y401 ++ y408) := ⟨_,rfl⟩
           replace H : (impl_EncodeOps.l0 k1 y411 l0 (l0.length : Int) (wrap64 (x12_1 + 1))) = some r := by first|(rw [hy411];with_reducible exact H)|(have H2_ := (Option.bind_some _ _).symm.trans H;rw [hy411];with_reducible exact H2_)|(have H2_ := (Option.bind_some _ _).symm.trans H;with_reducible exact H2_)|with_reducible exact H|(rw [hy411];exact H)|exact H
           have Ny411 := Aside0.mk hy411
           clear hy411
           have H' := Aside0.mk H
           clear H
           have p399 : 0 ≤ (x12_1 : Int) := of_decide_eq_true (by first|(with_reducible assumption)|assumption)
           have q399 : x12_1 < (l0.length : Int) := of_decide_eq_true (by first|(with_reducible assumption)|assumption)
           obtain ⟨ad399,e399,hx399_0,hx399_1⟩ := at_T75 HR0.out x12_1 p399 q399
           cases e399
           replace hx399_0 := (HB.out.cell (World.block_lt_of_cell? w _ hx399_0)).trans hx399_0
           replace hx399_1 := (HB.out.cell (World.block_lt_of_cell? w _ hx399_1)).trans hx399_1
           replace p399 := eq_true p399
           replace q399 := eq_true q399
           go_wp2_with (first|((with_reducible refine gate_dst (N := 5) rfl ?_);refine box_event ?hg (N := 5) ?hd (cs := #[.int .i64 0,.int .i64 0]) (t := 75) ?hr ?_;(case hd => rfl);(case hg => rfl);(case hr => first|(go_simp;done)|(go_simp;rfl));intro gb400 hg w25 hbox hb;have n0_ := Aside0.mk (Kd.R_below (by (with_reducible repeat (first|apply Kd.R_alloc|apply Kd.R_drewN|apply Kd.R_drew));exact HO_3.out) hb);have n1_ := Aside0.mk (below_step (by repeat (first|(with_reducible first|exact HB.out|apply below_alloc|apply pw_below_drewN|apply below_drew1)|exact HB.out)) hb);have n2_ := Aside0.mk (hbox);have n3_ := Aside0.mk ((by rw [hg];exact (below_size (by repeat (first|(with_reducible first|exact HB.out|apply below_alloc|apply pw_below_drewN|apply below_drew1)|exact HB.out))) : w.heap.size ≤ gb400));have n4_ := Aside0.mk ((by rw [hg];exact (below_size (by repeat (first|(with_reducible first|exact HB.out|apply below_alloc|apply pw_below_drewN|apply below_drew1)|exact HB.out))) : w.heap.size ≤ gb400));clear HO_3;clear HB;have HO_3 := n0_;have HB := n1_;have BK400 := n2_;have GW400 := n3_;have GE400 := n4_;clear n0_ n1_ n2_ n3_ n4_;clear hb hbox hg;have hcz26_0 : w25.cell? ⟨gb400,0,none⟩ = some (.int .i64 0) := (blk_cell BK400.out 0).trans rfl;have hcz26_1 : w25.cell? ⟨gb400,1,none⟩ = some (.int .i64 0) := (blk_cell BK400.out 1).trans rfl;have hfz26_0 := blk_frozen BK400.out 0;have hfz26_1 := blk_frozen BK400.out 1)|((with_reducible refine gate_builtin (b := .append) (xs := #[.tmp 16,.tmp 19]) rfl ?_);at_builtin;refine Kd.R_append (Kd.int .i64) (w0 := w) w.heap.size rfl (.tmp 16) (.tmp 19) 22 3 (.int .i64 0) 8 rfl Try.underlying22 info3 rfl (by decide) (by omega) u3 x3_1 ((rd_T75 l0 x12_1).f0) [.int .i64 ((rd_T75 l0 x12_1).f0)] (fun _ => True) (fun _ => False) rfl (by first|(go_simp;done)|(go_simp;rfl)) ?aP (fun _ hk => hk.elim) ?aF ?aO ?aB ?aS ?aL ?_;(case aP => exact rfl);(case aB => exact (by repeat (first|(with_reducible first|exact HB.out|apply below_alloc|apply pw_below_drewN|apply below_drew1|refine below_set ?_ GE400.out)|exact HB.out)));(case aF => exact (fun _ _ => trivial));(case aO => exact (by (with_reducible repeat (first|apply Kd.R_alloc|apply Kd.R_drewN|apply Kd.R_drew));exact Kd.R_mono (Kd.R_far (p := ⟨gb400,1,none⟩) (Kd.R_far (p := ⟨gb400,0,none⟩) (Kd.R_types HO_3.out BK400.out (by decide)) (fun _ hk => hk.2) (.int .i64 ((rd_T75 l0 x12_1).f0))) (fun _ hk => hk.2) (.int .i64 ((rd_T75 l0 x12_1).f1))) (fun _ hk => trivial)));(case aS => exact (below_size (by repeat (first|(with_reducible first|exact HB.out|apply below_alloc|apply pw_below_drewN|apply below_drew1|refine below_set ?_ GE400.out)|exact HB.out))));(case aL => have := LMc10.out;omega);intro v402 w27 ho hb hg hat;rw [← Ny401.out] at ho;have n0_ := Aside0.mk (blk_grown (g := gb400) (o := .cells #[.int .i64 ((rd_T75 l0 x12_1).f0),.int .i64 ((rd_T75 l0 x12_1).f1)] 75 (0,0)) (by (with_reducible repeat (first|refine blk_drewN ?_ _|refine blk_drew ?_|refine blk_alloc ?_ _));refine blk_put (cs := #[.int .i64 ((rd_T75 l0 x12_1).f0),.int .i64 0]) ?_ 1 _ rfl;(with_reducible repeat (first|refine blk_drewN ?_ _|refine blk_drew ?_|refine blk_alloc ?_ _));refine blk_put (cs := #[.int .i64 0,.int .i64 0]) ?_ 0 _ rfl;(with_reducible repeat (first|refine blk_drewN ?_ _|refine blk_drew ?_|refine blk_alloc ?_ _));exact BK400.out) hg (Kd.R_ne HO_3.out BK400.out (by decide)));have n1_ := Aside0.mk (hb);have n2_ := Aside0.mk (ho);clear BK400;clear HB;clear HO_3;have BK400 := n0_;have HB := n1_;have HO403 := n2_;clear n0_ n1_ n2_;clear ho hb hg hat;have hcz28_0 : w27.cell? ⟨gb400,0,none⟩ = some (.int .i64 ((rd_T75 l0 x12_1).f0)) := (blk_cell BK400.out 0).trans rfl;have hcz28_1 : w27.cell? ⟨gb400,1,none⟩ = some (.int .i64 ((rd_T75 l0 x12_1).f1)) := (blk_cell BK400.out 1).trans rfl;have hfz28_0 := blk_frozen BK400.out 0;have hfz28_1 := blk_frozen BK400.out 1)|((with_reducible refine gate_callee (f := 97) rfl ?_);refine goesL_ (some 34) rfl rfl Try.func97 (by kernel_rfl) rfl #[.int .i64 ((rd_T75 l0 x12_1).f0)] rfl (by (try simp only [List.map_toArray,List.map_cons,List.map_nil]);first|done|rfl|(simp only [List.length_drop,List.length_take];rfl)) ?_;(with_reducible refine (impl_mostArg.calls ((rd_T75 l0 x12_1).f0) t404 _ A11.out).mono ?_);rintro e w' ⟨rfl,⟨nd,rfl⟩⟩;refine ⟨_,rfl,?_⟩)|((with_reducible refine gate_dst (N := 29) rfl ?_);refine Kd.R_lit (Kd.int .i64) _ 3 ?hg (N := 29) ?hd (xs := ([wrap64 (128 + (Int.tmod ((rd_T75 l0 x12_1).f1) 128)),wrap64 (Int.tdiv ((rd_T75 l0 x12_1).f1) 128)] : List Int)) (inner := [.int .i64 (wrap64 (128 + (Int.tmod ((rd_T75 l0 x12_1).f1) 128))),.int .i64 (wrap64 (Int.tdiv ((rd_T75 l0 x12_1).f1) 128))]) (ok := fun _ => True) (okp := fun _ => True) ?hr ?hp (fun _ hk => hk) trivial (Below.refl _ _) (Nat.le_refl _) (by simp) ?_;(case hd => rfl);(case hg => rfl);(case hr => first|(go_simp;done)|(go_simp;rfl));(case hp => exact (Reps.one (show Kd.M (Kd.int .i64) _ _ _ (wrap64 (128 + (Int.tmod ((rd_T75 l0 x12_1).f1) 128))) [.int .i64 (wrap64 (128 + (Int.tmod ((rd_T75 l0 x12_1).f1) 128)))] from rfl) (Reps.one (show Kd.M (Kd.int .i64) _ _ _ (wrap64 (Int.tdiv ((rd_T75 l0 x12_1).f1) 128)) [.int .i64 (wrap64 (Int.tdiv ((rd_T75 l0 x12_1).f1) 128))] from rfl) (Reps.none _ _))));intro v409 w29 ho30 hb hg_ hnew_;clear hg_ hnew_;(first|rw [← Ny408.out] at ho30|(simp only [Int.reduceToNat] at ho30;rw [← Ny408.out] at ho30));have n0_ := Aside0.mk (Kd.R_elder' (by (with_reducible repeat (first|apply Kd.R_alloc|apply Kd.R_drewN|apply Kd.R_drew));exact HO403.out) (Kd.R_base ho30) hb);have n1_ := Aside0.mk (Kd.R_lower (Kd.R_new' ho30 (Kd.R_lt (by (with_reducible repeat (first|apply Kd.R_alloc|apply Kd.R_drewN|apply Kd.R_drew));exact HO403.out))) (below_size (by repeat (first|(with_reducible first|exact HB.out|apply below_alloc|apply pw_below_drewN|apply below_drew1|refine below_set ?_ GE400.out)|exact HB.out))));have n2_ := Aside0.mk (blk_below (g := gb400) (o := .cells #[.int .i64 ((rd_T75 l0 x12_1).f0),.int .i64 ((rd_T75 l0 x12_1).f1)] 75 (0,0)) (by (with_reducible repeat (first|refine blk_drewN ?_ _|refine blk_drew ?_|refine blk_alloc ?_ _));exact BK400.out) hb);have n3_ := Aside0.mk (below_step (by repeat (first|(with_reducible first|exact HB.out|apply below_alloc|apply pw_below_drewN|apply below_drew1|refine below_set ?_ GE400.out)|exact HB.out)) hb);clear HO403;clear BK400;clear HB;have HO403 := n0_;have HO410 := n1_;have BK400 := n2_;have HB := n3_;clear n0_ n1_ n2_ n3_;clear hb ho30;obtain ⟨Ao32,co32,eo32⟩ := Kd.R_slice HO410.out;subst eo32)|((with_reducible refine gate_builtin (b := .append) (xs := #[.tmp 21,.tmp 29]) rfl ?_);at_builtin;refine Kd.R_append_rows (Kd.int .i64) (w0 := w) w.heap.size rfl (.tmp 21) (.tmp 29) 22 3 (.int .i64 0) 8 rfl Try.underlying22 info3 rfl (by decide) (by omega) v402 y401 y408 _ _ _ (fun k_ => some k_ ≠ (.slice Ao32 y408.length co32 : Value).ownBlock) (fun _ => False) rfl rfl ?aO ?aR (fun _ _ h => h) (fun _ h => h.elim) ?aF ?aB ?aS ?aL ?_;(case aR => repeat (first|exact (Kd.R_reads' HO410.out).2.2|(with_reducible refine Kd.C_alloc ?_ _)|(with_reducible refine Kd.C_drewN ?_ _)|(with_reducible refine Kd.C_drew ?_)));(case aB => exact (by repeat (first|(with_reducible first|exact HB.out|apply below_alloc|apply pw_below_drewN|apply below_drew1|refine below_set ?_ GE400.out)|exact HB.out)));(case aF => exact (fun k_ hk => Kd.fresh' (Kd.R_lt (by (with_reducible repeat (first|apply Kd.R_alloc|apply Kd.R_drewN|apply Kd.R_drew));exact HO410.out)) k_ hk));(case aO => exact (by (with_reducible repeat (first|apply Kd.R_alloc|apply Kd.R_drewN|apply Kd.R_drew));exact Kd.R_mono HO403.out (fun _ hk => hk.2)));(case aS => exact (below_size (by repeat (first|(with_reducible first|exact HB.out|apply below_alloc|apply pw_below_drewN|apply below_drew1|refine below_set ?_ GE400.out)|exact HB.out))));(case aL => have := LMc24.out;omega);intro v412 w31 ho hb hg hat;rw [← Ny411.out] at ho;have n0_ := Aside0.mk (blk_grown (g := gb400) (o := .cells #[.int .i64 ((rd_T75 l0 x12_1).f0),.int .i64 ((rd_T75 l0 x12_1).f1)] 75 (0,0)) (by (with_reducible repeat (first|refine blk_drewN ?_ _|refine blk_drew ?_|refine blk_alloc ?_ _));exact BK400.out) hg (Kd.R_ne HO403.out BK400.out (by decide)));have n1_ := Aside0.mk (Kd.R_after (ok := (fun _ => True)) (by (with_reducible repeat (first|apply Kd.R_alloc|apply Kd.R_drewN|apply Kd.R_drew));exact HO410.out) hg hat);have n2_ := Aside0.mk (hb);have n3_ := Aside0.mk (ho);clear BK400;clear HO410;clear HB;clear HO403;have BK400 := n0_;have HO410 := n1_;have HB := n2_;have HO413 := n3_;clear n0_ n1_ n2_ n3_;clear ho hb hg hat))
           go_roundg k1
           case measure => have := HK1.out;omega
           case rel => exact ⟨(y411),(wrap64 (x12_1 + 1)),(by first|rfl|(simp;done)|(simp [*];done)),H',⟨by have := HK1.out;omega⟩,⟨by (with_reducible repeat (first|apply Kd.R_alloc|apply Kd.R_drewN|apply Kd.R_drew));exact Kd.R_mono HO413.out (fun _ hk => trivial)⟩,⟨by repeat (first|(with_reducible first|exact HB.out|apply below_alloc|apply pw_below_drewN|apply below_drew1|refine below_set ?_ GE400.out)|exact HB.out)⟩⟩
          ·rw [if_neg c24] at H
           exact absurd H (by simp)
       ·rw [if_neg c10] at H
        exact absurd H (by simp)
      ·rw [if_neg c9] at H
       exact absurd H (by simp)
     ·rw [if_neg c8] at H
      exact absurd H (by simp)
    ·rw [if_neg c7] at H
     have c7b0 : decide (x12_1 < (l0.length : Int)) = false := decide_eq_false c7
     clear c7
     obtain rfl := Option.some.inj H
     go_wp2
     go_ret
     exact ⟨_,by first|rfl|(simp [errW_none,errW_some] <;> rfl)|(simp [*,errW_none,errW_some] <;> rfl),by (with_reducible repeat (first|apply Kd.R_alloc|apply Kd.R_drewN|apply Kd.R_drew));exact HO_3.out,by repeat (first|(with_reducible first|exact HB.out|apply below_alloc|apply pw_below_drewN|apply below_drew1)|exact HB.out)⟩
 ·replace c3 := Bool.eq_false_iff.mpr c3
  subst c3
  have H1 : (some ([] : List Int)) = some r := by rw [if_neg (show ¬ (false = true) by decide)] at H;exact H
  clear H
  have H := H1
  clear H1
  obtain rfl := Option.some.inj H
  go_enter Try.func64,Try.ntmps64
  go_wp2_with (first|((with_reducible refine gate_callee (f := 61) rfl ?_);refine goesL_ (some 7) rfl rfl Try.func61 (by kernel_rfl) rfl #[.slice A0 l0.length c0] rfl (by (try simp only [List.map_toArray,List.map_cons,List.map_nil]);first|done|rfl|(simp only [List.length_drop,List.length_take];rfl)) ?_;(with_reducible refine (impl_ValidOps.calls k _ _ l0 false _ ?side1 ?side2 A2.out).mono ?_);(case side1 => repeat (first|exact HR0.out|(with_reducible refine Kd.C_alloc ?_ _)|(with_reducible refine Kd.C_drewN ?_ _)|(with_reducible refine Kd.C_drew ?_)));(case side2 => exact HC0.out);rintro e w33 ⟨rfl,hb⟩;refine ⟨_,rfl,?_⟩;have n0_ := Aside0.mk (below_step (by repeat (first|(with_reducible first|exact HB.out|apply below_alloc|apply pw_below_drewN|apply below_drew1)|exact HB.out)) hb);clear HB;have HB := n0_;clear n0_;(try clear hb);(try clear hb2);(try clear hk);(try clear hi)))
  go_ret
  exact ⟨_,by first|rfl|(simp [errW_none,errW_some] <;> rfl)|(simp [*,errW_none,errW_some] <;> rfl),by first|exact Kd.R_nil _ _ _ _ _|exact Kd.N_nil _ _ _ _ _|exact Kd.V_nil _ _ _ _ _|exact Kd.Q_nil _ _ _ _ _|exact Kd.S_nil _ _ _ _ _,by repeat (first|(with_reducible first|exact HB.out|apply below_alloc|apply pw_below_drewN|apply below_drew1)|exact HB.out)⟩

/-! ### impl_StreamBytes: function 23 -/
mutual
def impl_StreamBytes.j0 : Nat → List (S75) → Int → Bool → Option (List Int)
 | 0,_,_,_ => none
 | k + 1,x0,x1,x18 => if x18 = true then (some ([] : List Int)) else ((impl_SplitStops.f k x0).bind fun t418 => (impl_StreamBytes.l0 k x1 (([] : List Int)) t418 (t418.length : Int) 0))
def impl_StreamBytes.l0 : Nat → Int → List Int → List (List (S75)) → Int → Int → Option (List Int)
 | 0,_,_,_,_,_ => none
 | k + 1,x1,x5,x21,x22,x23 => if x23 < x22 then (if 0 ≤ x23 then (if x23 < (x21.length : Int) then ((impl_EncodeOps.f k (rd_L6 x21 x23)).bind fun t422 => ((impl_FrameBytes.f k t422 x1).bind fun t425 => (if x5.length + t425.length < 17592186044416 then (impl_StreamBytes.l0 k x1 (x5 ++ t425) x21 x22 (wrap64 (x23 + 1))) else (none)))) else (none)) else (none)) else (if (x5.length : Int) > 2000 then (some ([] : List Int)) else (some x5))
end
def impl_StreamBytes.f (k : Nat) (l0 : List (S75)) (a1 : Int) : Option (List Int) := (impl_ValidOps.f k l0).bind fun t414 => (if t414 = true then (if a1 < 1 then (impl_StreamBytes.j0 k l0 a1 true) else (impl_StreamBytes.j0 k l0 a1 (decide (a1 > 200)))) else (impl_StreamBytes.j0 k l0 a1 true))
set_option maxRecDepth 100000 in
theorem impl_StreamBytes.mono_l : ∀ k,(∀ y0 y1 y2,LeO (impl_StreamBytes.j0 k y0 y1 y2) (impl_StreamBytes.j0 (k + 1) y0 y1 y2)) ∧ (∀ y0 y1 y2 y3 y4,LeO (impl_StreamBytes.l0 k y0 y1 y2 y3 y4) (impl_StreamBytes.l0 (k + 1) y0 y1 y2 y3 y4))
 | 0 => ⟨fun _ _ _ r h => (by cases h),fun _ _ _ _ _ r h => (by cases h)⟩
 | k + 1 => by
  obtain ⟨ih0,ih1⟩ := impl_StreamBytes.mono_l k
  refine ⟨?_,?_⟩
  ·intro y0 y1 y2
   unfold impl_StreamBytes.j0
   repeat' first
   | (with_reducible exact ih0 _ _ _)
   | (with_reducible exact ih1 _ _ _ _ _)
   | (with_reducible exact impl_EncodeOps.mono _ _)
   | (with_reducible exact impl_FrameBytes.mono _ _ _)
   | (with_reducible exact impl_SplitStops.mono _ _)
   | (with_reducible exact impl_ValidOps.mono _ _)
   | (with_reducible exact LeO.refl _)
   | (with_reducible exact LeO.none _)
   | (with_reducible refine LeO.ite ?_ ?_)
   | (with_reducible refine LeO.bind ?_ (fun _ => ?_))
   | exact ih0 _ _ _
   | exact ih1 _ _ _ _ _
   | exact impl_EncodeOps.mono _ _
   | exact impl_FrameBytes.mono _ _ _
   | exact impl_SplitStops.mono _ _
   | exact impl_ValidOps.mono _ _
   | exact LeO.none _
   | refine LeO.ite ?_ ?_
   | refine LeO.bind ?_ (fun _ => ?_)
  ·intro y0 y1 y2 y3 y4
   unfold impl_StreamBytes.l0
   repeat' first
   | (with_reducible exact ih0 _ _ _)
   | (with_reducible exact ih1 _ _ _ _ _)
   | (with_reducible exact impl_EncodeOps.mono _ _)
   | (with_reducible exact impl_FrameBytes.mono _ _ _)
   | (with_reducible exact impl_SplitStops.mono _ _)
   | (with_reducible exact impl_ValidOps.mono _ _)
   | (with_reducible exact LeO.refl _)
   | (with_reducible exact LeO.none _)
   | (with_reducible refine LeO.ite ?_ ?_)
   | (with_reducible refine LeO.bind ?_ (fun _ => ?_))
   | exact ih0 _ _ _
   | exact ih1 _ _ _ _ _
   | exact impl_EncodeOps.mono _ _
   | exact impl_FrameBytes.mono _ _ _
   | exact impl_SplitStops.mono _ _
   | exact impl_ValidOps.mono _ _
   | exact LeO.none _
   | refine LeO.ite ?_ ?_
   | refine LeO.bind ?_ (fun _ => ?_)
set_option maxRecDepth 100000 in
theorem impl_StreamBytes.mono : ∀ a0 a1 k,LeO (impl_StreamBytes.f k a0 a1) (impl_StreamBytes.f (k + 1) a0 a1) := by
 intro a0 a1 k
 obtain ⟨ih0,ih1⟩ := impl_StreamBytes.mono_l k
 unfold impl_StreamBytes.f
 repeat' first
   | (with_reducible exact ih0 _ _ _)
   | (with_reducible exact ih1 _ _ _ _ _)
   | (with_reducible exact impl_EncodeOps.mono _ _)
   | (with_reducible exact impl_FrameBytes.mono _ _ _)
   | (with_reducible exact impl_SplitStops.mono _ _)
   | (with_reducible exact impl_ValidOps.mono _ _)
   | (with_reducible exact LeO.refl _)
   | (with_reducible exact LeO.none _)
   | (with_reducible refine LeO.ite ?_ ?_)
   | (with_reducible refine LeO.bind ?_ (fun _ => ?_))
   | exact ih0 _ _ _
   | exact ih1 _ _ _ _ _
   | exact impl_EncodeOps.mono _ _
   | exact impl_FrameBytes.mono _ _ _
   | exact impl_SplitStops.mono _ _
   | exact impl_ValidOps.mono _ _
   | exact LeO.none _
   | refine LeO.ite ?_ ?_
   | refine LeO.bind ?_ (fun _ => ?_)
set_option maxHeartbeats 8000000 in
set_option maxRecDepth 100000 in
theorem impl_StreamBytes.calls (k : Nat) (A0 : Option Addr) (c0 : Nat) (l0 : List (S75)) (a1 : Int) (r : List Int) (w : World) (hr0 : Kd.C k75 w A0 l0.length l0) (hc0 : l0.length ≤ c0) (h : impl_StreamBytes.f k l0 a1 = some r) :
  Calls Try.prog 23 #[.slice A0 l0.length c0,.int .i64 a1] w fun e w' => ∃ v0_ : Value,e = .returned (v0_) ∧ Kd.R (Kd.int .i64) 3 w' w.heap.size (fun _ => True) v0_ r ∧ Below w.heap.size w w' := by
 have HR0 := Aside0.mk hr0
 have HC0 := Aside0.mk hc0
 clear hr0 hc0
 have HB := Aside0.mk (Below.refl w.heap.size w)
 have H : ((impl_ValidOps.f k l0).bind fun t414 => (if t414 = true then (if a1 < 1 then (impl_StreamBytes.j0 k l0 a1 true) else (impl_StreamBytes.j0 k l0 a1 (decide (a1 > 200)))) else (impl_StreamBytes.j0 k l0 a1 true))) = some r := h
 clear h
 have HC3 := Aside0.mk H
 clear H
 go_enter Try.func23,Try.ntmps23
 go_upto_region 1 with (fail)
 go_cut [18] (fun v18 wc => ∃ (kq : Nat) (x18_2 : Bool),v18 = .bool x18_2 ∧ Aside0 (impl_StreamBytes.j0 kq l0 a1 x18_2 = some r) ∧ Aside0 (kq ≤ k) ∧ Aside0 (Below w.heap.size w wc))
 case first =>
  have H := HC3.out
  clear HC3
  replace H := Option.bind_eq_some_iff.mp H
  obtain ⟨t414,A40,H⟩ := H
  replace H : (if t414 = true then (if a1 < 1 then (impl_StreamBytes.j0 k l0 a1 true) else (impl_StreamBytes.j0 k l0 a1 (decide (a1 > 200)))) else (impl_StreamBytes.j0 k l0 a1 true)) = some r := H
  have A4 := Aside0.mk A40
  clear A40
  by_cases c5 : t414 = true
  ·subst c5
   have H1 : (if a1 < 1 then (impl_StreamBytes.j0 k l0 a1 true) else (impl_StreamBytes.j0 k l0 a1 (decide (a1 > 200)))) = some r := by rw [if_pos rfl] at H;exact H
   clear H
   have H := H1
   clear H1
   by_cases c6 : a1 < 1
   ·rw [if_pos c6] at H
    have c6b0 : decide (a1 < 1) = true := decide_eq_true c6
    clear c6
    (first|rw [c6b0]|(simp only [i64_w,i32_w];rw [c6b0])|skip)
    have H' := Aside0.mk H
    clear H
    go_wp2_with (first|((with_reducible refine gate_callee (f := 61) rfl ?_);refine goesL_ (some 9) rfl rfl Try.func61 (by kernel_rfl) rfl #[.slice A0 l0.length c0] rfl (by (try simp only [List.map_toArray,List.map_cons,List.map_nil]);first|done|rfl|(simp only [List.length_drop,List.length_take];rfl)) ?_;(with_reducible refine (impl_ValidOps.calls k _ _ l0 true _ ?side1 ?side2 A4.out).mono ?_);(case side1 => repeat (first|exact (Kd.C_below HR0.out HB.out)|(with_reducible refine Kd.C_alloc ?_ _)|(with_reducible refine Kd.C_drewN ?_ _)|(with_reducible refine Kd.C_drew ?_)));(case side2 => exact HC0.out);rintro e w7 ⟨rfl,hb⟩;refine ⟨_,rfl,?_⟩;have n0_ := Aside0.mk (below_step (by repeat (first|(with_reducible first|exact HB.out|apply below_alloc|apply pw_below_drewN|apply below_drew1)|exact HB.out)) hb);clear HB;have HB := n0_;clear n0_;(try clear hb);(try clear hb2);(try clear hk);(try clear hi)))
    go_meet
    case rel => exact ⟨_,(true),(by first|rfl|(simp;done)|(simp [*];done)),H',⟨by first|omega|exact Nat.le_refl _⟩,⟨by repeat (first|(with_reducible first|exact HB.out|apply below_alloc|apply pw_below_drewN|apply below_drew1)|exact HB.out)⟩⟩
   ·rw [if_neg c6] at H
    have c6b0 : decide (a1 < 1) = false := decide_eq_false c6
    clear c6
    (first|rw [c6b0]|(simp only [i64_w,i32_w];rw [c6b0])|skip)
    have H' := Aside0.mk H
    clear H
    go_wp2_with (first|((with_reducible refine gate_callee (f := 61) rfl ?_);refine goesL_ (some 9) rfl rfl Try.func61 (by kernel_rfl) rfl #[.slice A0 l0.length c0] rfl (by (try simp only [List.map_toArray,List.map_cons,List.map_nil]);first|done|rfl|(simp only [List.length_drop,List.length_take];rfl)) ?_;(with_reducible refine (impl_ValidOps.calls k _ _ l0 true _ ?side1 ?side2 A4.out).mono ?_);(case side1 => repeat (first|exact (Kd.C_below HR0.out HB.out)|(with_reducible refine Kd.C_alloc ?_ _)|(with_reducible refine Kd.C_drewN ?_ _)|(with_reducible refine Kd.C_drew ?_)));(case side2 => exact HC0.out);rintro e w8 ⟨rfl,hb⟩;refine ⟨_,rfl,?_⟩;have n0_ := Aside0.mk (below_step (by repeat (first|(with_reducible first|exact HB.out|apply below_alloc|apply pw_below_drewN|apply below_drew1)|exact HB.out)) hb);clear HB;have HB := n0_;clear n0_;(try clear hb);(try clear hb2);(try clear hk);(try clear hi)))
    go_meet
    case rel => exact ⟨_,(decide (a1 > 200)),(by first|rfl|(simp;done)|(simp [*];done)),H',⟨by first|omega|exact Nat.le_refl _⟩,⟨by repeat (first|(with_reducible first|exact HB.out|apply below_alloc|apply pw_below_drewN|apply below_drew1)|exact HB.out)⟩⟩
  ·replace c5 := Bool.eq_false_iff.mpr c5
   subst c5
   have H1 : (impl_StreamBytes.j0 k l0 a1 true) = some r := by rw [if_neg (show ¬ (false = true) by decide)] at H;exact H
   clear H
   have H := H1
   clear H1
   have H' := Aside0.mk H
   clear H
   go_wp2_with (first|((with_reducible refine gate_callee (f := 61) rfl ?_);refine goesL_ (some 9) rfl rfl Try.func61 (by kernel_rfl) rfl #[.slice A0 l0.length c0] rfl (by (try simp only [List.map_toArray,List.map_cons,List.map_nil]);first|done|rfl|(simp only [List.length_drop,List.length_take];rfl)) ?_;(with_reducible refine (impl_ValidOps.calls k _ _ l0 false _ ?side1 ?side2 A4.out).mono ?_);(case side1 => repeat (first|exact (Kd.C_below HR0.out HB.out)|(with_reducible refine Kd.C_alloc ?_ _)|(with_reducible refine Kd.C_drewN ?_ _)|(with_reducible refine Kd.C_drew ?_)));(case side2 => exact HC0.out);rintro e w9 ⟨rfl,hb⟩;refine ⟨_,rfl,?_⟩;have n0_ := Aside0.mk (below_step (by repeat (first|(with_reducible first|exact HB.out|apply below_alloc|apply pw_below_drewN|apply below_drew1)|exact HB.out)) hb);clear HB;have HB := n0_;clear n0_;(try clear hb);(try clear hb2);(try clear hk);(try clear hi)))
   go_meet
   case rel => exact ⟨_,(true),(by first|rfl|(simp;done)|(simp [*];done)),H',⟨by first|omega|exact Nat.le_refl _⟩,⟨by repeat (first|(with_reducible first|exact HB.out|apply below_alloc|apply pw_below_drewN|apply below_drew1)|exact HB.out)⟩⟩
 case rest =>
  clear HC3
  try clear c2
  try clear p2
  try clear c5
  try clear c6
  try clear c6b0
  obtain ⟨kq,x18_2,rfl,HA,HJ2,HB⟩ := hcut
  cases kq with
  | zero => exact absurd HA.out (fun h_ => (by cases h_))
  | succ kj2 =>
   have H := HA.out
   clear HA
   simp only [impl_StreamBytes.j0] at H
   by_cases c10 : x18_2 = true
   ·subst c10
    have H1 : (some ([] : List Int)) = some r := by rw [if_pos rfl] at H;exact H
    clear H
    have H := H1
    clear H1
    obtain rfl := Option.some.inj H
    go_wp2
    go_ret
    exact ⟨_,by first|rfl|(simp [errW_none,errW_some] <;> rfl)|(simp [*,errW_none,errW_some] <;> rfl),by first|exact Kd.R_nil _ _ _ _ _|exact Kd.N_nil _ _ _ _ _|exact Kd.V_nil _ _ _ _ _|exact Kd.Q_nil _ _ _ _ _|exact Kd.S_nil _ _ _ _ _,by repeat (first|(with_reducible first|exact HB.out|apply below_alloc|apply pw_below_drewN|apply below_drew1)|exact HB.out)⟩
   ·replace c10 := Bool.eq_false_iff.mpr c10
    subst c10
    have H1 : ((impl_SplitStops.f kj2 l0).bind fun t418 => (impl_StreamBytes.l0 kj2 a1 (([] : List Int)) t418 (t418.length : Int) 0)) = some r := by rw [if_neg (show ¬ (false = true) by decide)] at H;exact H
    clear H
    have H := H1
    clear H1
    obtain ⟨y415,hy415⟩ : ∃ y_ : List Int,y_ = (([] : List Int)) := ⟨_,rfl⟩
    replace H : ((impl_SplitStops.f kj2 l0).bind fun t418 => (impl_StreamBytes.l0 kj2 a1 y415 t418 (t418.length : Int) 0)) = some r := by first|(rw [hy415];with_reducible exact H)|(have H2_ := (Option.bind_some _ _).symm.trans H;rw [hy415];with_reducible exact H2_)|(have H2_ := (Option.bind_some _ _).symm.trans H;with_reducible exact H2_)|with_reducible exact H|(rw [hy415];exact H)|exact H
    have Ny415 := Aside0.mk hy415
    clear hy415
    replace H := Option.bind_eq_some_iff.mp H
    obtain ⟨t418,A110,H⟩ := H
    replace H : (impl_StreamBytes.l0 kj2 a1 y415 t418 (t418.length : Int) 0) = some r := H
    have A11 := Aside0.mk A110
    clear A110
    have H' := Aside0.mk H
    clear H
    go_wp2_with (first|((with_reducible refine gate_dst (N := 19) rfl ?_);refine Kd.R_lit (Kd.int .i64) _ 3 ?hg (N := 19) ?hd (xs := ([] : List Int)) (inner := []) (ok := fun _ => True) (okp := fun _ => True) ?hr ?hp (fun _ hk => hk) trivial (Below.refl _ _) (Nat.le_refl _) (by simp) ?_;(case hd => rfl);(case hg => rfl);(case hr => first|(go_simp;done)|(go_simp;rfl));(case hp => exact (Reps.none _ _));intro v416 w12 ho13 hb hg_ hnew_;clear hg_ hnew_;(first|rw [← Ny415.out] at ho13|(simp only [Int.reduceToNat] at ho13;rw [← Ny415.out] at ho13));have n0_ := Aside0.mk (Kd.R_lower ho13 (below_size (by repeat (first|(with_reducible first|exact HB.out|apply below_alloc|apply pw_below_drewN|apply below_drew1)|exact HB.out))));have n1_ := Aside0.mk (below_step (by repeat (first|(with_reducible first|exact HB.out|apply below_alloc|apply pw_below_drewN|apply below_drew1)|exact HB.out)) hb);clear HB;have HO417 := n0_;have HB := n1_;clear n0_ n1_;clear hb ho13)|((with_reducible refine gate_callee (f := 62) rfl ?_);refine goesL_ (some 21) rfl rfl Try.func62 (by kernel_rfl) rfl #[.slice A0 l0.length c0] rfl (by (try simp only [List.map_toArray,List.map_cons,List.map_nil]);first|done|rfl|(simp only [List.length_drop,List.length_take];rfl)) ?_;(with_reducible refine (impl_SplitStops.calls kj2 _ _ l0 t418 _ ?side1 ?side2 A11.out).mono ?_);(case side1 => repeat (first|exact (Kd.C_below HR0.out HB.out)|(with_reducible refine Kd.C_alloc ?_ _)|(with_reducible refine Kd.C_drewN ?_ _)|(with_reducible refine Kd.C_drew ?_)));(case side2 => exact HC0.out);rintro e w14 ⟨v419,rfl,ho0,hb⟩;refine ⟨_,rfl,?_⟩;have n0_ := Aside0.mk (Kd.R_below (by (with_reducible repeat (first|apply Kd.R_alloc|apply Kd.R_drewN|apply Kd.R_drew));exact HO417.out) hb);have n1_ := Aside0.mk (Kd.N_lower (Kd.N_mono (ok' := fun k_ => some k_ ≠ (v416 : Value).ownBlock) ho0 (fun k_ hk_ => (Kd.fresh' (Kd.R_lt (by (with_reducible repeat (first|apply Kd.R_alloc|apply Kd.R_drewN|apply Kd.R_drew));exact HO417.out)) k_ hk_))) (below_size (by repeat (first|(with_reducible first|exact HB.out|apply below_alloc|apply pw_below_drewN|apply below_drew1)|exact HB.out))));have n2_ := Aside0.mk (below_step (by repeat (first|(with_reducible first|exact HB.out|apply below_alloc|apply pw_below_drewN|apply below_drew1)|exact HB.out)) hb);clear HO417;clear HB;have HO417 := n0_;have HO420 := n1_;have HB := n2_;clear n0_ n1_ n2_;(try clear hb);(try clear hb2);(try clear hk);(try clear hi);(try clear ho0);obtain ⟨Ao15,co15,eo15⟩ := Kd.N_slice HO420.out;subst eo15))
    go_loopg [5,23] kj2 (fun kq v5 v23 w' => ∃ (x5_2 : List Int) (x23_2 : Int),v23 = .int .i64 x23_2 ∧ Aside0 (impl_StreamBytes.l0 kq a1 x5_2 t418 (t418.length : Int) x23_2 = some r) ∧ Aside0 (kq ≤ kj2) ∧ Aside0 (Kd.R (Kd.int .i64) 3 w' w.heap.size (fun _ => True) v5 x5_2) ∧ Aside0 (Kd.N (Kd.slice 75 k75) 23 w' w.heap.size (fun k_ => some k_ ≠ (v5 : Value).ownBlock) (.slice Ao15 t418.length co15) t418) ∧ Aside0 (Below w.heap.size w w'))
    case atStart => exact ⟨(y415),(0),(by first|rfl|(simp;done)|(simp [*];done)),H',⟨Nat.le_refl _⟩,⟨by (with_reducible repeat (first|apply Kd.R_alloc|apply Kd.R_drewN|apply Kd.R_drew));exact HO417.out⟩,⟨by (with_reducible repeat (first|apply Kd.N_alloc|apply Kd.N_drewN|apply Kd.N_drew));exact HO420.out⟩,⟨by repeat (first|(with_reducible first|exact HB.out|apply below_alloc|apply pw_below_drewN|apply below_drew1)|exact HB.out)⟩⟩
    case round =>
     clear H'
     try clear c1
     try clear c2
     try clear p2
     try clear c5
     try clear c6
     try clear c6b0
     try clear c10
     try clear p2
     obtain ⟨x5_2,x23_2,rfl,HA,HK2,HO_5,HO_21,HB⟩ := hrel
     cases gk with
     | zero => exact absurd HA.out (fun h_ => (by cases h_))
     | succ k2 =>
      have H := HA.out
      clear HA
      simp only [impl_StreamBytes.l0] at H
      by_cases c16 : x23_2 < (t418.length : Int)
      ·rw [if_pos c16] at H
       have c16b0 : decide (x23_2 < (t418.length : Int)) = true := decide_eq_true c16
       clear c16
       by_cases c17 : 0 ≤ x23_2
       ·rw [if_pos c17] at H
        have c17b0 : decide (0 ≤ x23_2) = true := decide_eq_true c17
        clear c17
        by_cases c18 : x23_2 < (t418.length : Int)
        ·rw [if_pos c18] at H
         have c18b0 : decide (x23_2 < (t418.length : Int)) = true := decide_eq_true c18
         clear c18
         replace H := Option.bind_eq_some_iff.mp H
         obtain ⟨t422,A190,H⟩ := H
         replace H : ((impl_FrameBytes.f k2 t422 a1).bind fun t425 => (if x5_2.length + t425.length < 17592186044416 then (impl_StreamBytes.l0 k2 a1 (x5_2 ++ t425) t418 (t418.length : Int) (wrap64 (x23_2 + 1))) else (none))) = some r := H
         have A19 := Aside0.mk A190
         clear A190
         replace H := Option.bind_eq_some_iff.mp H
         obtain ⟨t425,A200,H⟩ := H
         replace H : (if x5_2.length + t425.length < 17592186044416 then (impl_StreamBytes.l0 k2 a1 (x5_2 ++ t425) t418 (t418.length : Int) (wrap64 (x23_2 + 1))) else (none)) = some r := H
         have A20 := Aside0.mk A200
         clear A200
         by_cases c21 : x5_2.length + t425.length < 17592186044416
         ·rw [if_pos c21] at H
          have LMc21 := Aside0.mk c21
          clear c21
          obtain ⟨y428,hy428⟩ : ∃ y_ : List Int,y_ = (x5_2 ++ t425) := ⟨_,rfl⟩
          replace H : (impl_StreamBytes.l0 k2 a1 y428 t418 (t418.length : Int) (wrap64 (x23_2 + 1))) = some r := by first|(rw [hy428];with_reducible exact H)|(have H2_ := (Option.bind_some _ _).symm.trans H;rw [hy428];with_reducible exact H2_)|(have H2_ := (Option.bind_some _ _).symm.trans H;with_reducible exact H2_)|with_reducible exact H|(rw [hy428];exact H)|exact H
          have Ny428 := Aside0.mk hy428
          clear hy428
          have H' := Aside0.mk H
          clear H
          have p421 : 0 ≤ (x23_2 : Int) := of_decide_eq_true (by first|(with_reducible assumption)|assumption)
          have q421 : x23_2 < (t418.length : Int) := of_decide_eq_true (by first|(with_reducible assumption)|assumption)
          obtain ⟨ad421,A421_0,c421_0,e421,hx421_0,hl421_0,hi421_0⟩ := at_L6 (Kd.N_reads' HO_21.out).2.2 x23_2 p421 q421
          cases e421
          obtain ⟨ce421,hce421,hMe421,hcc421⟩ := Kd.N_get HO_21.out [] x23_2 p421 (by first|exact q421|exact of_decide_eq_true (by first|(with_reducible assumption)|assumption)|(have e_ := (Kd.N_reads' HO_21.out).1;omega))
          obtain ⟨ua421_0,uc421_0,rfl,ul421_0,ge421_0⟩ := Kd.FK_slice_open hMe421
          have hv421_0 := hcc421 0 _ rfl
          rw [Nat.add_zero,show ((Kd.slice 75 k75)).sz = 1 from rfl,Nat.mul_one] at hv421_0
          replace hv421_0 := Option.some.inj (hv421_0.symm.trans hx421_0)
          injection hv421_0 with hva_ hvn_ hvc_
          rw [hva_] at ge421_0
          rw [hvc_] at ul421_0
          have HL421_0 := Aside0.mk (show Kd.V k75 75 _ w.heap.size _ _ (rd_L6 t418 x23_2) from Kd.V_mk ul421_0 ge421_0)
          clear hva_ hvn_ hvc_ ge421_0 ul421_0
          clear hcc421 hce421
          have HR421_0 := Aside0.mk hi421_0
          have HC421_0 := Aside0.mk hl421_0
          clear hi421_0 hl421_0
          replace p421 := eq_true p421
          replace q421 := eq_true q421
          go_wp2_with (first|((with_reducible refine gate_callee (f := 64) rfl ?_);refine goesL_ (some 29) rfl rfl Try.func64 (by kernel_rfl) rfl #[.slice A421_0 (rd_L6 t418 x23_2).length c421_0] rfl (by (try simp only [List.map_toArray,List.map_cons,List.map_nil]);first|done|rfl|(simp only [List.length_drop,List.length_take];rfl)) ?_;(with_reducible refine (impl_EncodeOps.calls k2 _ _ (rd_L6 t418 x23_2) t422 _ ?side1 ?side2 A19.out).mono ?_);(case side1 => repeat (first|exact (by repeat (first|(with_reducible exact HR421_0.out)|(with_reducible refine Kd.C_alloc ?_ _)|(with_reducible refine Kd.C_drewN ?_ _)|(with_reducible refine Kd.C_drew ?_)|exact HR421_0.out))|(with_reducible refine Kd.C_alloc ?_ _)|(with_reducible refine Kd.C_drewN ?_ _)|(with_reducible refine Kd.C_drew ?_)));(case side2 => exact HC421_0.out);rintro e w22 ⟨v423,rfl,ho0,hb⟩;refine ⟨_,rfl,?_⟩;have n0_ := Aside0.mk (Kd.R_elder' (by (with_reducible repeat (first|apply Kd.R_alloc|apply Kd.R_drewN|apply Kd.R_drew));exact HO_5.out) (Kd.R_base ho0) hb);have n1_ := Aside0.mk (Kd.N_elder' (by (with_reducible repeat (first|apply Kd.N_alloc|apply Kd.N_drewN|apply Kd.N_drew));exact HO_21.out) (Kd.R_base ho0) hb);have n2_ := Aside0.mk (Kd.V_elder' (by (with_reducible repeat (first|apply Kd.V_alloc|apply Kd.V_drewN|apply Kd.V_drew));exact HL421_0.out) (Kd.R_base ho0) hb);have n3_ := Aside0.mk (Kd.R_lower (Kd.R_new' ho0 (Kd.R_lt (by (with_reducible repeat (first|apply Kd.R_alloc|apply Kd.R_drewN|apply Kd.R_drew));exact HO_5.out))) (below_size (by repeat (first|(with_reducible first|exact HB.out|apply below_alloc|apply pw_below_drewN|apply below_drew1)|exact HB.out))));have n4_ := Aside0.mk (Kd.C_below (by repeat (first|(with_reducible exact HR421_0.out)|(with_reducible refine Kd.C_alloc ?_ _)|(with_reducible refine Kd.C_drewN ?_ _)|(with_reducible refine Kd.C_drew ?_)|exact HR421_0.out)) hb);have n5_ := Aside0.mk (below_step (by repeat (first|(with_reducible first|exact HB.out|apply below_alloc|apply pw_below_drewN|apply below_drew1)|exact HB.out)) hb);clear HO_5;clear HO_21;clear HL421_0;clear HR421_0;clear HB;have HO_5 := n0_;have HO_21 := n1_;have HL421_0 := n2_;have HO424 := n3_;have HR421_0 := n4_;have HB := n5_;clear n0_ n1_ n2_ n3_ n4_ n5_;(try clear hb);(try clear hb2);(try clear hk);(try clear hi);(try clear ho0);obtain ⟨Ao23,co23,eo23⟩ := Kd.R_slice HO424.out;subst eo23)|((with_reducible refine gate_callee (f := 63) rfl ?_);refine goesL_ (some 31) rfl rfl Try.func63 (by kernel_rfl) rfl #[.slice Ao23 t422.length co23,.int .i64 a1] rfl (by (try simp only [List.map_toArray,List.map_cons,List.map_nil]);first|done|rfl|(simp only [List.length_drop,List.length_take];rfl)) ?_;(with_reducible refine (impl_FrameBytes.calls k2 (fun k_ => some k_ = (.slice Ao23 t422.length co23 : Value).ownBlock) _ _ t422 a1 t425 _ ?side1 A20.out).mono ?_);(case side1 => exact Kd.R_V (Kd.R_tight rfl (Kd.R_apart' (HO424.out) (Kd.N_typed HO_21.out) (by decide))));rintro e w24 ⟨v426,rfl,ho0,hb⟩;refine ⟨_,rfl,?_⟩;have n0_ := Aside0.mk (Kd.R_elder' (by (with_reducible repeat (first|apply Kd.R_alloc|apply Kd.R_drewN|apply Kd.R_drew));exact HO_5.out) (Kd.R_base ho0) hb);have n1_ := Aside0.mk (Kd.N_elder' (by (with_reducible repeat (first|apply Kd.N_alloc|apply Kd.N_drewN|apply Kd.N_drew));exact HO_21.out) (Kd.R_base ho0) hb);have n2_ := Aside0.mk (Kd.V_elder' (by (with_reducible repeat (first|apply Kd.V_alloc|apply Kd.V_drewN|apply Kd.V_drew));exact HL421_0.out) (Kd.R_base ho0) hb);have n3_ := Aside0.mk (Kd.R_elder' (by (with_reducible repeat (first|apply Kd.R_alloc|apply Kd.R_drewN|apply Kd.R_drew));exact HO424.out) (Kd.R_base ho0) hb);have n4_ := Aside0.mk (Kd.R_lower (Kd.R_new' (Kd.R_new' (Kd.R_mono (ok' := fun k_ => True) ho0 (fun _ hk_ => trivial)) (Kd.R_lt (by (with_reducible repeat (first|apply Kd.R_alloc|apply Kd.R_drewN|apply Kd.R_drew));exact HO_5.out))) (Kd.R_lt (by (with_reducible repeat (first|apply Kd.R_alloc|apply Kd.R_drewN|apply Kd.R_drew));exact HO424.out))) (below_size (by repeat (first|(with_reducible first|exact HB.out|apply below_alloc|apply pw_below_drewN|apply below_drew1)|exact HB.out))));have n5_ := Aside0.mk (Kd.C_below (by repeat (first|(with_reducible exact HR421_0.out)|(with_reducible refine Kd.C_alloc ?_ _)|(with_reducible refine Kd.C_drewN ?_ _)|(with_reducible refine Kd.C_drew ?_)|exact HR421_0.out)) hb);have n6_ := Aside0.mk (below_step (by repeat (first|(with_reducible first|exact HB.out|apply below_alloc|apply pw_below_drewN|apply below_drew1)|exact HB.out)) hb);clear HO_5;clear HO_21;clear HL421_0;clear HO424;clear HR421_0;clear HB;have HO_5 := n0_;have HO_21 := n1_;have HL421_0 := n2_;have HO424 := n3_;have HO427 := n4_;have HR421_0 := n5_;have HB := n6_;clear n0_ n1_ n2_ n3_ n4_ n5_ n6_;(try clear hb);(try clear hb2);(try clear hk);(try clear hi);(try clear ho0);obtain ⟨Ao26,co26,eo26⟩ := Kd.R_slice HO427.out;subst eo26)|((with_reducible refine gate_builtin (b := .append) (xs := #[.tmp 27,.tmp 31]) rfl ?_);at_builtin;refine Kd.R_append_rows (Kd.int .i64) (w0 := w) w.heap.size rfl (.tmp 27) (.tmp 31) 22 3 (.int .i64 0) 8 rfl Try.underlying22 info3 rfl (by decide) (by omega) u5 x5_2 t425 _ _ _ (fun k_ => some k_ ≠ (.slice Ao23 t422.length co23 : Value).ownBlock ∧ some k_ ≠ (.slice Ao26 t425.length co26 : Value).ownBlock) (fun _ => False) rfl rfl ?aO ?aR (fun _ _ h => h) (fun _ h => h.elim) ?aF ?aB ?aS ?aL ?_;(case aR => repeat (first|exact (Kd.R_reads' HO427.out).2.2|(with_reducible refine Kd.C_alloc ?_ _)|(with_reducible refine Kd.C_drewN ?_ _)|(with_reducible refine Kd.C_drew ?_)));(case aB => exact (by repeat (first|(with_reducible first|exact HB.out|apply below_alloc|apply pw_below_drewN|apply below_drew1)|exact HB.out)));(case aF => exact (fun k_ hk => ⟨Kd.fresh' (Kd.R_lt (by (with_reducible repeat (first|apply Kd.R_alloc|apply Kd.R_drewN|apply Kd.R_drew));exact HO424.out)) k_ hk,Kd.fresh' (Kd.R_lt (by (with_reducible repeat (first|apply Kd.R_alloc|apply Kd.R_drewN|apply Kd.R_drew));exact HO427.out)) k_ hk⟩));(case aO => exact (by (with_reducible repeat (first|apply Kd.R_alloc|apply Kd.R_drewN|apply Kd.R_drew));exact Kd.R_mono HO_5.out (fun _ hk => ⟨hk.1.2,hk.2⟩)));(case aS => exact (below_size (by repeat (first|(with_reducible first|exact HB.out|apply below_alloc|apply pw_below_drewN|apply below_drew1)|exact HB.out))));(case aL => have := LMc21.out;omega);intro v429 w25 ho hb hg hat;rw [← Ny428.out] at ho;have n0_ := Aside0.mk (Kd.N_afterv (ok := (fun k_ => some k_ ≠ (.slice Ao23 t422.length co23 : Value).ownBlock ∧ some k_ ≠ (.slice Ao26 t425.length co26 : Value).ownBlock)) (by (with_reducible repeat (first|apply Kd.N_alloc|apply Kd.N_drewN|apply Kd.N_drew));exact Kd.N_mono HO_21.out (fun _ hk => ⟨⟨hk.1.2,hk.2⟩,hk.1.1⟩)) hg hat);have n1_ := Aside0.mk (Kd.V_afterv (ok := (fun k_ => some k_ ≠ (.slice (some ad421) t418.length co15 : Value).ownBlock ∧ some k_ ≠ (.slice Ao23 t422.length co23 : Value).ownBlock ∧ some k_ ≠ (.slice Ao26 t425.length co26 : Value).ownBlock)) (by (with_reducible repeat (first|apply Kd.V_alloc|apply Kd.V_drewN|apply Kd.V_drew));exact Kd.V_mono HL421_0.out (fun _ hk => ⟨⟨hk.1.1.2,⟨hk.1.2,hk.2⟩⟩,hk.1.1.1⟩)) hg hat);have n2_ := Aside0.mk (Kd.R_after (ok := (fun k_ => some k_ ≠ (.slice Ao26 t425.length co26 : Value).ownBlock)) (by (with_reducible repeat (first|apply Kd.R_alloc|apply Kd.R_drewN|apply Kd.R_drew));exact Kd.R_mono HO424.out (fun _ hk => ⟨hk.2,hk.1.2⟩)) hg hat);have n3_ := Aside0.mk (Kd.R_after (ok := (fun k_ => some k_ ≠ (.slice Ao23 t422.length co23 : Value).ownBlock)) (by (with_reducible repeat (first|apply Kd.R_alloc|apply Kd.R_drewN|apply Kd.R_drew));exact Kd.R_mono HO427.out (fun _ hk => ⟨hk.2,hk.1.2⟩)) hg hat);have n4_ := Aside0.mk (hb);have n5_ := Aside0.mk (ho);clear HO_21;clear HL421_0;clear HO424;clear HO427;clear HB;clear HO_5;have HO_21 := n0_;have HL421_0 := n1_;have HO424 := n2_;have HO427 := n3_;have HB := n4_;have HO430 := n5_;clear n0_ n1_ n2_ n3_ n4_ n5_;clear ho hb hg hat))
          go_roundg k2
          case measure => have := HJ2.out;have := HK2.out;omega
          case rel => exact ⟨(y428),(wrap64 (x23_2 + 1)),(by first|rfl|(simp;done)|(simp [*];done)),H',⟨by have := HJ2.out;have := HK2.out;omega⟩,⟨by (with_reducible repeat (first|apply Kd.R_alloc|apply Kd.R_drewN|apply Kd.R_drew));exact Kd.R_mono HO430.out (fun _ hk => trivial)⟩,⟨by (with_reducible repeat (first|apply Kd.N_alloc|apply Kd.N_drewN|apply Kd.N_drew));exact Kd.N_mono HO_21.out (fun _ hk => hk.2)⟩,⟨by repeat (first|(with_reducible first|exact HB.out|apply below_alloc|apply pw_below_drewN|apply below_drew1)|exact HB.out)⟩⟩
         ·rw [if_neg c21] at H
          exact absurd H (by simp)
        ·rw [if_neg c18] at H
         exact absurd H (by simp)
       ·rw [if_neg c17] at H
        exact absurd H (by simp)
      ·rw [if_neg c16] at H
       have c16b0 : decide (x23_2 < (t418.length : Int)) = false := decide_eq_false c16
       clear c16
       by_cases c27 : (x5_2.length : Int) > 2000
       ·rw [if_pos c27] at H
        have c27b0 : decide (2000 < (x5_2.length : Int)) = true := decide_eq_true c27
        have c27b1 : decide (2000 < x5_2.length) = true := decide_eq_true (by omega)
        clear c27
        obtain rfl := Option.some.inj H
        obtain ⟨Ao28,co28,eo28⟩ := Kd.R_slice HO_5.out
        subst eo28
        go_wp2
        go_ret
        exact ⟨_,by first|rfl|(simp [errW_none,errW_some] <;> rfl)|(simp [*,errW_none,errW_some] <;> rfl),by first|exact Kd.R_nil _ _ _ _ _|exact Kd.N_nil _ _ _ _ _|exact Kd.V_nil _ _ _ _ _|exact Kd.Q_nil _ _ _ _ _|exact Kd.S_nil _ _ _ _ _,by repeat (first|(with_reducible first|exact HB.out|apply below_alloc|apply pw_below_drewN|apply below_drew1)|exact HB.out)⟩
       ·rw [if_neg c27] at H
        have c27b0 : decide (2000 < (x5_2.length : Int)) = false := decide_eq_false c27
        have c27b1 : decide (2000 < x5_2.length) = false := decide_eq_false (by omega)
        clear c27
        obtain rfl := Option.some.inj H
        obtain ⟨Ao29,co29,eo29⟩ := Kd.R_slice HO_5.out
        subst eo29
        go_wp2
        go_ret
        exact ⟨_,by first|rfl|(simp [errW_none,errW_some] <;> rfl)|(simp [*,errW_none,errW_some] <;> rfl),by (with_reducible repeat (first|apply Kd.R_alloc|apply Kd.R_drewN|apply Kd.R_drew));exact HO_5.out,by repeat (first|(with_reducible first|exact HB.out|apply below_alloc|apply pw_below_drewN|apply below_drew1)|exact HB.out)⟩

end Go.Proofs.Ytbokjhdhpmmpfaa.Q
