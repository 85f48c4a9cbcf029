-- Written by wip/tools/qprint.py (a program of this claim's author) by means of the kit's printer.
import Derived.Test.YtbokjhdhpmmpfaaQ0
import Derived.Test.YtbokjhdhpmmpfaaQ61
import Derived.Test.YtbokjhdhpmmpfaaQ62
import Derived.Test.YtbokjhdhpmmpfaaQ97
namespace Go.Proofs.Ytbokjhdhpmmpfaa.Q
open Go.RowKit Go.Proofs.YtbokjhdhpmmpfaaW.PrintWords Go.Proofs.YtbokjhdhpmmpfaaW.PrintLast Go.Proofs.YtbokjhdhpmmpfaaW.PrintMore
attribute [local go_sem] max2_int min2_int max_two min_two max_three min_three max_four min_four   -- for this text's walks alone
set_option linter.unusedVariables false
set_option linter.unusedSimpArgs false

/-! ### impl_EncodeOps: function 64 -/
def impl_EncodeOps.l0 : Nat → List Int → List (S75) → Int → Int → Option (List Int)
 | 0,_,_,_,_ => none
 | k + 1,x3,x10,x11,x12 => if x12 < x11 then (if 0 ≤ x12 then (if x12 < (x10.length : Int) then (if x3.length < 17592186044416 then ((some (x3 ++ [(rd_T75 x10 x12).f0] : List Int)).bind fun y406 => ((impl_mostArg.f ((rd_T75 x10 x12).f0)).bind fun t409 => (if t409 = 0 then (impl_EncodeOps.l0 k y406 x10 x11 (wrap64 (x12 + 1))) else (if ((rd_T75 x10 x12).f1) < 128 then (if y406.length < 17592186044416 then (impl_EncodeOps.l0 k (y406 ++ [(rd_T75 x10 x12).f1]) x10 x11 (wrap64 (x12 + 1))) else (none)) else ((some (([wrap64 (128 + (Int.tmod ((rd_T75 x10 x12).f1) 128)),wrap64 (Int.tdiv ((rd_T75 x10 x12).f1) 128)] : List Int) : List Int)).bind fun y413 => (if y406.length + y413.length < 17592186044416 then (impl_EncodeOps.l0 k (y406 ++ y413) x10 x11 (wrap64 (x12 + 1))) else (none))))))) else (none)) else (none)) else (none)) else (some x3)
def impl_EncodeOps.f (k : Nat) (l0 : List (S75)) : Option (List Int) := (impl_ValidOps.f k l0).bind fun t400 => (if t400 = true then (impl_EncodeOps.l0 k (([] : List Int)) l0 (l0.length : Int) 0) else (some ([] : List Int)))
set_option maxRecDepth 100000 in
theorem impl_EncodeOps.mono_l : ∀ k,(∀ y0 y1 y2 y3,LeO (impl_EncodeOps.l0 k y0 y1 y2 y3) (impl_EncodeOps.l0 (k + 1) y0 y1 y2 y3))
 | 0 => fun _ _ _ _ r h => (by cases h)
 | k + 1 => by
  have ih0 := impl_EncodeOps.mono_l k
  ·intro y0 y1 y2 y3
   unfold impl_EncodeOps.l0
   repeat' first
   | (with_reducible exact ih0 _ _ _ _)
   | (with_reducible exact impl_ValidOps.mono _ _)
   | (with_reducible exact LeO.refl _)
   | (with_reducible exact LeO.none _)
   | (with_reducible refine LeO.ite ?_ ?_)
   | (with_reducible refine LeO.bind ?_ (fun _ => ?_))
   | exact ih0 _ _ _ _
   | exact impl_ValidOps.mono _ _
   | exact LeO.none _
   | refine LeO.ite ?_ ?_
   | refine LeO.bind ?_ (fun _ => ?_)
set_option maxRecDepth 100000 in
theorem impl_EncodeOps.mono : ∀ a0 k,LeO (impl_EncodeOps.f k a0) (impl_EncodeOps.f (k + 1) a0) := by
 intro a0 k
 have ih0 := impl_EncodeOps.mono_l k
 unfold impl_EncodeOps.f
 repeat' first
   | (with_reducible exact ih0 _ _ _ _)
   | (with_reducible exact impl_ValidOps.mono _ _)
   | (with_reducible exact LeO.refl _)
   | (with_reducible exact LeO.none _)
   | (with_reducible refine LeO.ite ?_ ?_)
   | (with_reducible refine LeO.bind ?_ (fun _ => ?_))
   | exact ih0 _ _ _ _
   | exact impl_ValidOps.mono _ _
   | exact LeO.none _
   | refine LeO.ite ?_ ?_
   | refine LeO.bind ?_ (fun _ => ?_)
set_option maxHeartbeats 8000000 in
set_option maxRecDepth 100000 in
theorem impl_EncodeOps.calls (k : Nat) (A0 : Option Addr) (c0 : Nat) (l0 : List (S75)) (r : List Int) (w : World) (hr0 : Kd.C k75 w A0 l0.length l0) (hc0 : l0.length ≤ c0) (h : impl_EncodeOps.f k l0 = some r) :
  Calls Try.prog 64 #[.slice A0 l0.length c0] w fun e w' => ∃ v0_ : Value,e = .returned (v0_) ∧ Kd.R (Kd.int .i64) 3 w' w.heap.size (fun _ => True) v0_ r ∧ Below w.heap.size w w' := by
 have hu75 := Try.underlying75
 have HR0 := As_ hr0
 have HC0 := As_ hc0
 clear hr0 hc0
 have HB := As_ (Below.refl w.heap.size w)
 have H : ((impl_ValidOps.f k l0).bind fun t400 => (if t400 = true then (impl_EncodeOps.l0 k (([] : List Int)) l0 (l0.length : Int) 0) else (some ([] : List Int)))) = some r := h
 clear h
 replace H := obS H
 obtain ⟨t400,A20,H⟩ := H
 replace H : (if t400 = true then (impl_EncodeOps.l0 k (([] : List Int)) l0 (l0.length : Int) 0) else (some ([] : List Int))) = some r := H
 have A2 := As_ A20
 clear A20
 by_cases c3 : t400 = true
 rotate_left
 ·replace c3 := Bool.eq_false_iff.mpr c3
  subst c3
  have H1 : (some ([] : List Int)) = some r := by rw [if_neg (show ¬ (false = true) by decide)] at H;exact H
  clear H
  have H := H1
  clear H1
  obtain rfl := Option.some.inj H
  go_enter Try.func64,Try.ntmps64
  go_wp2_with (first|((with_reducible refine gate_callee (f := 61) rfl ?_);refine goesL_ (some 7) rfl rfl Try.func61 (by kernel_rfl) rfl #[.slice A0 l0.length c0] rfl zM_ ?_;(with_reducible refine (impl_ValidOps.calls k _ _ l0 false _ ?side1 ?side2 A2.out).mono ?_);(case side1 => repeat (first|exact HR0.out|(with_reducible refine Kd.C_alloc ?_ _)|(with_reducible refine Kd.C_drewN ?_ _)|(with_reducible refine Kd.C_drew ?_)));(case side2 => exact HC0.out);rintro e w33 ⟨rfl,hb⟩;refine ⟨_,rfl,?_⟩;have n0_ := As_ (bwT (zb0 HB.out) hb);clear HB;revert n0_;intro HB))
  go_ret
  exact ⟨_,zE_,by first|exact Kd.R_nil _ _ _ _ _|exact Kd.N_nil _ _ _ _ _|exact Kd.V_nil _ _ _ _ _|exact Kd.Q_nil _ _ _ _ _|exact Kd.S_nil _ _ _ _ _,zb0 HB.out⟩

 subst c3
 have H1 : (impl_EncodeOps.l0 k (([] : List Int)) l0 (l0.length : Int) 0) = some r := by rw [if_pos rfl] at H;exact H
 clear H
 have H := H1
 clear H1
 obtain ⟨y401,hy401⟩ : ∃ y_ : List Int,y_ = (([] : List Int)) := ⟨_,rfl⟩
 replace H : (impl_EncodeOps.l0 k y401 l0 (l0.length : Int) 0) = some r := zH_ H hy401
 have Ny401 := As_ hy401
 clear hy401
 have H' := As_ H
 clear H
 go_enter Try.func64,Try.ntmps64
 go_wp2_with (first|((with_reducible refine gate_callee (f := 61) rfl ?_);refine goesL_ (some 7) rfl rfl Try.func61 (by kernel_rfl) rfl #[.slice A0 l0.length c0] rfl zM_ ?_;(with_reducible refine (impl_ValidOps.calls k _ _ l0 true _ ?side1 ?side2 A2.out).mono ?_);(case side1 => repeat (first|exact HR0.out|(with_reducible refine Kd.C_alloc ?_ _)|(with_reducible refine Kd.C_drewN ?_ _)|(with_reducible refine Kd.C_drew ?_)));(case side2 => exact HC0.out);rintro e w4 ⟨rfl,hb⟩;refine ⟨_,rfl,?_⟩;have n0_ := As_ (bwT (zb0 HB.out) hb);clear HB;revert n0_;intro HB)|((with_reducible refine gate_dst (N := 9) rfl ?_);refine Kd.R_lit (Kd.int .i64) _ 3 ?hg (N := 9) ?hd (xs := ([] : List Int)) (inner := []) (ok := fun _ => True) (okp := fun _ => True) ?hr ?hp (fun _ hk => hk) trivial (Below.refl _ _) (Nat.le_refl _) (by simp) ?_;(case hd => rfl);(case hg => rfl);(case hr => go_simp <;> rfl);(case hp => exact (Reps.none _ _));intro v402 w5 ho6 hb hg_ hnew_;clear hg_ hnew_;(first|rw [← Ny401.out] at ho6|(simp only [Int.reduceToNat] at ho6;rw [← Ny401.out] at ho6));have n0_ := As_ (Kd.R_lower ho6 (bwZ (zb0 HB.out)));have n1_ := As_ (bwT (zb0 HB.out) hb);clear HB;revert n0_ n1_;intro HO403 HB;clear hb ho6))
 go_loopg [3,12] k (fun kq v3 v12 w' => ∃ (x3_1 : List Int) (x12_1 : Int),v12 = .int .i64 x12_1 ∧ Aside0 (impl_EncodeOps.l0 kq x3_1 l0 (l0.length : Int) x12_1 = some r) ∧ Aside0 (kq ≤ k) ∧ Aside0 (Kd.R (Kd.int .i64) 3 w' w.heap.size (fun _ => True) v3 x3_1) ∧ Aside0 (Below w.heap.size w w'))
 case atStart => exact ⟨(y401),(0),zT_,H',⟨Nat.le_refl _⟩,⟨by (with_reducible repeat (first|apply Kd.R_alloc|apply Kd.R_drewN|apply Kd.R_drew));exact HO403.out⟩,⟨zb0 HB.out⟩⟩
 case round =>
  clear H'
  obtain ⟨x3_1,x12_1,rfl,HA,HK1,HO_3,HB⟩ := hrel
  cases gk with
  | zero => exact absurd HA.out (fun h_ => (by cases h_))
  | succ k1 =>
   have H := HA.out
   clear HA
   simp only [impl_EncodeOps.l0] at H
   by_cases c7 : x12_1 < (l0.length : Int)
   rotate_left
   ·rw [if_neg c7] at H
    have c7b0 : decide (x12_1 < (l0.length : Int)) = false := deF c7
    clear c7
    obtain rfl := Option.some.inj H
    go_wp2
    go_ret
    exact ⟨_,zE_,by (with_reducible repeat (first|apply Kd.R_alloc|apply Kd.R_drewN|apply Kd.R_drew));exact HO_3.out,zb0 HB.out⟩
   rw [if_pos c7] at H
   have c7b0 : decide (x12_1 < (l0.length : Int)) = true := deT c7
   clear c7
   by_cases c8 : 0 ≤ x12_1
   rotate_left
   ·rw [if_neg c8] at H
    exact absurd H (by simp)
   rw [if_pos c8] at H
   have c8b0 : decide (0 ≤ x12_1) = true := deT c8
   clear c8
   by_cases c9 : x12_1 < (l0.length : Int)
   rotate_left
   ·rw [if_neg c9] at H
    exact absurd H (by simp)
   rw [if_pos c9] at H
   have c9b0 : decide (x12_1 < (l0.length : Int)) = true := deT c9
   clear c9
   by_cases c10 : x3_1.length < 17592186044416
   rotate_left
   ·rw [if_neg c10] at H
    exact absurd H (by simp)
   rw [if_pos c10] at H
   have LMc10 := As_ c10
   clear c10
   obtain ⟨y406,hy406⟩ : ∃ y_ : List Int,y_ = (x3_1 ++ [(rd_T75 l0 x12_1).f0]) := ⟨_,rfl⟩
   replace H : ((impl_mostArg.f ((rd_T75 l0 x12_1).f0)).bind fun t409 => (if t409 = 0 then (impl_EncodeOps.l0 k1 y406 l0 (l0.length : Int) (wrap64 (x12_1 + 1))) else (if ((rd_T75 l0 x12_1).f1) < 128 then (if y406.length < 17592186044416 then (impl_EncodeOps.l0 k1 (y406 ++ [(rd_T75 l0 x12_1).f1]) l0 (l0.length : Int) (wrap64 (x12_1 + 1))) else (none)) else ((some (([wrap64 (128 + (Int.tmod ((rd_T75 l0 x12_1).f1) 128)),wrap64 (Int.tdiv ((rd_T75 l0 x12_1).f1) 128)] : List Int) : List Int)).bind fun y413 => (if y406.length + y413.length < 17592186044416 then (impl_EncodeOps.l0 k1 (y406 ++ y413) l0 (l0.length : Int) (wrap64 (x12_1 + 1))) else (none)))))) = some r := zH_ H hy406
   have Ny406 := As_ hy406
   clear hy406
   replace H := obS H
   obtain ⟨t409,A110,H⟩ := H
   replace H : (if t409 = 0 then (impl_EncodeOps.l0 k1 y406 l0 (l0.length : Int) (wrap64 (x12_1 + 1))) else (if ((rd_T75 l0 x12_1).f1) < 128 then (if y406.length < 17592186044416 then (impl_EncodeOps.l0 k1 (y406 ++ [(rd_T75 l0 x12_1).f1]) l0 (l0.length : Int) (wrap64 (x12_1 + 1))) else (none)) else ((some (([wrap64 (128 + (Int.tmod ((rd_T75 l0 x12_1).f1) 128)),wrap64 (Int.tdiv ((rd_T75 l0 x12_1).f1) 128)] : List Int) : List Int)).bind fun y413 => (if y406.length + y413.length < 17592186044416 then (impl_EncodeOps.l0 k1 (y406 ++ y413) l0 (l0.length : Int) (wrap64 (x12_1 + 1))) else (none))))) = some r := H
   have A11 := As_ A110
   clear A110
   by_cases c12 : t409 = 0
   ·rw [if_pos c12] at H
    have c12b0 : (t409 == 0) = true := beq_iff_eq.mpr c12
    have c12b1 : (t409 != 0) = false := bne_eq_false_iff_eq.mpr c12
    clear c12
    have H' := As_ H
    clear H
    have p404 : 0 ≤ (x12_1 : Int) := odT zA_
    have q404 : x12_1 < (l0.length : Int) := odT zA_
    obtain ⟨ad404,e404,hx404_0,hx404_1⟩ := at_T75 HR0.out x12_1 p404 q404
    cases e404
    replace hx404_0 := bwC HB.out hx404_0
    replace hx404_1 := bwC HB.out hx404_1
    replace p404 := eq_true p404
    replace q404 := eq_true q404
    go_wp2_with (first|((with_reducible refine gate_dst (N := 5) rfl ?_);refine box_event ?hg (N := 5) ?hd (cs := #[.int .i64 0,.int .i64 0]) (t := 75) ?hr ?_;(case hd => rfl);(case hg => rfl);(case hr => go_simp <;> rfl);intro gb405 hg w13 hbox hb;have n0_ := As_ (Kd.R_below (zR_ HO_3.out) hb);have n1_ := As_ (bwT (zb0 HB.out) hb);have n2_ := As_ (hbox);have n3_ := As_ ((by rw [hg];exact (bwZ (zb0 HB.out)) : w.heap.size ≤ gb405));have n4_ := As_ ((by rw [hg];exact (bwZ (zb0 HB.out)) : w.heap.size ≤ gb405));clear HO_3 HB;revert n0_ n1_ n2_ n3_ n4_;intro HO_3 HB BK405 GW405 GE405;clear hb hbox hg;obtain ⟨hcz14_0,hcz14_1,hfz14_0,hfz14_1⟩ := bk2 BK405.out)|((with_reducible refine gate_builtin (b := .append) (xs := #[.tmp 16,.tmp 19]) rfl ?_);at_builtin;refine Kd.R_append (Kd.int .i64) (w0 := w) w.heap.size rfl (.tmp 16) (.tmp 19) 22 3 (.int .i64 0) 8 rfl Try.underlying22 info3 rfl (by decide) (by omega) u3 x3_1 ((rd_T75 l0 x12_1).f0) [.int .i64 ((rd_T75 l0 x12_1).f0)] (fun _ => True) (fun _ => False) rfl (by go_simp <;> rfl) ?aP (fun _ hk => hk.elim) ?aF ?aO ?aB ?aS ?aL ?_;(case aP => exact rfl);(case aB => exact (zb1 HB.out GE405.out));(case aF => exact (fun _ _ => trivial));(case aO => exact (by (with_reducible repeat (first|apply Kd.R_alloc|apply Kd.R_drewN|apply Kd.R_drew));exact Kd.R_mono (Kd.R_far (p := ⟨gb405,1,none⟩) (Kd.R_far (p := ⟨gb405,0,none⟩) (Kd.R_types HO_3.out BK405.out (by decide)) (fun _ hk => hk.2) (.int .i64 ((rd_T75 l0 x12_1).f0))) (fun _ hk => hk.2) (.int .i64 ((rd_T75 l0 x12_1).f1))) (fun _ hk => trivial)));(case aS => exact (bwZ (zb1 HB.out GE405.out)));(case aL => have := LMc10.out;omega);intro v407 w15 ho hb hg hat;rw [← Ny406.out] at ho;have n0_ := As_ (blk_grown (g := gb405) (o := .cells #[.int .i64 ((rd_T75 l0 x12_1).f0),.int .i64 ((rd_T75 l0 x12_1).f1)] 75 (0,0)) (by (with_reducible repeat first|apply bkN|apply bkD|apply bkA);refine blk_put (cs := #[.int .i64 ((rd_T75 l0 x12_1).f0),.int .i64 0]) ?_ 1 _ rfl;(with_reducible repeat first|apply bkN|apply bkD|apply bkA);refine blk_put (cs := #[.int .i64 0,.int .i64 0]) ?_ 0 _ rfl;(with_reducible repeat first|apply bkN|apply bkD|apply bkA);exact BK405.out) hg (Kd.R_ne HO_3.out BK405.out (by decide)));have n1_ := As_ (hb);have n2_ := As_ (ho);clear BK405 HB HO_3;revert n0_ n1_ n2_;intro BK405 HB HO408;clear ho hb hg hat;obtain ⟨hcz16_0,hcz16_1,hfz16_0,hfz16_1⟩ := bk2 BK405.out)|((with_reducible refine gate_callee (f := 97) rfl ?_);refine goesL_ (some 34) rfl rfl Try.func97 (by kernel_rfl) rfl #[.int .i64 ((rd_T75 l0 x12_1).f0)] rfl zM_ ?_;(with_reducible refine (impl_mostArg.calls ((rd_T75 l0 x12_1).f0) t409 _ A11.out).mono ?_);rintro e w' ⟨rfl,⟨nd,rfl⟩⟩;refine ⟨_,rfl,?_⟩))
    go_roundg k1
    case measure => have := HK1.out;omega
    case rel => exact ⟨(y406),(wrap64 (x12_1 + 1)),zT_,H',⟨by have := HK1.out;omega⟩,⟨by (with_reducible repeat (first|apply Kd.R_alloc|apply Kd.R_drewN|apply Kd.R_drew));exact HO408.out⟩,⟨zb1 HB.out GE405.out⟩⟩
   rw [if_neg c12] at H
   have c12b0 : (t409 == 0) = false := beq_eq_false_iff_ne.mpr c12
   have c12b1 : (t409 != 0) = true := bne_iff_ne.mpr c12
   by_cases c17 : ((rd_T75 l0 x12_1).f1) < 128
   ·rw [if_pos c17] at H
    have c17b0 : decide (((rd_T75 l0 x12_1).f1) < 128) = true := deT c17
    clear c17
    by_cases c18 : y406.length < 17592186044416
    rotate_left
    ·rw [if_neg c18] at H
     exact absurd H (by simp)
    rw [if_pos c18] at H
    have LMc18 := As_ c18
    clear c18
    obtain ⟨y410,hy410⟩ : ∃ y_ : List Int,y_ = (y406 ++ [(rd_T75 l0 x12_1).f1]) := ⟨_,rfl⟩
    replace H : (impl_EncodeOps.l0 k1 y410 l0 (l0.length : Int) (wrap64 (x12_1 + 1))) = some r := zH_ H hy410
    have Ny410 := As_ hy410
    clear hy410
    have H' := As_ H
    clear H
    have p404 : 0 ≤ (x12_1 : Int) := odT zA_
    have q404 : x12_1 < (l0.length : Int) := odT zA_
    obtain ⟨ad404,e404,hx404_0,hx404_1⟩ := at_T75 HR0.out x12_1 p404 q404
    cases e404
    replace hx404_0 := bwC HB.out hx404_0
    replace hx404_1 := bwC HB.out hx404_1
    replace p404 := eq_true p404
    replace q404 := eq_true q404
    go_wp2_with (first|((with_reducible refine gate_dst (N := 5) rfl ?_);refine box_event ?hg (N := 5) ?hd (cs := #[.int .i64 0,.int .i64 0]) (t := 75) ?hr ?_;(case hd => rfl);(case hg => rfl);(case hr => go_simp <;> rfl);intro gb405 hg w19 hbox hb;have n0_ := As_ (Kd.R_below (zR_ HO_3.out) hb);have n1_ := As_ (bwT (zb0 HB.out) hb);have n2_ := As_ (hbox);have n3_ := As_ ((by rw [hg];exact (bwZ (zb0 HB.out)) : w.heap.size ≤ gb405));have n4_ := As_ ((by rw [hg];exact (bwZ (zb0 HB.out)) : w.heap.size ≤ gb405));clear HO_3 HB;revert n0_ n1_ n2_ n3_ n4_;intro HO_3 HB BK405 GW405 GE405;clear hb hbox hg;obtain ⟨hcz20_0,hcz20_1,hfz20_0,hfz20_1⟩ := bk2 BK405.out)|((with_reducible refine gate_builtin (b := .append) (xs := #[.tmp 16,.tmp 19]) rfl ?_);at_builtin;refine Kd.R_append (Kd.int .i64) (w0 := w) w.heap.size rfl (.tmp 16) (.tmp 19) 22 3 (.int .i64 0) 8 rfl Try.underlying22 info3 rfl (by decide) (by omega) u3 x3_1 ((rd_T75 l0 x12_1).f0) [.int .i64 ((rd_T75 l0 x12_1).f0)] (fun _ => True) (fun _ => False) rfl (by go_simp <;> rfl) ?aP (fun _ hk => hk.elim) ?aF ?aO ?aB ?aS ?aL ?_;(case aP => exact rfl);(case aB => exact (zb1 HB.out GE405.out));(case aF => exact (fun _ _ => trivial));(case aO => exact (by (with_reducible repeat (first|apply Kd.R_alloc|apply Kd.R_drewN|apply Kd.R_drew));exact Kd.R_mono (Kd.R_far (p := ⟨gb405,1,none⟩) (Kd.R_far (p := ⟨gb405,0,none⟩) (Kd.R_types HO_3.out BK405.out (by decide)) (fun _ hk => hk.2) (.int .i64 ((rd_T75 l0 x12_1).f0))) (fun _ hk => hk.2) (.int .i64 ((rd_T75 l0 x12_1).f1))) (fun _ hk => trivial)));(case aS => exact (bwZ (zb1 HB.out GE405.out)));(case aL => have := LMc10.out;omega);intro v407 w21 ho hb hg hat;rw [← Ny406.out] at ho;have n0_ := As_ (blk_grown (g := gb405) (o := .cells #[.int .i64 ((rd_T75 l0 x12_1).f0),.int .i64 ((rd_T75 l0 x12_1).f1)] 75 (0,0)) (by (with_reducible repeat first|apply bkN|apply bkD|apply bkA);refine blk_put (cs := #[.int .i64 ((rd_T75 l0 x12_1).f0),.int .i64 0]) ?_ 1 _ rfl;(with_reducible repeat first|apply bkN|apply bkD|apply bkA);refine blk_put (cs := #[.int .i64 0,.int .i64 0]) ?_ 0 _ rfl;(with_reducible repeat first|apply bkN|apply bkD|apply bkA);exact BK405.out) hg (Kd.R_ne HO_3.out BK405.out (by decide)));have n1_ := As_ (hb);have n2_ := As_ (ho);clear BK405 HB HO_3;revert n0_ n1_ n2_;intro BK405 HB HO408;clear ho hb hg hat;obtain ⟨hcz22_0,hcz22_1,hfz22_0,hfz22_1⟩ := bk2 BK405.out)|((with_reducible refine gate_callee (f := 97) rfl ?_);refine goesL_ (some 34) rfl rfl Try.func97 (by kernel_rfl) rfl #[.int .i64 ((rd_T75 l0 x12_1).f0)] rfl zM_ ?_;(with_reducible refine (impl_mostArg.calls ((rd_T75 l0 x12_1).f0) t409 _ A11.out).mono ?_);rintro e w' ⟨rfl,⟨nd,rfl⟩⟩;refine ⟨_,rfl,?_⟩)|((with_reducible refine gate_builtin (b := .append) (xs := #[.tmp 40,.tmp 43]) rfl ?_);at_builtin;refine Kd.R_append (Kd.int .i64) (w0 := w) w.heap.size rfl (.tmp 40) (.tmp 43) 22 3 (.int .i64 0) 8 rfl Try.underlying22 info3 rfl (by decide) (by omega) v407 y406 ((rd_T75 l0 x12_1).f1) [.int .i64 ((rd_T75 l0 x12_1).f1)] (fun _ => True) (fun _ => False) rfl rfl ?aP (fun _ hk => hk.elim) ?aF ?aO ?aB ?aS ?aL ?_;(case aP => exact rfl);(case aB => exact (zb1 HB.out GE405.out));(case aF => exact (fun _ _ => trivial));(case aO => exact (zR_ HO408.out));(case aS => exact (bwZ (zb1 HB.out GE405.out)));(case aL => have := LMc18.out;omega);intro v411 w23 ho hb hg hat;rw [← Ny410.out] at ho;have n0_ := As_ (blk_grown (g := gb405) (o := .cells #[.int .i64 ((rd_T75 l0 x12_1).f0),.int .i64 ((rd_T75 l0 x12_1).f1)] 75 (0,0)) (zk_ BK405.out) hg (Kd.R_ne HO408.out BK405.out (by decide)));have n1_ := As_ (hb);have n2_ := As_ (ho);clear BK405 HB HO408;revert n0_ n1_ n2_;intro BK405 HB HO412;clear ho hb hg hat))
    go_roundg k1
    case measure => have := HK1.out;omega
    case rel => exact ⟨(y410),(wrap64 (x12_1 + 1)),zT_,H',⟨by have := HK1.out;omega⟩,⟨by (with_reducible repeat (first|apply Kd.R_alloc|apply Kd.R_drewN|apply Kd.R_drew));exact HO412.out⟩,⟨zb1 HB.out GE405.out⟩⟩
   rw [if_neg c17] at H
   have c17b0 : decide (((rd_T75 l0 x12_1).f1) < 128) = false := deF c17
   clear c17
   obtain ⟨y413,hy413⟩ : ∃ y_ : List Int,y_ = (([wrap64 (128 + (Int.tmod ((rd_T75 l0 x12_1).f1) 128)),wrap64 (Int.tdiv ((rd_T75 l0 x12_1).f1) 128)] : List Int)) := ⟨_,rfl⟩
   replace H : (if y406.length + y413.length < 17592186044416 then (impl_EncodeOps.l0 k1 (y406 ++ y413) l0 (l0.length : Int) (wrap64 (x12_1 + 1))) else (none)) = some r := zH_ H hy413
   have Ny413 := As_ hy413
   clear hy413
   by_cases c24 : y406.length + y413.length < 17592186044416
   rotate_left
   ·rw [if_neg c24] at H
    exact absurd H (by simp)
   rw [if_pos c24] at H
   have LMc24 := As_ c24
   clear c24
   obtain ⟨y416,hy416⟩ : ∃ y_ : List Int,y_ = (y406 ++ y413) := ⟨_,rfl⟩
   replace H : (impl_EncodeOps.l0 k1 y416 l0 (l0.length : Int) (wrap64 (x12_1 + 1))) = some r := zH_ H hy416
   have Ny416 := As_ hy416
   clear hy416
   have H' := As_ H
   clear H
   have p404 : 0 ≤ (x12_1 : Int) := odT zA_
   have q404 : x12_1 < (l0.length : Int) := odT zA_
   obtain ⟨ad404,e404,hx404_0,hx404_1⟩ := at_T75 HR0.out x12_1 p404 q404
   cases e404
   replace hx404_0 := bwC HB.out hx404_0
   replace hx404_1 := bwC HB.out hx404_1
   replace p404 := eq_true p404
   replace q404 := eq_true q404
   go_wp2_with (first|((with_reducible refine gate_dst (N := 5) rfl ?_);refine box_event ?hg (N := 5) ?hd (cs := #[.int .i64 0,.int .i64 0]) (t := 75) ?hr ?_;(case hd => rfl);(case hg => rfl);(case hr => go_simp <;> rfl);intro gb405 hg w25 hbox hb;have n0_ := As_ (Kd.R_below (zR_ HO_3.out) hb);have n1_ := As_ (bwT (zb0 HB.out) hb);have n2_ := As_ (hbox);have n3_ := As_ ((by rw [hg];exact (bwZ (zb0 HB.out)) : w.heap.size ≤ gb405));have n4_ := As_ ((by rw [hg];exact (bwZ (zb0 HB.out)) : w.heap.size ≤ gb405));clear HO_3 HB;revert n0_ n1_ n2_ n3_ n4_;intro HO_3 HB BK405 GW405 GE405;clear hb hbox hg;obtain ⟨hcz26_0,hcz26_1,hfz26_0,hfz26_1⟩ := bk2 BK405.out)|((with_reducible refine gate_builtin (b := .append) (xs := #[.tmp 16,.tmp 19]) rfl ?_);at_builtin;refine Kd.R_append (Kd.int .i64) (w0 := w) w.heap.size rfl (.tmp 16) (.tmp 19) 22 3 (.int .i64 0) 8 rfl Try.underlying22 info3 rfl (by decide) (by omega) u3 x3_1 ((rd_T75 l0 x12_1).f0) [.int .i64 ((rd_T75 l0 x12_1).f0)] (fun _ => True) (fun _ => False) rfl (by go_simp <;> rfl) ?aP (fun _ hk => hk.elim) ?aF ?aO ?aB ?aS ?aL ?_;(case aP => exact rfl);(case aB => exact (zb1 HB.out GE405.out));(case aF => exact (fun _ _ => trivial));(case aO => exact (by (with_reducible repeat (first|apply Kd.R_alloc|apply Kd.R_drewN|apply Kd.R_drew));exact Kd.R_mono (Kd.R_far (p := ⟨gb405,1,none⟩) (Kd.R_far (p := ⟨gb405,0,none⟩) (Kd.R_types HO_3.out BK405.out (by decide)) (fun _ hk => hk.2) (.int .i64 ((rd_T75 l0 x12_1).f0))) (fun _ hk => hk.2) (.int .i64 ((rd_T75 l0 x12_1).f1))) (fun _ hk => trivial)));(case aS => exact (bwZ (zb1 HB.out GE405.out)));(case aL => have := LMc10.out;omega);intro v407 w27 ho hb hg hat;rw [← Ny406.out] at ho;have n0_ := As_ (blk_grown (g := gb405) (o := .cells #[.int .i64 ((rd_T75 l0 x12_1).f0),.int .i64 ((rd_T75 l0 x12_1).f1)] 75 (0,0)) (by (with_reducible repeat first|apply bkN|apply bkD|apply bkA);refine blk_put (cs := #[.int .i64 ((rd_T75 l0 x12_1).f0),.int .i64 0]) ?_ 1 _ rfl;(with_reducible repeat first|apply bkN|apply bkD|apply bkA);refine blk_put (cs := #[.int .i64 0,.int .i64 0]) ?_ 0 _ rfl;(with_reducible repeat first|apply bkN|apply bkD|apply bkA);exact BK405.out) hg (Kd.R_ne HO_3.out BK405.out (by decide)));have n1_ := As_ (hb);have n2_ := As_ (ho);clear BK405 HB HO_3;revert n0_ n1_ n2_;intro BK405 HB HO408;clear ho hb hg hat;obtain ⟨hcz28_0,hcz28_1,hfz28_0,hfz28_1⟩ := bk2 BK405.out)|((with_reducible refine gate_callee (f := 97) rfl ?_);refine goesL_ (some 34) rfl rfl Try.func97 (by kernel_rfl) rfl #[.int .i64 ((rd_T75 l0 x12_1).f0)] rfl zM_ ?_;(with_reducible refine (impl_mostArg.calls ((rd_T75 l0 x12_1).f0) t409 _ A11.out).mono ?_);rintro e w' ⟨rfl,⟨nd,rfl⟩⟩;refine ⟨_,rfl,?_⟩)|((with_reducible refine gate_dst (N := 29) rfl ?_);refine Kd.R_lit (Kd.int .i64) _ 3 ?hg (N := 29) ?hd (xs := ([wrap64 (128 + (Int.tmod ((rd_T75 l0 x12_1).f1) 128)),wrap64 (Int.tdiv ((rd_T75 l0 x12_1).f1) 128)] : List Int)) (inner := [.int .i64 (wrap64 (128 + (Int.tmod ((rd_T75 l0 x12_1).f1) 128))),.int .i64 (wrap64 (Int.tdiv ((rd_T75 l0 x12_1).f1) 128))]) (ok := fun _ => True) (okp := fun _ => True) ?hr ?hp (fun _ hk => hk) trivial (Below.refl _ _) (Nat.le_refl _) (by simp) ?_;(case hd => rfl);(case hg => rfl);(case hr => go_simp <;> rfl);(case hp => exact (Reps.one (show Kd.M (Kd.int .i64) _ _ _ (wrap64 (128 + (Int.tmod ((rd_T75 l0 x12_1).f1) 128))) [.int .i64 (wrap64 (128 + (Int.tmod ((rd_T75 l0 x12_1).f1) 128)))] from rfl) (Reps.one (show Kd.M (Kd.int .i64) _ _ _ (wrap64 (Int.tdiv ((rd_T75 l0 x12_1).f1) 128)) [.int .i64 (wrap64 (Int.tdiv ((rd_T75 l0 x12_1).f1) 128))] from rfl) (Reps.none _ _))));intro v414 w29 ho30 hb hg_ hnew_;clear hg_ hnew_;(first|rw [← Ny413.out] at ho30|(simp only [Int.reduceToNat] at ho30;rw [← Ny413.out] at ho30));have n0_ := As_ (Kd.R_elder' (zR_ HO408.out) (Kd.R_base ho30) hb);have n1_ := As_ (Kd.R_lower (Kd.R_new' ho30 (Kd.R_lt (zR_ HO408.out))) (bwZ (zb1 HB.out GE405.out)));have n2_ := As_ (zkb BK405.out hb);have n3_ := As_ (bwT (zb1 HB.out GE405.out) hb);clear HO408 BK405 HB;revert n0_ n1_ n2_ n3_;intro HO408 HO415 BK405 HB;clear hb ho30;obtain ⟨Ao32,co32,eo32⟩ := Kd.R_slice HO415.out;subst eo32)|((with_reducible refine gate_builtin (b := .append) (xs := #[.tmp 21,.tmp 29]) rfl ?_);at_builtin;refine Kd.R_append_rows (Kd.int .i64) (w0 := w) w.heap.size rfl (.tmp 21) (.tmp 29) 22 3 (.int .i64 0) 8 rfl Try.underlying22 info3 rfl (by decide) (by omega) v407 y406 y413 _ _ _ (fun k_ => some k_ ≠ (.slice Ao32 y413.length co32 : Value).ownBlock) (fun _ => False) rfl rfl ?aO ?aR (fun _ _ h => h) (fun _ h => h.elim) ?aF ?aB ?aS ?aL ?_;(case aR => exact zC_ (Kd.R_reads' HO415.out).2.2);(case aB => exact (zb1 HB.out GE405.out));(case aF => exact (fun k_ hk => Kd.fresh' (Kd.R_lt (zR_ HO415.out)) k_ hk));(case aO => exact (by (with_reducible repeat (first|apply Kd.R_alloc|apply Kd.R_drewN|apply Kd.R_drew));exact Kd.R_mono HO408.out (fun _ hk => hk.2)));(case aS => exact (bwZ (zb1 HB.out GE405.out)));(case aL => have := LMc24.out;omega);intro v417 w31 ho hb hg hat;rw [← Ny416.out] at ho;have n0_ := As_ (blk_grown (g := gb405) (o := .cells #[.int .i64 ((rd_T75 l0 x12_1).f0),.int .i64 ((rd_T75 l0 x12_1).f1)] 75 (0,0)) (zk_ BK405.out) hg (Kd.R_ne HO408.out BK405.out (by decide)));have n1_ := As_ (Kd.R_after (ok := (fun _ => True)) (zR_ HO415.out) hg hat);have n2_ := As_ (hb);have n3_ := As_ (ho);clear BK405 HO415 HB HO408;revert n0_ n1_ n2_ n3_;intro BK405 HO415 HB HO418;clear ho hb hg hat))
   go_roundg k1
   case measure => have := HK1.out;omega
   case rel => exact ⟨(y416),(wrap64 (x12_1 + 1)),zT_,H',⟨by have := HK1.out;omega⟩,⟨by (with_reducible repeat (first|apply Kd.R_alloc|apply Kd.R_drewN|apply Kd.R_drew));exact Kd.R_mono HO418.out (fun _ hk => trivial)⟩,⟨zb1 HB.out GE405.out⟩⟩
/-! ### impl_StreamBytes: function 23 -/
mutual
def impl_StreamBytes.j0 : Nat → List (S75) → Int → Bool → Option (List Int)
 | 0,_,_,_ => none
 | k + 1,x0,x1,x18 => if x18 = true then (some ([] : List Int)) else ((impl_SplitStops.f k x0).bind fun t423 => (impl_StreamBytes.l0 k x1 (([] : List Int)) t423 (t423.length : Int) 0))
def impl_StreamBytes.l0 : Nat → Int → List Int → List (List (S75)) → Int → Int → Option (List Int)
 | 0,_,_,_,_,_ => none
 | k + 1,x1,x5,x21,x22,x23 => if x23 < x22 then (if 0 ≤ x23 then (if x23 < (x21.length : Int) then ((impl_EncodeOps.f k (rd_L6 x21 x23)).bind fun t427 => ((impl_FrameBytes.f k t427 x1).bind fun t430 => (if x5.length + t430.length < 17592186044416 then (impl_StreamBytes.l0 k x1 (x5 ++ t430) x21 x22 (wrap64 (x23 + 1))) else (none)))) else (none)) else (none)) else (if (x5.length : Int) > 2000 then (some ([] : List Int)) else (some x5))
end
def impl_StreamBytes.f (k : Nat) (l0 : List (S75)) (a1 : Int) : Option (List Int) := (impl_ValidOps.f k l0).bind fun t419 => (if t419 = true then (if a1 < 1 then (impl_StreamBytes.j0 k l0 a1 true) else (impl_StreamBytes.j0 k l0 a1 (decide (a1 > 200)))) else (impl_StreamBytes.j0 k l0 a1 true))
set_option maxRecDepth 100000 in
theorem impl_StreamBytes.mono_l : ∀ k,(∀ y0 y1 y2,LeO (impl_StreamBytes.j0 k y0 y1 y2) (impl_StreamBytes.j0 (k + 1) y0 y1 y2)) ∧ (∀ y0 y1 y2 y3 y4,LeO (impl_StreamBytes.l0 k y0 y1 y2 y3 y4) (impl_StreamBytes.l0 (k + 1) y0 y1 y2 y3 y4))
 | 0 => ⟨fun _ _ _ r h => (by cases h),fun _ _ _ _ _ r h => (by cases h)⟩
 | k + 1 => by
  obtain ⟨ih0,ih1⟩ := impl_StreamBytes.mono_l k
  refine ⟨?_,?_⟩
  ·intro y0 y1 y2
   unfold impl_StreamBytes.j0
   repeat' first
   | (with_reducible exact ih0 _ _ _)
   | (with_reducible exact ih1 _ _ _ _ _)
   | (with_reducible exact impl_EncodeOps.mono _ _)
   | (with_reducible exact impl_FrameBytes.mono _ _ _)
   | (with_reducible exact impl_SplitStops.mono _ _)
   | (with_reducible exact impl_ValidOps.mono _ _)
   | (with_reducible exact LeO.refl _)
   | (with_reducible exact LeO.none _)
   | (with_reducible refine LeO.ite ?_ ?_)
   | (with_reducible refine LeO.bind ?_ (fun _ => ?_))
   | exact ih0 _ _ _
   | exact ih1 _ _ _ _ _
   | exact impl_EncodeOps.mono _ _
   | exact impl_FrameBytes.mono _ _ _
   | exact impl_SplitStops.mono _ _
   | exact impl_ValidOps.mono _ _
   | exact LeO.none _
   | refine LeO.ite ?_ ?_
   | refine LeO.bind ?_ (fun _ => ?_)
  ·intro y0 y1 y2 y3 y4
   unfold impl_StreamBytes.l0
   repeat' first
   | (with_reducible exact ih0 _ _ _)
   | (with_reducible exact ih1 _ _ _ _ _)
   | (with_reducible exact impl_EncodeOps.mono _ _)
   | (with_reducible exact impl_FrameBytes.mono _ _ _)
   | (with_reducible exact impl_SplitStops.mono _ _)
   | (with_reducible exact impl_ValidOps.mono _ _)
   | (with_reducible exact LeO.refl _)
   | (with_reducible exact LeO.none _)
   | (with_reducible refine LeO.ite ?_ ?_)
   | (with_reducible refine LeO.bind ?_ (fun _ => ?_))
   | exact ih0 _ _ _
   | exact ih1 _ _ _ _ _
   | exact impl_EncodeOps.mono _ _
   | exact impl_FrameBytes.mono _ _ _
   | exact impl_SplitStops.mono _ _
   | exact impl_ValidOps.mono _ _
   | exact LeO.none _
   | refine LeO.ite ?_ ?_
   | refine LeO.bind ?_ (fun _ => ?_)
set_option maxRecDepth 100000 in
theorem impl_StreamBytes.mono : ∀ a0 a1 k,LeO (impl_StreamBytes.f k a0 a1) (impl_StreamBytes.f (k + 1) a0 a1) := by
 intro a0 a1 k
 obtain ⟨ih0,ih1⟩ := impl_StreamBytes.mono_l k
 unfold impl_StreamBytes.f
 repeat' first
   | (with_reducible exact ih0 _ _ _)
   | (with_reducible exact ih1 _ _ _ _ _)
   | (with_reducible exact impl_EncodeOps.mono _ _)
   | (with_reducible exact impl_FrameBytes.mono _ _ _)
   | (with_reducible exact impl_SplitStops.mono _ _)
   | (with_reducible exact impl_ValidOps.mono _ _)
   | (with_reducible exact LeO.refl _)
   | (with_reducible exact LeO.none _)
   | (with_reducible refine LeO.ite ?_ ?_)
   | (with_reducible refine LeO.bind ?_ (fun _ => ?_))
   | exact ih0 _ _ _
   | exact ih1 _ _ _ _ _
   | exact impl_EncodeOps.mono _ _
   | exact impl_FrameBytes.mono _ _ _
   | exact impl_SplitStops.mono _ _
   | exact impl_ValidOps.mono _ _
   | exact LeO.none _
   | refine LeO.ite ?_ ?_
   | refine LeO.bind ?_ (fun _ => ?_)
set_option maxHeartbeats 8000000 in
set_option maxRecDepth 100000 in
theorem impl_StreamBytes.calls (k : Nat) (A0 : Option Addr) (c0 : Nat) (l0 : List (S75)) (a1 : Int) (r : List Int) (w : World) (hr0 : Kd.C k75 w A0 l0.length l0) (hc0 : l0.length ≤ c0) (h : impl_StreamBytes.f k l0 a1 = some r) :
  Calls Try.prog 23 #[.slice A0 l0.length c0,.int .i64 a1] w fun e w' => ∃ v0_ : Value,e = .returned (v0_) ∧ Kd.R (Kd.int .i64) 3 w' w.heap.size (fun _ => True) v0_ r ∧ Below w.heap.size w w' := by
 have HR0 := As_ hr0
 have HC0 := As_ hc0
 clear hr0 hc0
 have HB := As_ (Below.refl w.heap.size w)
 have H : ((impl_ValidOps.f k l0).bind fun t419 => (if t419 = true then (if a1 < 1 then (impl_StreamBytes.j0 k l0 a1 true) else (impl_StreamBytes.j0 k l0 a1 (decide (a1 > 200)))) else (impl_StreamBytes.j0 k l0 a1 true))) = some r := h
 clear h
 have HC3 := As_ H
 clear H
 go_enter Try.func23,Try.ntmps23
 go_upto_region 1 with (fail)
 go_cut [18] (fun v18 wc => ∃ (kq : Nat) (x18_2 : Bool),v18 = .bool x18_2 ∧ Aside0 (impl_StreamBytes.j0 kq l0 a1 x18_2 = some r) ∧ Aside0 (kq ≤ k) ∧ Aside0 (Below w.heap.size w wc))
 case first =>
  have H := HC3.out
  clear HC3
  replace H := obS H
  obtain ⟨t419,A40,H⟩ := H
  replace H : (if t419 = true then (if a1 < 1 then (impl_StreamBytes.j0 k l0 a1 true) else (impl_StreamBytes.j0 k l0 a1 (decide (a1 > 200)))) else (impl_StreamBytes.j0 k l0 a1 true)) = some r := H
  have A4 := As_ A40
  clear A40
  by_cases c5 : t419 = true
  rotate_left
  ·replace c5 := Bool.eq_false_iff.mpr c5
   subst c5
   have H1 : (impl_StreamBytes.j0 k l0 a1 true) = some r := by rw [if_neg (show ¬ (false = true) by decide)] at H;exact H
   clear H
   have H := H1
   clear H1
   have H' := As_ H
   clear H
   go_wp2_with (first|((with_reducible refine gate_callee (f := 61) rfl ?_);refine goesL_ (some 9) rfl rfl Try.func61 (by kernel_rfl) rfl #[.slice A0 l0.length c0] rfl zM_ ?_;(with_reducible refine (impl_ValidOps.calls k _ _ l0 false _ ?side1 ?side2 A4.out).mono ?_);(case side1 => exact zC_ (Kd.C_below HR0.out HB.out));(case side2 => exact HC0.out);rintro e w9 ⟨rfl,hb⟩;refine ⟨_,rfl,?_⟩;have n0_ := As_ (bwT (zb0 HB.out) hb);clear HB;revert n0_;intro HB))
   go_meet
   case rel => exact ⟨_,(true),zT_,H',⟨by first|omega|exact Nat.le_refl _⟩,⟨zb0 HB.out⟩⟩
  subst c5
  have H1 : (if a1 < 1 then (impl_StreamBytes.j0 k l0 a1 true) else (impl_StreamBytes.j0 k l0 a1 (decide (a1 > 200)))) = some r := by rw [if_pos rfl] at H;exact H
  clear H
  have H := H1
  clear H1
  by_cases c6 : a1 < 1
  ·rw [if_pos c6] at H
   have c6b0 : decide (a1 < 1) = true := deT c6
   clear c6
   (first|rw [c6b0]|(simp only [i64_w,i32_w];rw [c6b0])|skip)
   have H' := As_ H
   clear H
   go_wp2_with (first|((with_reducible refine gate_callee (f := 61) rfl ?_);refine goesL_ (some 9) rfl rfl Try.func61 (by kernel_rfl) rfl #[.slice A0 l0.length c0] rfl zM_ ?_;(with_reducible refine (impl_ValidOps.calls k _ _ l0 true _ ?side1 ?side2 A4.out).mono ?_);(case side1 => exact zC_ (Kd.C_below HR0.out HB.out));(case side2 => exact HC0.out);rintro e w7 ⟨rfl,hb⟩;refine ⟨_,rfl,?_⟩;have n0_ := As_ (bwT (zb0 HB.out) hb);clear HB;revert n0_;intro HB))
   go_meet
   case rel => exact ⟨_,(true),zT_,H',⟨by first|omega|exact Nat.le_refl _⟩,⟨zb0 HB.out⟩⟩
  rw [if_neg c6] at H
  have c6b0 : decide (a1 < 1) = false := deF c6
  clear c6
  (first|rw [c6b0]|(simp only [i64_w,i32_w];rw [c6b0])|skip)
  have H' := As_ H
  clear H
  go_wp2_with (first|((with_reducible refine gate_callee (f := 61) rfl ?_);refine goesL_ (some 9) rfl rfl Try.func61 (by kernel_rfl) rfl #[.slice A0 l0.length c0] rfl zM_ ?_;(with_reducible refine (impl_ValidOps.calls k _ _ l0 true _ ?side1 ?side2 A4.out).mono ?_);(case side1 => exact zC_ (Kd.C_below HR0.out HB.out));(case side2 => exact HC0.out);rintro e w8 ⟨rfl,hb⟩;refine ⟨_,rfl,?_⟩;have n0_ := As_ (bwT (zb0 HB.out) hb);clear HB;revert n0_;intro HB))
  go_meet
  case rel => exact ⟨_,(decide (a1 > 200)),zT_,H',⟨by first|omega|exact Nat.le_refl _⟩,⟨zb0 HB.out⟩⟩
 case rest =>
  clear HC3
  obtain ⟨kq,x18_2,rfl,HA,HJ2,HB⟩ := hcut
  cases kq with
  | zero => exact absurd HA.out (fun h_ => (by cases h_))
  | succ kj2 =>
   have H := HA.out
   clear HA
   simp only [impl_StreamBytes.j0] at H
   by_cases c10 : x18_2 = true
   ·subst c10
    have H1 : (some ([] : List Int)) = some r := by rw [if_pos rfl] at H;exact H
    clear H
    have H := H1
    clear H1
    obtain rfl := Option.some.inj H
    go_wp2
    go_ret
    exact ⟨_,zE_,by first|exact Kd.R_nil _ _ _ _ _|exact Kd.N_nil _ _ _ _ _|exact Kd.V_nil _ _ _ _ _|exact Kd.Q_nil _ _ _ _ _|exact Kd.S_nil _ _ _ _ _,zb0 HB.out⟩
   replace c10 := Bool.eq_false_iff.mpr c10
   subst c10
   have H1 : ((impl_SplitStops.f kj2 l0).bind fun t423 => (impl_StreamBytes.l0 kj2 a1 (([] : List Int)) t423 (t423.length : Int) 0)) = some r := by rw [if_neg (show ¬ (false = true) by decide)] at H;exact H
   clear H
   have H := H1
   clear H1
   obtain ⟨y420,hy420⟩ : ∃ y_ : List Int,y_ = (([] : List Int)) := ⟨_,rfl⟩
   replace H : ((impl_SplitStops.f kj2 l0).bind fun t423 => (impl_StreamBytes.l0 kj2 a1 y420 t423 (t423.length : Int) 0)) = some r := zH_ H hy420
   have Ny420 := As_ hy420
   clear hy420
   replace H := obS H
   obtain ⟨t423,A110,H⟩ := H
   replace H : (impl_StreamBytes.l0 kj2 a1 y420 t423 (t423.length : Int) 0) = some r := H
   have A11 := As_ A110
   clear A110
   have H' := As_ H
   clear H
   go_wp2_with (first|((with_reducible refine gate_dst (N := 19) rfl ?_);refine Kd.R_lit (Kd.int .i64) _ 3 ?hg (N := 19) ?hd (xs := ([] : List Int)) (inner := []) (ok := fun _ => True) (okp := fun _ => True) ?hr ?hp (fun _ hk => hk) trivial (Below.refl _ _) (Nat.le_refl _) (by simp) ?_;(case hd => rfl);(case hg => rfl);(case hr => go_simp <;> rfl);(case hp => exact (Reps.none _ _));intro v421 w12 ho13 hb hg_ hnew_;clear hg_ hnew_;(first|rw [← Ny420.out] at ho13|(simp only [Int.reduceToNat] at ho13;rw [← Ny420.out] at ho13));have n0_ := As_ (Kd.R_lower ho13 (bwZ (zb0 HB.out)));have n1_ := As_ (bwT (zb0 HB.out) hb);clear HB;revert n0_ n1_;intro HO422 HB;clear hb ho13)|((with_reducible refine gate_callee (f := 62) rfl ?_);refine goesL_ (some 21) rfl rfl Try.func62 (by kernel_rfl) rfl #[.slice A0 l0.length c0] rfl zM_ ?_;(with_reducible refine (impl_SplitStops.calls kj2 _ _ l0 t423 _ ?side1 ?side2 A11.out).mono ?_);(case side1 => exact zC_ (Kd.C_below HR0.out HB.out));(case side2 => exact HC0.out);rintro e w14 ⟨v424,rfl,ho0,hb⟩;refine ⟨_,rfl,?_⟩;have n0_ := As_ (Kd.R_below (zR_ HO422.out) hb);have n1_ := As_ (Kd.N_lower (Kd.N_mono (ok' := fun k_ => some k_ ≠ (v421 : Value).ownBlock) ho0 (fun k_ hk_ => (Kd.fresh' (Kd.R_lt (zR_ HO422.out)) k_ hk_))) (bwZ (zb0 HB.out)));have n2_ := As_ (bwT (zb0 HB.out) hb);clear HO422 HB;revert n0_ n1_ n2_;intro HO422 HO425 HB;obtain ⟨Ao15,co15,eo15⟩ := Kd.N_slice HO425.out;subst eo15))
   go_loopg [5,23] kj2 (fun kq v5 v23 w' => ∃ (x5_2 : List Int) (x23_2 : Int),v23 = .int .i64 x23_2 ∧ Aside0 (impl_StreamBytes.l0 kq a1 x5_2 t423 (t423.length : Int) x23_2 = some r) ∧ Aside0 (kq ≤ kj2) ∧ Aside0 (Kd.R (Kd.int .i64) 3 w' w.heap.size (fun _ => True) v5 x5_2) ∧ Aside0 (Kd.N (Kd.slice 75 k75) 23 w' w.heap.size (fun k_ => some k_ ≠ (v5 : Value).ownBlock) (.slice Ao15 t423.length co15) t423) ∧ Aside0 (Below w.heap.size w w'))
   case atStart => exact ⟨(y420),(0),zT_,H',⟨Nat.le_refl _⟩,⟨by (with_reducible repeat (first|apply Kd.R_alloc|apply Kd.R_drewN|apply Kd.R_drew));exact HO422.out⟩,⟨by (with_reducible repeat (first|apply Kd.N_alloc|apply Kd.N_drewN|apply Kd.N_drew));exact HO425.out⟩,⟨zb0 HB.out⟩⟩
   case round =>
    clear H'
    obtain ⟨x5_2,x23_2,rfl,HA,HK2,HO_5,HO_21,HB⟩ := hrel
    cases gk with
    | zero => exact absurd HA.out (fun h_ => (by cases h_))
    | succ k2 =>
     have H := HA.out
     clear HA
     simp only [impl_StreamBytes.l0] at H
     by_cases c16 : x23_2 < (t423.length : Int)
     rotate_left
     ·rw [if_neg c16] at H
      have c16b0 : decide (x23_2 < (t423.length : Int)) = false := deF c16
      clear c16
      by_cases c27 : (x5_2.length : Int) > 2000
      ·rw [if_pos c27] at H
       have c27b0 : decide (2000 < (x5_2.length : Int)) = true := deT c27
       have c27b1 : decide (2000 < x5_2.length) = true := deT (by omega)
       clear c27
       obtain rfl := Option.some.inj H
       obtain ⟨Ao28,co28,eo28⟩ := Kd.R_slice HO_5.out
       subst eo28
       go_wp2
       go_ret
       exact ⟨_,zE_,by first|exact Kd.R_nil _ _ _ _ _|exact Kd.N_nil _ _ _ _ _|exact Kd.V_nil _ _ _ _ _|exact Kd.Q_nil _ _ _ _ _|exact Kd.S_nil _ _ _ _ _,zb0 HB.out⟩
      rw [if_neg c27] at H
      have c27b0 : decide (2000 < (x5_2.length : Int)) = false := deF c27
      have c27b1 : decide (2000 < x5_2.length) = false := deF (by omega)
      clear c27
      obtain rfl := Option.some.inj H
      obtain ⟨Ao29,co29,eo29⟩ := Kd.R_slice HO_5.out
      subst eo29
      go_wp2
      go_ret
      exact ⟨_,zE_,by (with_reducible repeat (first|apply Kd.R_alloc|apply Kd.R_drewN|apply Kd.R_drew));exact HO_5.out,zb0 HB.out⟩

     rw [if_pos c16] at H
     have c16b0 : decide (x23_2 < (t423.length : Int)) = true := deT c16
     clear c16
     by_cases c17 : 0 ≤ x23_2
     rotate_left
     ·rw [if_neg c17] at H
      exact absurd H (by simp)
     rw [if_pos c17] at H
     have c17b0 : decide (0 ≤ x23_2) = true := deT c17
     clear c17
     by_cases c18 : x23_2 < (t423.length : Int)
     rotate_left
     ·rw [if_neg c18] at H
      exact absurd H (by simp)
     rw [if_pos c18] at H
     have c18b0 : decide (x23_2 < (t423.length : Int)) = true := deT c18
     clear c18
     replace H := obS H
     obtain ⟨t427,A190,H⟩ := H
     replace H : ((impl_FrameBytes.f k2 t427 a1).bind fun t430 => (if x5_2.length + t430.length < 17592186044416 then (impl_StreamBytes.l0 k2 a1 (x5_2 ++ t430) t423 (t423.length : Int) (wrap64 (x23_2 + 1))) else (none))) = some r := H
     have A19 := As_ A190
     clear A190
     replace H := obS H
     obtain ⟨t430,A200,H⟩ := H
     replace H : (if x5_2.length + t430.length < 17592186044416 then (impl_StreamBytes.l0 k2 a1 (x5_2 ++ t430) t423 (t423.length : Int) (wrap64 (x23_2 + 1))) else (none)) = some r := H
     have A20 := As_ A200
     clear A200
     by_cases c21 : x5_2.length + t430.length < 17592186044416
     rotate_left
     ·rw [if_neg c21] at H
      exact absurd H (by simp)
     rw [if_pos c21] at H
     have LMc21 := As_ c21
     clear c21
     obtain ⟨y433,hy433⟩ : ∃ y_ : List Int,y_ = (x5_2 ++ t430) := ⟨_,rfl⟩
     replace H : (impl_StreamBytes.l0 k2 a1 y433 t423 (t423.length : Int) (wrap64 (x23_2 + 1))) = some r := zH_ H hy433
     have Ny433 := As_ hy433
     clear hy433
     have H' := As_ H
     clear H
     have p426 : 0 ≤ (x23_2 : Int) := odT zA_
     have q426 : x23_2 < (t423.length : Int) := odT zA_
     obtain ⟨ad426,A426_0,c426_0,e426,hx426_0,hl426_0,hi426_0⟩ := at_L6 (Kd.N_reads' HO_21.out).2.2 x23_2 p426 q426
     cases e426
     obtain ⟨ce426,hce426,hMe426,hcc426⟩ := Kd.N_get HO_21.out [] x23_2 p426 (by first|exact q426|exact odT zA_|(have e_ := (Kd.N_reads' HO_21.out).1;omega))
     obtain ⟨ua426_0,uc426_0,rfl,ul426_0,ge426_0⟩ := Kd.FK_slice_open hMe426
     have hv426_0 := hcc426 0 _ rfl
     rw [Nat.add_zero,show ((Kd.slice 75 k75)).sz = 1 from rfl,Nat.mul_one] at hv426_0
     replace hv426_0 := Option.some.inj (hv426_0.symm.trans hx426_0)
     injection hv426_0 with hva_ hvn_ hvc_
     rw [hva_] at ge426_0
     rw [hvc_] at ul426_0
     have HL426_0 := As_ (show Kd.V k75 75 _ w.heap.size _ _ (rd_L6 t423 x23_2) from Kd.V_mk ul426_0 ge426_0)
     clear hva_ hvn_ hvc_ ge426_0 ul426_0 hcc426 hce426
     have HR426_0 := As_ hi426_0
     have HC426_0 := As_ hl426_0
     clear hi426_0 hl426_0
     replace p426 := eq_true p426
     replace q426 := eq_true q426
     go_wp2_with (first|((with_reducible refine gate_callee (f := 64) rfl ?_);refine goesL_ (some 29) rfl rfl Try.func64 (by kernel_rfl) rfl #[.slice A426_0 (rd_L6 t423 x23_2).length c426_0] rfl zM_ ?_;(with_reducible refine (impl_EncodeOps.calls k2 _ _ (rd_L6 t423 x23_2) t427 _ ?side1 ?side2 A19.out).mono ?_);(case side1 => repeat (first|exact (by repeat (first|(with_reducible exact HR426_0.out)|(with_reducible refine Kd.C_alloc ?_ _)|(with_reducible refine Kd.C_drewN ?_ _)|(with_reducible refine Kd.C_drew ?_)|exact HR426_0.out))|(with_reducible refine Kd.C_alloc ?_ _)|(with_reducible refine Kd.C_drewN ?_ _)|(with_reducible refine Kd.C_drew ?_)));(case side2 => exact HC426_0.out);rintro e w22 ⟨v428,rfl,ho0,hb⟩;refine ⟨_,rfl,?_⟩;have n0_ := As_ (Kd.R_elder' (zR_ HO_5.out) (Kd.R_base ho0) hb);have n1_ := As_ (Kd.N_elder' (zN_ HO_21.out) (Kd.R_base ho0) hb);have n2_ := As_ (Kd.V_elder' (by (with_reducible repeat (first|apply Kd.V_alloc|apply Kd.V_drewN|apply Kd.V_drew));exact HL426_0.out) (Kd.R_base ho0) hb);have n3_ := As_ (Kd.R_lower (Kd.R_new' ho0 (Kd.R_lt (zR_ HO_5.out))) (bwZ (zb0 HB.out)));have n4_ := As_ (Kd.C_below (by repeat (first|(with_reducible exact HR426_0.out)|(with_reducible refine Kd.C_alloc ?_ _)|(with_reducible refine Kd.C_drewN ?_ _)|(with_reducible refine Kd.C_drew ?_)|exact HR426_0.out)) hb);have n5_ := As_ (bwT (zb0 HB.out) hb);clear HO_5 HO_21 HL426_0 HR426_0 HB;revert n0_ n1_ n2_ n3_ n4_ n5_;intro HO_5 HO_21 HL426_0 HO429 HR426_0 HB;obtain ⟨Ao23,co23,eo23⟩ := Kd.R_slice HO429.out;subst eo23)|((with_reducible refine gate_callee (f := 63) rfl ?_);refine goesL_ (some 31) rfl rfl Try.func63 (by kernel_rfl) rfl #[.slice Ao23 t427.length co23,.int .i64 a1] rfl zM_ ?_;(with_reducible refine (impl_FrameBytes.calls k2 (fun k_ => some k_ = (.slice Ao23 t427.length co23 : Value).ownBlock) _ _ t427 a1 t430 _ ?side1 A20.out).mono ?_);(case side1 => exact Kd.R_V (Kd.R_tight rfl (Kd.R_apart' (HO429.out) (Kd.N_typed HO_21.out) (by decide))));rintro e w24 ⟨v431,rfl,ho0,hb⟩;refine ⟨_,rfl,?_⟩;have n0_ := As_ (Kd.R_elder' (zR_ HO_5.out) (Kd.R_base ho0) hb);have n1_ := As_ (Kd.N_elder' (zN_ HO_21.out) (Kd.R_base ho0) hb);have n2_ := As_ (Kd.V_elder' (by (with_reducible repeat (first|apply Kd.V_alloc|apply Kd.V_drewN|apply Kd.V_drew));exact HL426_0.out) (Kd.R_base ho0) hb);have n3_ := As_ (Kd.R_elder' (zR_ HO429.out) (Kd.R_base ho0) hb);have n4_ := As_ (Kd.R_lower (Kd.R_new' (Kd.R_new' (Kd.R_mono (ok' := fun k_ => True) ho0 (fun _ hk_ => trivial)) (Kd.R_lt (zR_ HO_5.out))) (Kd.R_lt (zR_ HO429.out))) (bwZ (zb0 HB.out)));have n5_ := As_ (Kd.C_below (by repeat (first|(with_reducible exact HR426_0.out)|(with_reducible refine Kd.C_alloc ?_ _)|(with_reducible refine Kd.C_drewN ?_ _)|(with_reducible refine Kd.C_drew ?_)|exact HR426_0.out)) hb);have n6_ := As_ (bwT (zb0 HB.out) hb);clear HO_5 HO_21 HL426_0 HO429 HR426_0 HB;revert n0_ n1_ n2_ n3_ n4_ n5_ n6_;intro HO_5 HO_21 HL426_0 HO429 HO432 HR426_0 HB;obtain ⟨Ao26,co26,eo26⟩ := Kd.R_slice HO432.out;subst eo26)|((with_reducible refine gate_builtin (b := .append) (xs := #[.tmp 27,.tmp 31]) rfl ?_);at_builtin;refine Kd.R_append_rows (Kd.int .i64) (w0 := w) w.heap.size rfl (.tmp 27) (.tmp 31) 22 3 (.int .i64 0) 8 rfl Try.underlying22 info3 rfl (by decide) (by omega) u5 x5_2 t430 _ _ _ (fun k_ => some k_ ≠ (.slice Ao23 t427.length co23 : Value).ownBlock ∧ some k_ ≠ (.slice Ao26 t430.length co26 : Value).ownBlock) (fun _ => False) rfl rfl ?aO ?aR (fun _ _ h => h) (fun _ h => h.elim) ?aF ?aB ?aS ?aL ?_;(case aR => exact zC_ (Kd.R_reads' HO432.out).2.2);(case aB => exact (zb0 HB.out));(case aF => exact (fun k_ hk => ⟨Kd.fresh' (Kd.R_lt (zR_ HO429.out)) k_ hk,Kd.fresh' (Kd.R_lt (zR_ HO432.out)) k_ hk⟩));(case aO => exact (by (with_reducible repeat (first|apply Kd.R_alloc|apply Kd.R_drewN|apply Kd.R_drew));exact Kd.R_mono HO_5.out (fun _ hk => ⟨hk.1.2,hk.2⟩)));(case aS => exact (bwZ (zb0 HB.out)));(case aL => have := LMc21.out;omega);intro v434 w25 ho hb hg hat;rw [← Ny433.out] at ho;have n0_ := As_ (Kd.N_afterv (ok := (fun k_ => some k_ ≠ (.slice Ao23 t427.length co23 : Value).ownBlock ∧ some k_ ≠ (.slice Ao26 t430.length co26 : Value).ownBlock)) (by (with_reducible repeat (first|apply Kd.N_alloc|apply Kd.N_drewN|apply Kd.N_drew));exact Kd.N_mono HO_21.out (fun _ hk => ⟨⟨hk.1.2,hk.2⟩,hk.1.1⟩)) hg hat);have n1_ := As_ (Kd.V_afterv (ok := (fun k_ => some k_ ≠ (.slice (some ad426) t423.length co15 : Value).ownBlock ∧ some k_ ≠ (.slice Ao23 t427.length co23 : Value).ownBlock ∧ some k_ ≠ (.slice Ao26 t430.length co26 : Value).ownBlock)) (by (with_reducible repeat (first|apply Kd.V_alloc|apply Kd.V_drewN|apply Kd.V_drew));exact Kd.V_mono HL426_0.out (fun _ hk => ⟨⟨hk.1.1.2,⟨hk.1.2,hk.2⟩⟩,hk.1.1.1⟩)) hg hat);have n2_ := As_ (Kd.R_after (ok := (fun k_ => some k_ ≠ (.slice Ao26 t430.length co26 : Value).ownBlock)) (by (with_reducible repeat (first|apply Kd.R_alloc|apply Kd.R_drewN|apply Kd.R_drew));exact Kd.R_mono HO429.out (fun _ hk => ⟨hk.2,hk.1.2⟩)) hg hat);have n3_ := As_ (Kd.R_after (ok := (fun k_ => some k_ ≠ (.slice Ao23 t427.length co23 : Value).ownBlock)) (by (with_reducible repeat (first|apply Kd.R_alloc|apply Kd.R_drewN|apply Kd.R_drew));exact Kd.R_mono HO432.out (fun _ hk => ⟨hk.2,hk.1.2⟩)) hg hat);have n4_ := As_ (hb);have n5_ := As_ (ho);clear HO_21 HL426_0 HO429 HO432 HB HO_5;revert n0_ n1_ n2_ n3_ n4_ n5_;intro HO_21 HL426_0 HO429 HO432 HB HO435;clear ho hb hg hat))
     go_roundg k2
     case measure => have := HJ2.out;have := HK2.out;omega
     case rel => exact ⟨(y433),(wrap64 (x23_2 + 1)),zT_,H',⟨by have := HJ2.out;have := HK2.out;omega⟩,⟨by (with_reducible repeat (first|apply Kd.R_alloc|apply Kd.R_drewN|apply Kd.R_drew));exact Kd.R_mono HO435.out (fun _ hk => trivial)⟩,⟨by (with_reducible repeat (first|apply Kd.N_alloc|apply Kd.N_drewN|apply Kd.N_drew));exact Kd.N_mono HO_21.out (fun _ hk => hk.2)⟩,⟨zb0 HB.out⟩⟩
end Go.Proofs.Ytbokjhdhpmmpfaa.Q
