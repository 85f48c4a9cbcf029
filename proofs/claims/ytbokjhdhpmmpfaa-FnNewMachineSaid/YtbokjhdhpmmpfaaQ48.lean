-- Written by wip/tools/qprint.py (a program of this claim's author) by means of the kit's printer.
import Derived.Test.YtbokjhdhpmmpfaaQ0
import Derived.Test.YtbokjhdhpmmpfaaQ47
import Derived.Test.YtbokjhdhpmmpfaaQ83
namespace Go.Proofs.Ytbokjhdhpmmpfaa.Q
open Go.RowKit Go.Proofs.YtbokjhdhpmmpfaaW.PrintWords Go.Proofs.YtbokjhdhpmmpfaaW.PrintLast Go.Proofs.YtbokjhdhpmmpfaaW.PrintMore
attribute [local go_sem] max2_int min2_int max_two min_two max_three min_three max_four min_four   -- for this text's walks alone
set_option linter.unusedVariables false
set_option linter.unusedSimpArgs false

/-! ### laws_equalMachine: function 48 -/
def laws_equalMachine.f (k : Nat) (l0_0 : List (S88)) (l0_1 : List Int) (l0_2 : List Int) (a0_3 : Bool) (l1_0 : List (S88)) (l1_1 : List Int) (l1_2 : List Int) (a1_3 : Bool) : Option (Bool) := (laws_equalNodes.f k l0_0 l1_0).bind fun t1077 => (if t1077 = true then ((laws_equalInts.f k l0_1 l1_1).bind fun t1078 => (if t1078 = true then ((laws_equalInts.f k l0_2 l1_2).bind fun t1079 => (if t1079 = true then (some (a0_3 == a1_3)) else (some false))) else (some false))) else (some false))
set_option maxRecDepth 100000 in
theorem laws_equalMachine.mono : ∀ a0 a1 a2 a3 a4 a5 a6 a7 k,LeO (laws_equalMachine.f k a0 a1 a2 a3 a4 a5 a6 a7) (laws_equalMachine.f (k + 1) a0 a1 a2 a3 a4 a5 a6 a7) := by
 intro a0 a1 a2 a3 a4 a5 a6 a7 k
 unfold laws_equalMachine.f
 repeat' first
   | (with_reducible exact laws_equalInts.mono _ _ _)
   | (with_reducible exact laws_equalNodes.mono _ _ _)
   | (with_reducible exact LeO.refl _)
   | (with_reducible exact LeO.none _)
   | (with_reducible refine LeO.ite ?_ ?_)
   | (with_reducible refine LeO.bind ?_ (fun _ => ?_))
   | exact laws_equalInts.mono _ _ _
   | exact laws_equalNodes.mono _ _ _
   | exact LeO.none _
   | refine LeO.ite ?_ ?_
   | refine LeO.bind ?_ (fun _ => ?_)
set_option maxHeartbeats 8000000 in
set_option maxRecDepth 100000 in
theorem laws_equalMachine.calls (k : Nat) (A0_0 : Option Addr) (c0_0 : Nat) (l0_0 : List (S88)) (A0_1 : Option Addr) (c0_1 : Nat) (l0_1 : List Int) (A0_2 : Option Addr) (c0_2 : Nat) (l0_2 : List Int) (a0_3 : Bool) (A1_0 : Option Addr) (c1_0 : Nat) (l1_0 : List (S88)) (A1_1 : Option Addr) (c1_1 : Nat) (l1_1 : List Int) (A1_2 : Option Addr) (c1_2 : Nat) (l1_2 : List Int) (a1_3 : Bool) (r : Bool) (w : World) (hr0_0 : Kd.C k88 w A0_0 l0_0.length l0_0) (hc0_0 : l0_0.length ≤ c0_0) (hr0_1 : Kd.C (Kd.int .i64) w A0_1 l0_1.length l0_1) (hc0_1 : l0_1.length ≤ c0_1) (hr0_2 : Kd.C (Kd.int .i64) w A0_2 l0_2.length l0_2) (hc0_2 : l0_2.length ≤ c0_2) (hr1_0 : Kd.C k88 w A1_0 l1_0.length l1_0) (hc1_0 : l1_0.length ≤ c1_0) (hr1_1 : Kd.C (Kd.int .i64) w A1_1 l1_1.length l1_1) (hc1_1 : l1_1.length ≤ c1_1) (hr1_2 : Kd.C (Kd.int .i64) w A1_2 l1_2.length l1_2) (hc1_2 : l1_2.length ≤ c1_2) (h : laws_equalMachine.f k l0_0 l0_1 l0_2 a0_3 l1_0 l1_1 l1_2 a1_3 = some r) :
  Calls Try.prog 48 #[.agg #[.slice A0_0 l0_0.length c0_0,.slice A0_1 l0_1.length c0_1,.slice A0_2 l0_2.length c0_2,.bool a0_3],.agg #[.slice A1_0 l1_0.length c1_0,.slice A1_1 l1_1.length c1_1,.slice A1_2 l1_2.length c1_2,.bool a1_3]] w fun e w' => e = .returned (.bool r) ∧ Below w.heap.size w w' := by
 have hu56 := Try.underlying56
 have HR0_0 := Aside0.mk hr0_0
 have HC0_0 := Aside0.mk hc0_0
 clear hr0_0 hc0_0
 have HR0_1 := Aside0.mk hr0_1
 have HC0_1 := Aside0.mk hc0_1
 clear hr0_1 hc0_1
 have HR0_2 := Aside0.mk hr0_2
 have HC0_2 := Aside0.mk hc0_2
 clear hr0_2 hc0_2
 have HR1_0 := Aside0.mk hr1_0
 have HC1_0 := Aside0.mk hc1_0
 clear hr1_0 hc1_0
 have HR1_1 := Aside0.mk hr1_1
 have HC1_1 := Aside0.mk hc1_1
 clear hr1_1 hc1_1
 have HR1_2 := Aside0.mk hr1_2
 have HC1_2 := Aside0.mk hc1_2
 clear hr1_2 hc1_2
 have HB := Aside0.mk (Below.refl w.heap.size w)
 have H : ((laws_equalNodes.f k l0_0 l1_0).bind fun t1077 => (if t1077 = true then ((laws_equalInts.f k l0_1 l1_1).bind fun t1078 => (if t1078 = true then ((laws_equalInts.f k l0_2 l1_2).bind fun t1079 => (if t1079 = true then (some (a0_3 == a1_3)) else (some false))) else (some false))) else (some false))) = some r := h
 clear h
 replace H := Option.bind_eq_some_iff.mp H
 obtain ⟨t1077,A30,H⟩ := H
 replace H : (if t1077 = true then ((laws_equalInts.f k l0_1 l1_1).bind fun t1078 => (if t1078 = true then ((laws_equalInts.f k l0_2 l1_2).bind fun t1079 => (if t1079 = true then (some (a0_3 == a1_3)) else (some false))) else (some false))) else (some false)) = some r := H
 have A3 := Aside0.mk A30
 clear A30
 by_cases c4 : t1077 = true
 ·subst c4
  have H1 : ((laws_equalInts.f k l0_1 l1_1).bind fun t1078 => (if t1078 = true then ((laws_equalInts.f k l0_2 l1_2).bind fun t1079 => (if t1079 = true then (some (a0_3 == a1_3)) else (some false))) else (some false))) = some r := by rw [if_pos rfl] at H;exact H
  clear H
  have H := H1
  clear H1
  replace H := Option.bind_eq_some_iff.mp H
  obtain ⟨t1078,A50,H⟩ := H
  replace H : (if t1078 = true then ((laws_equalInts.f k l0_2 l1_2).bind fun t1079 => (if t1079 = true then (some (a0_3 == a1_3)) else (some false))) else (some false)) = some r := H
  have A5 := Aside0.mk A50
  clear A50
  by_cases c6 : t1078 = true
  ·subst c6
   have H1 : ((laws_equalInts.f k l0_2 l1_2).bind fun t1079 => (if t1079 = true then (some (a0_3 == a1_3)) else (some false))) = some r := by rw [if_pos rfl] at H;exact H
   clear H
   have H := H1
   clear H1
   replace H := Option.bind_eq_some_iff.mp H
   obtain ⟨t1079,A70,H⟩ := H
   replace H : (if t1079 = true then (some (a0_3 == a1_3)) else (some false)) = some r := H
   have A7 := Aside0.mk A70
   clear A70
   by_cases c8 : t1079 = true
   ·subst c8
    have H1 : (some (a0_3 == a1_3)) = some r := by rw [if_pos rfl] at H;exact H
    clear H
    have H := H1
    clear H1
    obtain rfl := Option.some.inj H
    go_enter Try.func48,Try.ntmps48
    go_wp2_with (first|((with_reducible refine gate_dst (N := 2) rfl ?_);refine box_event ?hg (N := 2) ?hd (cs := #[.slice A0_0 l0_0.length c0_0,.slice A0_1 l0_1.length c0_1,.slice A0_2 l0_2.length c0_2,.bool a0_3]) (t := 56) ?hr ?_;(case hd => rfl);(case hg => rfl);(case hr => first|(go_simp;done)|(go_simp;rfl));intro gb1075 hg w9 hbox hb;have n0_ := Aside0.mk (below_step (by repeat (first|(with_reducible first|exact HB.out|apply below_alloc|apply pw_below_drewN|apply below_drew1)|exact HB.out)) hb);have n1_ := Aside0.mk (hbox);have n2_ := Aside0.mk ((by rw [hg];exact (below_size (by repeat (first|(with_reducible first|exact HB.out|apply below_alloc|apply pw_below_drewN|apply below_drew1)|exact HB.out))) : w.heap.size ≤ gb1075));have n3_ := Aside0.mk ((by rw [hg];exact (below_size (by repeat (first|(with_reducible first|exact HB.out|apply below_alloc|apply pw_below_drewN|apply below_drew1)|exact HB.out))) : w.heap.size ≤ gb1075));clear HB;have HB := n0_;have BK1075 := n1_;have GW1075 := n2_;have GE1075 := n3_;clear n0_ n1_ n2_ n3_;clear hb hbox hg)|((with_reducible refine gate_dst (N := 3) rfl ?_);refine box_event ?hg (N := 3) ?hd (cs := #[.slice A1_0 l1_0.length c1_0,.slice A1_1 l1_1.length c1_1,.slice A1_2 l1_2.length c1_2,.bool a1_3]) (t := 56) ?hr ?_;(case hd => rfl);(case hg => rfl);(case hr => first|(go_simp;done)|(go_simp;rfl));intro gb1076 hg w10 hbox hb;have n0_ := Aside0.mk (blk_below (g := gb1075) (o := .cells #[.slice A0_0 l0_0.length c0_0,.slice A0_1 l0_1.length c0_1,.slice A0_2 l0_2.length c0_2,.bool a0_3] 56 (0,0)) (by (with_reducible repeat (first|refine blk_drewN ?_ _|refine blk_drew ?_|refine blk_alloc ?_ _));exact BK1075.out) hb);have n1_ := Aside0.mk (below_step (by repeat (first|(with_reducible first|exact HB.out|apply below_alloc|apply pw_below_drewN|apply below_drew1|refine below_set ?_ GE1075.out)|exact HB.out)) hb);have n2_ := Aside0.mk (hbox);have n3_ := Aside0.mk ((by rw [hg];exact (below_size (by repeat (first|(with_reducible first|exact HB.out|apply below_alloc|apply pw_below_drewN|apply below_drew1|refine below_set ?_ GE1075.out)|exact HB.out))) : w.heap.size ≤ gb1076));have n4_ := Aside0.mk ((by rw [hg];exact (below_size (by repeat (first|(with_reducible first|exact HB.out|apply below_alloc|apply pw_below_drewN|apply below_drew1|refine below_set ?_ GE1075.out)|exact HB.out))) : w.heap.size ≤ gb1076));have n5_ := Aside0.mk ((by rw [hg];exact Nat.ne_of_lt (blk_lt (g := gb1075) (o := .cells #[.slice A0_0 l0_0.length c0_0,.slice A0_1 l0_1.length c0_1,.slice A0_2 l0_2.length c0_2,.bool a0_3] 56 (0,0)) (by (with_reducible repeat (first|refine blk_drewN ?_ _|refine blk_drew ?_|refine blk_alloc ?_ _));exact BK1075.out)) : gb1075 ≠ gb1076));have n6_ := Aside0.mk ((by rw [hg];exact Nat.ne_of_gt (blk_lt (g := gb1075) (o := .cells #[.slice A0_0 l0_0.length c0_0,.slice A0_1 l0_1.length c0_1,.slice A0_2 l0_2.length c0_2,.bool a0_3] 56 (0,0)) (by (with_reducible repeat (first|refine blk_drewN ?_ _|refine blk_drew ?_|refine blk_alloc ?_ _));exact BK1075.out)) : gb1076 ≠ gb1075));clear BK1075;clear HB;have BK1075 := n0_;have HB := n1_;have BK1076 := n2_;have GW1076 := n3_;have GE1076 := n4_;have NB1075_1076 := n5_;have NB1076_1075 := n6_;clear n0_ n1_ n2_ n3_ n4_ n5_ n6_;clear hb hbox hg;have hnb11 := NB1075_1076.out;have hnc11 := NB1076_1075.out;have hcz12_0 : w10.cell? ⟨gb1075,0,none⟩ = some (.slice A0_0 l0_0.length c0_0) := (blk_cell BK1075.out 0).trans rfl;have hcz12_1 : w10.cell? ⟨gb1075,1,none⟩ = some (.slice A0_1 l0_1.length c0_1) := (blk_cell BK1075.out 1).trans rfl;have hcz12_2 : w10.cell? ⟨gb1075,2,none⟩ = some (.slice A0_2 l0_2.length c0_2) := (blk_cell BK1075.out 2).trans rfl;have hcz12_3 : w10.cell? ⟨gb1075,3,none⟩ = some (.bool a0_3) := (blk_cell BK1075.out 3).trans rfl;have hfz12_0 := blk_frozen BK1075.out 0;have hfz12_1 := blk_frozen BK1075.out 1;have hfz12_2 := blk_frozen BK1075.out 2;have hfz12_3 := blk_frozen BK1075.out 3;have hcz13_0 : w10.cell? ⟨gb1076,0,none⟩ = some (.slice A1_0 l1_0.length c1_0) := (blk_cell BK1076.out 0).trans rfl;have hcz13_1 : w10.cell? ⟨gb1076,1,none⟩ = some (.slice A1_1 l1_1.length c1_1) := (blk_cell BK1076.out 1).trans rfl;have hcz13_2 : w10.cell? ⟨gb1076,2,none⟩ = some (.slice A1_2 l1_2.length c1_2) := (blk_cell BK1076.out 2).trans rfl;have hcz13_3 : w10.cell? ⟨gb1076,3,none⟩ = some (.bool a1_3) := (blk_cell BK1076.out 3).trans rfl;have hfz13_0 := blk_frozen BK1076.out 0;have hfz13_1 := blk_frozen BK1076.out 1;have hfz13_2 := blk_frozen BK1076.out 2;have hfz13_3 := blk_frozen BK1076.out 3)|((with_reducible refine gate_callee (f := 83) rfl ?_);refine goesL_ (some 9) rfl rfl Try.func83 (by kernel_rfl) rfl #[.slice A0_0 l0_0.length c0_0,.slice A1_0 l1_0.length c1_0] rfl (by (try simp only [List.map_toArray,List.map_cons,List.map_nil]);first|done|rfl|(simp only [List.length_drop,List.length_take];rfl)) ?_;(with_reducible refine (laws_equalNodes.calls k _ _ l0_0 _ _ l1_0 true _ ?side1 ?side2 ?side3 ?side4 A3.out).mono ?_);(case side1 => repeat (first|exact (Kd.C_below HR0_0.out HB.out)|(with_reducible refine Kd.C_alloc ?_ _)|(with_reducible refine Kd.C_drewN ?_ _)|(with_reducible refine Kd.C_drew ?_)));(case side2 => exact HC0_0.out);(case side3 => repeat (first|exact (Kd.C_below HR1_0.out HB.out)|(with_reducible refine Kd.C_alloc ?_ _)|(with_reducible refine Kd.C_drewN ?_ _)|(with_reducible refine Kd.C_drew ?_)));(case side4 => exact HC1_0.out);rintro e w14 ⟨rfl,hb⟩;refine ⟨_,rfl,?_⟩;have n0_ := Aside0.mk (blk_below (g := gb1075) (o := .cells #[.slice A0_0 l0_0.length c0_0,.slice A0_1 l0_1.length c0_1,.slice A0_2 l0_2.length c0_2,.bool a0_3] 56 (0,0)) (by (with_reducible repeat (first|refine blk_drewN ?_ _|refine blk_drew ?_|refine blk_alloc ?_ _));exact BK1075.out) hb);have n1_ := Aside0.mk (blk_below (g := gb1076) (o := .cells #[.slice A1_0 l1_0.length c1_0,.slice A1_1 l1_1.length c1_1,.slice A1_2 l1_2.length c1_2,.bool a1_3] 56 (0,0)) (by (with_reducible repeat (first|refine blk_drewN ?_ _|refine blk_drew ?_|refine blk_alloc ?_ _));exact BK1076.out) hb);have n2_ := Aside0.mk (below_step (by repeat (first|(with_reducible first|exact HB.out|apply below_alloc|apply pw_below_drewN|apply below_drew1|refine below_set ?_ GE1075.out|refine below_set ?_ GE1076.out)|exact HB.out)) hb);clear BK1075;clear BK1076;clear HB;have BK1075 := n0_;have BK1076 := n1_;have HB := n2_;clear n0_ n1_ n2_;(try clear hb);(try clear hb2);(try clear hk);(try clear hi);have hcz15_0 : w14.cell? ⟨gb1075,0,none⟩ = some (.slice A0_0 l0_0.length c0_0) := (blk_cell BK1075.out 0).trans rfl;have hcz15_1 : w14.cell? ⟨gb1075,1,none⟩ = some (.slice A0_1 l0_1.length c0_1) := (blk_cell BK1075.out 1).trans rfl;have hcz15_2 : w14.cell? ⟨gb1075,2,none⟩ = some (.slice A0_2 l0_2.length c0_2) := (blk_cell BK1075.out 2).trans rfl;have hcz15_3 : w14.cell? ⟨gb1075,3,none⟩ = some (.bool a0_3) := (blk_cell BK1075.out 3).trans rfl;have hfz15_0 := blk_frozen BK1075.out 0;have hfz15_1 := blk_frozen BK1075.out 1;have hfz15_2 := blk_frozen BK1075.out 2;have hfz15_3 := blk_frozen BK1075.out 3;have hcz16_0 : w14.cell? ⟨gb1076,0,none⟩ = some (.slice A1_0 l1_0.length c1_0) := (blk_cell BK1076.out 0).trans rfl;have hcz16_1 : w14.cell? ⟨gb1076,1,none⟩ = some (.slice A1_1 l1_1.length c1_1) := (blk_cell BK1076.out 1).trans rfl;have hcz16_2 : w14.cell? ⟨gb1076,2,none⟩ = some (.slice A1_2 l1_2.length c1_2) := (blk_cell BK1076.out 2).trans rfl;have hcz16_3 : w14.cell? ⟨gb1076,3,none⟩ = some (.bool a1_3) := (blk_cell BK1076.out 3).trans rfl;have hfz16_0 := blk_frozen BK1076.out 0;have hfz16_1 := blk_frozen BK1076.out 1;have hfz16_2 := blk_frozen BK1076.out 2;have hfz16_3 := blk_frozen BK1076.out 3)|(go_at_call 84;(with_reducible refine (laws_equalInts.calls k _ _ l0_1 _ _ l1_1 true _ ?side1 ?side2 ?side3 ?side4 A5.out).mono ?_);(case side1 => repeat (first|exact (Kd.C_below HR0_1.out HB.out)|(with_reducible refine Kd.C_alloc ?_ _)|(with_reducible refine Kd.C_drewN ?_ _)|(with_reducible refine Kd.C_drew ?_)));(case side2 => exact HC0_1.out);(case side3 => repeat (first|exact (Kd.C_below HR1_1.out HB.out)|(with_reducible refine Kd.C_alloc ?_ _)|(with_reducible refine Kd.C_drewN ?_ _)|(with_reducible refine Kd.C_drew ?_)));(case side4 => exact HC1_1.out);rintro e w' ⟨rfl,⟨nd,rfl⟩⟩)|(go_at_call 84;(with_reducible refine (laws_equalInts.calls k _ _ l0_2 _ _ l1_2 true _ ?side1 ?side2 ?side3 ?side4 A7.out).mono ?_);(case side1 => repeat (first|exact (Kd.C_below HR0_2.out (by repeat (first|(with_reducible first|exact HB.out|apply below_alloc|apply pw_below_drewN|apply below_drew1|refine below_set ?_ GE1075.out|refine below_set ?_ GE1076.out)|exact HB.out)))|(with_reducible refine Kd.C_alloc ?_ _)|(with_reducible refine Kd.C_drewN ?_ _)|(with_reducible refine Kd.C_drew ?_)));(case side2 => exact HC0_2.out);(case side3 => repeat (first|exact (Kd.C_below HR1_2.out (by repeat (first|(with_reducible first|exact HB.out|apply below_alloc|apply pw_below_drewN|apply below_drew1|refine below_set ?_ GE1075.out|refine below_set ?_ GE1076.out)|exact HB.out)))|(with_reducible refine Kd.C_alloc ?_ _)|(with_reducible refine Kd.C_drewN ?_ _)|(with_reducible refine Kd.C_drew ?_)));(case side4 => exact HC1_2.out);rintro e w' ⟨rfl,⟨nd,rfl⟩⟩))
    go_ret
    exact ⟨by first|rfl|(simp [errW_none,errW_some] <;> rfl)|(simp [*,errW_none,errW_some] <;> rfl),by repeat (first|(with_reducible first|exact HB.out|apply below_alloc|apply pw_below_drewN|apply below_drew1|refine below_set ?_ GE1075.out|refine below_set ?_ GE1076.out)|exact HB.out)⟩
   ·replace c8 := Bool.eq_false_iff.mpr c8
    subst c8
    have H1 : (some false) = some r := by rw [if_neg (show ¬ (false = true) by decide)] at H;exact H
    clear H
    have H := H1
    clear H1
    obtain rfl := Option.some.inj H
    go_enter Try.func48,Try.ntmps48
    go_wp2_with (first|((with_reducible refine gate_dst (N := 2) rfl ?_);refine box_event ?hg (N := 2) ?hd (cs := #[.slice A0_0 l0_0.length c0_0,.slice A0_1 l0_1.length c0_1,.slice A0_2 l0_2.length c0_2,.bool a0_3]) (t := 56) ?hr ?_;(case hd => rfl);(case hg => rfl);(case hr => first|(go_simp;done)|(go_simp;rfl));intro gb1075 hg w17 hbox hb;have n0_ := Aside0.mk (below_step (by repeat (first|(with_reducible first|exact HB.out|apply below_alloc|apply pw_below_drewN|apply below_drew1)|exact HB.out)) hb);have n1_ := Aside0.mk (hbox);have n2_ := Aside0.mk ((by rw [hg];exact (below_size (by repeat (first|(with_reducible first|exact HB.out|apply below_alloc|apply pw_below_drewN|apply below_drew1)|exact HB.out))) : w.heap.size ≤ gb1075));have n3_ := Aside0.mk ((by rw [hg];exact (below_size (by repeat (first|(with_reducible first|exact HB.out|apply below_alloc|apply pw_below_drewN|apply below_drew1)|exact HB.out))) : w.heap.size ≤ gb1075));clear HB;have HB := n0_;have BK1075 := n1_;have GW1075 := n2_;have GE1075 := n3_;clear n0_ n1_ n2_ n3_;clear hb hbox hg)|((with_reducible refine gate_dst (N := 3) rfl ?_);refine box_event ?hg (N := 3) ?hd (cs := #[.slice A1_0 l1_0.length c1_0,.slice A1_1 l1_1.length c1_1,.slice A1_2 l1_2.length c1_2,.bool a1_3]) (t := 56) ?hr ?_;(case hd => rfl);(case hg => rfl);(case hr => first|(go_simp;done)|(go_simp;rfl));intro gb1076 hg w18 hbox hb;have n0_ := Aside0.mk (blk_below (g := gb1075) (o := .cells #[.slice A0_0 l0_0.length c0_0,.slice A0_1 l0_1.length c0_1,.slice A0_2 l0_2.length c0_2,.bool a0_3] 56 (0,0)) (by (with_reducible repeat (first|refine blk_drewN ?_ _|refine blk_drew ?_|refine blk_alloc ?_ _));exact BK1075.out) hb);have n1_ := Aside0.mk (below_step (by repeat (first|(with_reducible first|exact HB.out|apply below_alloc|apply pw_below_drewN|apply below_drew1|refine below_set ?_ GE1075.out)|exact HB.out)) hb);have n2_ := Aside0.mk (hbox);have n3_ := Aside0.mk ((by rw [hg];exact (below_size (by repeat (first|(with_reducible first|exact HB.out|apply below_alloc|apply pw_below_drewN|apply below_drew1|refine below_set ?_ GE1075.out)|exact HB.out))) : w.heap.size ≤ gb1076));have n4_ := Aside0.mk ((by rw [hg];exact (below_size (by repeat (first|(with_reducible first|exact HB.out|apply below_alloc|apply pw_below_drewN|apply below_drew1|refine below_set ?_ GE1075.out)|exact HB.out))) : w.heap.size ≤ gb1076));have n5_ := Aside0.mk ((by rw [hg];exact Nat.ne_of_lt (blk_lt (g := gb1075) (o := .cells #[.slice A0_0 l0_0.length c0_0,.slice A0_1 l0_1.length c0_1,.slice A0_2 l0_2.length c0_2,.bool a0_3] 56 (0,0)) (by (with_reducible repeat (first|refine blk_drewN ?_ _|refine blk_drew ?_|refine blk_alloc ?_ _));exact BK1075.out)) : gb1075 ≠ gb1076));have n6_ := Aside0.mk ((by rw [hg];exact Nat.ne_of_gt (blk_lt (g := gb1075) (o := .cells #[.slice A0_0 l0_0.length c0_0,.slice A0_1 l0_1.length c0_1,.slice A0_2 l0_2.length c0_2,.bool a0_3] 56 (0,0)) (by (with_reducible repeat (first|refine blk_drewN ?_ _|refine blk_drew ?_|refine blk_alloc ?_ _));exact BK1075.out)) : gb1076 ≠ gb1075));clear BK1075;clear HB;have BK1075 := n0_;have HB := n1_;have BK1076 := n2_;have GW1076 := n3_;have GE1076 := n4_;have NB1075_1076 := n5_;have NB1076_1075 := n6_;clear n0_ n1_ n2_ n3_ n4_ n5_ n6_;clear hb hbox hg;have hnb19 := NB1075_1076.out;have hnc19 := NB1076_1075.out;have hcz20_0 : w18.cell? ⟨gb1075,0,none⟩ = some (.slice A0_0 l0_0.length c0_0) := (blk_cell BK1075.out 0).trans rfl;have hcz20_1 : w18.cell? ⟨gb1075,1,none⟩ = some (.slice A0_1 l0_1.length c0_1) := (blk_cell BK1075.out 1).trans rfl;have hcz20_2 : w18.cell? ⟨gb1075,2,none⟩ = some (.slice A0_2 l0_2.length c0_2) := (blk_cell BK1075.out 2).trans rfl;have hcz20_3 : w18.cell? ⟨gb1075,3,none⟩ = some (.bool a0_3) := (blk_cell BK1075.out 3).trans rfl;have hfz20_0 := blk_frozen BK1075.out 0;have hfz20_1 := blk_frozen BK1075.out 1;have hfz20_2 := blk_frozen BK1075.out 2;have hfz20_3 := blk_frozen BK1075.out 3;have hcz21_0 : w18.cell? ⟨gb1076,0,none⟩ = some (.slice A1_0 l1_0.length c1_0) := (blk_cell BK1076.out 0).trans rfl;have hcz21_1 : w18.cell? ⟨gb1076,1,none⟩ = some (.slice A1_1 l1_1.length c1_1) := (blk_cell BK1076.out 1).trans rfl;have hcz21_2 : w18.cell? ⟨gb1076,2,none⟩ = some (.slice A1_2 l1_2.length c1_2) := (blk_cell BK1076.out 2).trans rfl;have hcz21_3 : w18.cell? ⟨gb1076,3,none⟩ = some (.bool a1_3) := (blk_cell BK1076.out 3).trans rfl;have hfz21_0 := blk_frozen BK1076.out 0;have hfz21_1 := blk_frozen BK1076.out 1;have hfz21_2 := blk_frozen BK1076.out 2;have hfz21_3 := blk_frozen BK1076.out 3)|((with_reducible refine gate_callee (f := 83) rfl ?_);refine goesL_ (some 9) rfl rfl Try.func83 (by kernel_rfl) rfl #[.slice A0_0 l0_0.length c0_0,.slice A1_0 l1_0.length c1_0] rfl (by (try simp only [List.map_toArray,List.map_cons,List.map_nil]);first|done|rfl|(simp only [List.length_drop,List.length_take];rfl)) ?_;(with_reducible refine (laws_equalNodes.calls k _ _ l0_0 _ _ l1_0 true _ ?side1 ?side2 ?side3 ?side4 A3.out).mono ?_);(case side1 => repeat (first|exact (Kd.C_below HR0_0.out HB.out)|(with_reducible refine Kd.C_alloc ?_ _)|(with_reducible refine Kd.C_drewN ?_ _)|(with_reducible refine Kd.C_drew ?_)));(case side2 => exact HC0_0.out);(case side3 => repeat (first|exact (Kd.C_below HR1_0.out HB.out)|(with_reducible refine Kd.C_alloc ?_ _)|(with_reducible refine Kd.C_drewN ?_ _)|(with_reducible refine Kd.C_drew ?_)));(case side4 => exact HC1_0.out);rintro e w22 ⟨rfl,hb⟩;refine ⟨_,rfl,?_⟩;have n0_ := Aside0.mk (blk_below (g := gb1075) (o := .cells #[.slice A0_0 l0_0.length c0_0,.slice A0_1 l0_1.length c0_1,.slice A0_2 l0_2.length c0_2,.bool a0_3] 56 (0,0)) (by (with_reducible repeat (first|refine blk_drewN ?_ _|refine blk_drew ?_|refine blk_alloc ?_ _));exact BK1075.out) hb);have n1_ := Aside0.mk (blk_below (g := gb1076) (o := .cells #[.slice A1_0 l1_0.length c1_0,.slice A1_1 l1_1.length c1_1,.slice A1_2 l1_2.length c1_2,.bool a1_3] 56 (0,0)) (by (with_reducible repeat (first|refine blk_drewN ?_ _|refine blk_drew ?_|refine blk_alloc ?_ _));exact BK1076.out) hb);have n2_ := Aside0.mk (below_step (by repeat (first|(with_reducible first|exact HB.out|apply below_alloc|apply pw_below_drewN|apply below_drew1|refine below_set ?_ GE1075.out|refine below_set ?_ GE1076.out)|exact HB.out)) hb);clear BK1075;clear BK1076;clear HB;have BK1075 := n0_;have BK1076 := n1_;have HB := n2_;clear n0_ n1_ n2_;(try clear hb);(try clear hb2);(try clear hk);(try clear hi);have hcz23_0 : w22.cell? ⟨gb1075,0,none⟩ = some (.slice A0_0 l0_0.length c0_0) := (blk_cell BK1075.out 0).trans rfl;have hcz23_1 : w22.cell? ⟨gb1075,1,none⟩ = some (.slice A0_1 l0_1.length c0_1) := (blk_cell BK1075.out 1).trans rfl;have hcz23_2 : w22.cell? ⟨gb1075,2,none⟩ = some (.slice A0_2 l0_2.length c0_2) := (blk_cell BK1075.out 2).trans rfl;have hcz23_3 : w22.cell? ⟨gb1075,3,none⟩ = some (.bool a0_3) := (blk_cell BK1075.out 3).trans rfl;have hfz23_0 := blk_frozen BK1075.out 0;have hfz23_1 := blk_frozen BK1075.out 1;have hfz23_2 := blk_frozen BK1075.out 2;have hfz23_3 := blk_frozen BK1075.out 3;have hcz24_0 : w22.cell? ⟨gb1076,0,none⟩ = some (.slice A1_0 l1_0.length c1_0) := (blk_cell BK1076.out 0).trans rfl;have hcz24_1 : w22.cell? ⟨gb1076,1,none⟩ = some (.slice A1_1 l1_1.length c1_1) := (blk_cell BK1076.out 1).trans rfl;have hcz24_2 : w22.cell? ⟨gb1076,2,none⟩ = some (.slice A1_2 l1_2.length c1_2) := (blk_cell BK1076.out 2).trans rfl;have hcz24_3 : w22.cell? ⟨gb1076,3,none⟩ = some (.bool a1_3) := (blk_cell BK1076.out 3).trans rfl;have hfz24_0 := blk_frozen BK1076.out 0;have hfz24_1 := blk_frozen BK1076.out 1;have hfz24_2 := blk_frozen BK1076.out 2;have hfz24_3 := blk_frozen BK1076.out 3)|(go_at_call 84;(with_reducible refine (laws_equalInts.calls k _ _ l0_1 _ _ l1_1 true _ ?side1 ?side2 ?side3 ?side4 A5.out).mono ?_);(case side1 => repeat (first|exact (Kd.C_below HR0_1.out HB.out)|(with_reducible refine Kd.C_alloc ?_ _)|(with_reducible refine Kd.C_drewN ?_ _)|(with_reducible refine Kd.C_drew ?_)));(case side2 => exact HC0_1.out);(case side3 => repeat (first|exact (Kd.C_below HR1_1.out HB.out)|(with_reducible refine Kd.C_alloc ?_ _)|(with_reducible refine Kd.C_drewN ?_ _)|(with_reducible refine Kd.C_drew ?_)));(case side4 => exact HC1_1.out);rintro e w' ⟨rfl,⟨nd,rfl⟩⟩)|(go_at_call 84;(with_reducible refine (laws_equalInts.calls k _ _ l0_2 _ _ l1_2 false _ ?side1 ?side2 ?side3 ?side4 A7.out).mono ?_);(case side1 => repeat (first|exact (Kd.C_below HR0_2.out (by repeat (first|(with_reducible first|exact HB.out|apply below_alloc|apply pw_below_drewN|apply below_drew1|refine below_set ?_ GE1075.out|refine below_set ?_ GE1076.out)|exact HB.out)))|(with_reducible refine Kd.C_alloc ?_ _)|(with_reducible refine Kd.C_drewN ?_ _)|(with_reducible refine Kd.C_drew ?_)));(case side2 => exact HC0_2.out);(case side3 => repeat (first|exact (Kd.C_below HR1_2.out (by repeat (first|(with_reducible first|exact HB.out|apply below_alloc|apply pw_below_drewN|apply below_drew1|refine below_set ?_ GE1075.out|refine below_set ?_ GE1076.out)|exact HB.out)))|(with_reducible refine Kd.C_alloc ?_ _)|(with_reducible refine Kd.C_drewN ?_ _)|(with_reducible refine Kd.C_drew ?_)));(case side4 => exact HC1_2.out);rintro e w' ⟨rfl,⟨nd,rfl⟩⟩))
    go_ret
    exact ⟨by first|rfl|(simp [errW_none,errW_some] <;> rfl)|(simp [*,errW_none,errW_some] <;> rfl),by repeat (first|(with_reducible first|exact HB.out|apply below_alloc|apply pw_below_drewN|apply below_drew1|refine below_set ?_ GE1075.out|refine below_set ?_ GE1076.out)|exact HB.out)⟩
  ·replace c6 := Bool.eq_false_iff.mpr c6
   subst c6
   have H1 : (some false) = some r := by rw [if_neg (show ¬ (false = true) by decide)] at H;exact H
   clear H
   have H := H1
   clear H1
   obtain rfl := Option.some.inj H
   go_enter Try.func48,Try.ntmps48
   go_wp2_with (first|((with_reducible refine gate_dst (N := 2) rfl ?_);refine box_event ?hg (N := 2) ?hd (cs := #[.slice A0_0 l0_0.length c0_0,.slice A0_1 l0_1.length c0_1,.slice A0_2 l0_2.length c0_2,.bool a0_3]) (t := 56) ?hr ?_;(case hd => rfl);(case hg => rfl);(case hr => first|(go_simp;done)|(go_simp;rfl));intro gb1075 hg w25 hbox hb;have n0_ := Aside0.mk (below_step (by repeat (first|(with_reducible first|exact HB.out|apply below_alloc|apply pw_below_drewN|apply below_drew1)|exact HB.out)) hb);have n1_ := Aside0.mk (hbox);have n2_ := Aside0.mk ((by rw [hg];exact (below_size (by repeat (first|(with_reducible first|exact HB.out|apply below_alloc|apply pw_below_drewN|apply below_drew1)|exact HB.out))) : w.heap.size ≤ gb1075));have n3_ := Aside0.mk ((by rw [hg];exact (below_size (by repeat (first|(with_reducible first|exact HB.out|apply below_alloc|apply pw_below_drewN|apply below_drew1)|exact HB.out))) : w.heap.size ≤ gb1075));clear HB;have HB := n0_;have BK1075 := n1_;have GW1075 := n2_;have GE1075 := n3_;clear n0_ n1_ n2_ n3_;clear hb hbox hg)|((with_reducible refine gate_dst (N := 3) rfl ?_);refine box_event ?hg (N := 3) ?hd (cs := #[.slice A1_0 l1_0.length c1_0,.slice A1_1 l1_1.length c1_1,.slice A1_2 l1_2.length c1_2,.bool a1_3]) (t := 56) ?hr ?_;(case hd => rfl);(case hg => rfl);(case hr => first|(go_simp;done)|(go_simp;rfl));intro gb1076 hg w26 hbox hb;have n0_ := Aside0.mk (blk_below (g := gb1075) (o := .cells #[.slice A0_0 l0_0.length c0_0,.slice A0_1 l0_1.length c0_1,.slice A0_2 l0_2.length c0_2,.bool a0_3] 56 (0,0)) (by (with_reducible repeat (first|refine blk_drewN ?_ _|refine blk_drew ?_|refine blk_alloc ?_ _));exact BK1075.out) hb);have n1_ := Aside0.mk (below_step (by repeat (first|(with_reducible first|exact HB.out|apply below_alloc|apply pw_below_drewN|apply below_drew1|refine below_set ?_ GE1075.out)|exact HB.out)) hb);have n2_ := Aside0.mk (hbox);have n3_ := Aside0.mk ((by rw [hg];exact (below_size (by repeat (first|(with_reducible first|exact HB.out|apply below_alloc|apply pw_below_drewN|apply below_drew1|refine below_set ?_ GE1075.out)|exact HB.out))) : w.heap.size ≤ gb1076));have n4_ := Aside0.mk ((by rw [hg];exact (below_size (by repeat (first|(with_reducible first|exact HB.out|apply below_alloc|apply pw_below_drewN|apply below_drew1|refine below_set ?_ GE1075.out)|exact HB.out))) : w.heap.size ≤ gb1076));have n5_ := Aside0.mk ((by rw [hg];exact Nat.ne_of_lt (blk_lt (g := gb1075) (o := .cells #[.slice A0_0 l0_0.length c0_0,.slice A0_1 l0_1.length c0_1,.slice A0_2 l0_2.length c0_2,.bool a0_3] 56 (0,0)) (by (with_reducible repeat (first|refine blk_drewN ?_ _|refine blk_drew ?_|refine blk_alloc ?_ _));exact BK1075.out)) : gb1075 ≠ gb1076));have n6_ := Aside0.mk ((by rw [hg];exact Nat.ne_of_gt (blk_lt (g := gb1075) (o := .cells #[.slice A0_0 l0_0.length c0_0,.slice A0_1 l0_1.length c0_1,.slice A0_2 l0_2.length c0_2,.bool a0_3] 56 (0,0)) (by (with_reducible repeat (first|refine blk_drewN ?_ _|refine blk_drew ?_|refine blk_alloc ?_ _));exact BK1075.out)) : gb1076 ≠ gb1075));clear BK1075;clear HB;have BK1075 := n0_;have HB := n1_;have BK1076 := n2_;have GW1076 := n3_;have GE1076 := n4_;have NB1075_1076 := n5_;have NB1076_1075 := n6_;clear n0_ n1_ n2_ n3_ n4_ n5_ n6_;clear hb hbox hg;have hnb27 := NB1075_1076.out;have hnc27 := NB1076_1075.out;have hcz28_0 : w26.cell? ⟨gb1075,0,none⟩ = some (.slice A0_0 l0_0.length c0_0) := (blk_cell BK1075.out 0).trans rfl;have hcz28_1 : w26.cell? ⟨gb1075,1,none⟩ = some (.slice A0_1 l0_1.length c0_1) := (blk_cell BK1075.out 1).trans rfl;have hcz28_2 : w26.cell? ⟨gb1075,2,none⟩ = some (.slice A0_2 l0_2.length c0_2) := (blk_cell BK1075.out 2).trans rfl;have hcz28_3 : w26.cell? ⟨gb1075,3,none⟩ = some (.bool a0_3) := (blk_cell BK1075.out 3).trans rfl;have hfz28_0 := blk_frozen BK1075.out 0;have hfz28_1 := blk_frozen BK1075.out 1;have hfz28_2 := blk_frozen BK1075.out 2;have hfz28_3 := blk_frozen BK1075.out 3;have hcz29_0 : w26.cell? ⟨gb1076,0,none⟩ = some (.slice A1_0 l1_0.length c1_0) := (blk_cell BK1076.out 0).trans rfl;have hcz29_1 : w26.cell? ⟨gb1076,1,none⟩ = some (.slice A1_1 l1_1.length c1_1) := (blk_cell BK1076.out 1).trans rfl;have hcz29_2 : w26.cell? ⟨gb1076,2,none⟩ = some (.slice A1_2 l1_2.length c1_2) := (blk_cell BK1076.out 2).trans rfl;have hcz29_3 : w26.cell? ⟨gb1076,3,none⟩ = some (.bool a1_3) := (blk_cell BK1076.out 3).trans rfl;have hfz29_0 := blk_frozen BK1076.out 0;have hfz29_1 := blk_frozen BK1076.out 1;have hfz29_2 := blk_frozen BK1076.out 2;have hfz29_3 := blk_frozen BK1076.out 3)|((with_reducible refine gate_callee (f := 83) rfl ?_);refine goesL_ (some 9) rfl rfl Try.func83 (by kernel_rfl) rfl #[.slice A0_0 l0_0.length c0_0,.slice A1_0 l1_0.length c1_0] rfl (by (try simp only [List.map_toArray,List.map_cons,List.map_nil]);first|done|rfl|(simp only [List.length_drop,List.length_take];rfl)) ?_;(with_reducible refine (laws_equalNodes.calls k _ _ l0_0 _ _ l1_0 true _ ?side1 ?side2 ?side3 ?side4 A3.out).mono ?_);(case side1 => repeat (first|exact (Kd.C_below HR0_0.out HB.out)|(with_reducible refine Kd.C_alloc ?_ _)|(with_reducible refine Kd.C_drewN ?_ _)|(with_reducible refine Kd.C_drew ?_)));(case side2 => exact HC0_0.out);(case side3 => repeat (first|exact (Kd.C_below HR1_0.out HB.out)|(with_reducible refine Kd.C_alloc ?_ _)|(with_reducible refine Kd.C_drewN ?_ _)|(with_reducible refine Kd.C_drew ?_)));(case side4 => exact HC1_0.out);rintro e w30 ⟨rfl,hb⟩;refine ⟨_,rfl,?_⟩;have n0_ := Aside0.mk (blk_below (g := gb1075) (o := .cells #[.slice A0_0 l0_0.length c0_0,.slice A0_1 l0_1.length c0_1,.slice A0_2 l0_2.length c0_2,.bool a0_3] 56 (0,0)) (by (with_reducible repeat (first|refine blk_drewN ?_ _|refine blk_drew ?_|refine blk_alloc ?_ _));exact BK1075.out) hb);have n1_ := Aside0.mk (blk_below (g := gb1076) (o := .cells #[.slice A1_0 l1_0.length c1_0,.slice A1_1 l1_1.length c1_1,.slice A1_2 l1_2.length c1_2,.bool a1_3] 56 (0,0)) (by (with_reducible repeat (first|refine blk_drewN ?_ _|refine blk_drew ?_|refine blk_alloc ?_ _));exact BK1076.out) hb);have n2_ := Aside0.mk (below_step (by repeat (first|(with_reducible first|exact HB.out|apply below_alloc|apply pw_below_drewN|apply below_drew1|refine below_set ?_ GE1075.out|refine below_set ?_ GE1076.out)|exact HB.out)) hb);clear BK1075;clear BK1076;clear HB;have BK1075 := n0_;have BK1076 := n1_;have HB := n2_;clear n0_ n1_ n2_;(try clear hb);(try clear hb2);(try clear hk);(try clear hi);have hcz31_0 : w30.cell? ⟨gb1075,0,none⟩ = some (.slice A0_0 l0_0.length c0_0) := (blk_cell BK1075.out 0).trans rfl;have hcz31_1 : w30.cell? ⟨gb1075,1,none⟩ = some (.slice A0_1 l0_1.length c0_1) := (blk_cell BK1075.out 1).trans rfl;have hcz31_2 : w30.cell? ⟨gb1075,2,none⟩ = some (.slice A0_2 l0_2.length c0_2) := (blk_cell BK1075.out 2).trans rfl;have hcz31_3 : w30.cell? ⟨gb1075,3,none⟩ = some (.bool a0_3) := (blk_cell BK1075.out 3).trans rfl;have hfz31_0 := blk_frozen BK1075.out 0;have hfz31_1 := blk_frozen BK1075.out 1;have hfz31_2 := blk_frozen BK1075.out 2;have hfz31_3 := blk_frozen BK1075.out 3;have hcz32_0 : w30.cell? ⟨gb1076,0,none⟩ = some (.slice A1_0 l1_0.length c1_0) := (blk_cell BK1076.out 0).trans rfl;have hcz32_1 : w30.cell? ⟨gb1076,1,none⟩ = some (.slice A1_1 l1_1.length c1_1) := (blk_cell BK1076.out 1).trans rfl;have hcz32_2 : w30.cell? ⟨gb1076,2,none⟩ = some (.slice A1_2 l1_2.length c1_2) := (blk_cell BK1076.out 2).trans rfl;have hcz32_3 : w30.cell? ⟨gb1076,3,none⟩ = some (.bool a1_3) := (blk_cell BK1076.out 3).trans rfl;have hfz32_0 := blk_frozen BK1076.out 0;have hfz32_1 := blk_frozen BK1076.out 1;have hfz32_2 := blk_frozen BK1076.out 2;have hfz32_3 := blk_frozen BK1076.out 3)|(go_at_call 84;(with_reducible refine (laws_equalInts.calls k _ _ l0_1 _ _ l1_1 false _ ?side1 ?side2 ?side3 ?side4 A5.out).mono ?_);(case side1 => repeat (first|exact (Kd.C_below HR0_1.out HB.out)|(with_reducible refine Kd.C_alloc ?_ _)|(with_reducible refine Kd.C_drewN ?_ _)|(with_reducible refine Kd.C_drew ?_)));(case side2 => exact HC0_1.out);(case side3 => repeat (first|exact (Kd.C_below HR1_1.out HB.out)|(with_reducible refine Kd.C_alloc ?_ _)|(with_reducible refine Kd.C_drewN ?_ _)|(with_reducible refine Kd.C_drew ?_)));(case side4 => exact HC1_1.out);rintro e w' ⟨rfl,⟨nd,rfl⟩⟩))
   go_ret
   exact ⟨by first|rfl|(simp [errW_none,errW_some] <;> rfl)|(simp [*,errW_none,errW_some] <;> rfl),by repeat (first|(with_reducible first|exact HB.out|apply below_alloc|apply pw_below_drewN|apply below_drew1|refine below_set ?_ GE1075.out|refine below_set ?_ GE1076.out)|exact HB.out)⟩
 ·replace c4 := Bool.eq_false_iff.mpr c4
  subst c4
  have H1 : (some false) = some r := by rw [if_neg (show ¬ (false = true) by decide)] at H;exact H
  clear H
  have H := H1
  clear H1
  obtain rfl := Option.some.inj H
  go_enter Try.func48,Try.ntmps48
  go_wp2_with (first|((with_reducible refine gate_dst (N := 2) rfl ?_);refine box_event ?hg (N := 2) ?hd (cs := #[.slice A0_0 l0_0.length c0_0,.slice A0_1 l0_1.length c0_1,.slice A0_2 l0_2.length c0_2,.bool a0_3]) (t := 56) ?hr ?_;(case hd => rfl);(case hg => rfl);(case hr => first|(go_simp;done)|(go_simp;rfl));intro gb1075 hg w33 hbox hb;have n0_ := Aside0.mk (below_step (by repeat (first|(with_reducible first|exact HB.out|apply below_alloc|apply pw_below_drewN|apply below_drew1)|exact HB.out)) hb);have n1_ := Aside0.mk (hbox);have n2_ := Aside0.mk ((by rw [hg];exact (below_size (by repeat (first|(with_reducible first|exact HB.out|apply below_alloc|apply pw_below_drewN|apply below_drew1)|exact HB.out))) : w.heap.size ≤ gb1075));have n3_ := Aside0.mk ((by rw [hg];exact (below_size (by repeat (first|(with_reducible first|exact HB.out|apply below_alloc|apply pw_below_drewN|apply below_drew1)|exact HB.out))) : w.heap.size ≤ gb1075));clear HB;have HB := n0_;have BK1075 := n1_;have GW1075 := n2_;have GE1075 := n3_;clear n0_ n1_ n2_ n3_;clear hb hbox hg)|((with_reducible refine gate_dst (N := 3) rfl ?_);refine box_event ?hg (N := 3) ?hd (cs := #[.slice A1_0 l1_0.length c1_0,.slice A1_1 l1_1.length c1_1,.slice A1_2 l1_2.length c1_2,.bool a1_3]) (t := 56) ?hr ?_;(case hd => rfl);(case hg => rfl);(case hr => first|(go_simp;done)|(go_simp;rfl));intro gb1076 hg w34 hbox hb;have n0_ := Aside0.mk (blk_below (g := gb1075) (o := .cells #[.slice A0_0 l0_0.length c0_0,.slice A0_1 l0_1.length c0_1,.slice A0_2 l0_2.length c0_2,.bool a0_3] 56 (0,0)) (by (with_reducible repeat (first|refine blk_drewN ?_ _|refine blk_drew ?_|refine blk_alloc ?_ _));exact BK1075.out) hb);have n1_ := Aside0.mk (below_step (by repeat (first|(with_reducible first|exact HB.out|apply below_alloc|apply pw_below_drewN|apply below_drew1|refine below_set ?_ GE1075.out)|exact HB.out)) hb);have n2_ := Aside0.mk (hbox);have n3_ := Aside0.mk ((by rw [hg];exact (below_size (by repeat (first|(with_reducible first|exact HB.out|apply below_alloc|apply pw_below_drewN|apply below_drew1|refine below_set ?_ GE1075.out)|exact HB.out))) : w.heap.size ≤ gb1076));have n4_ := Aside0.mk ((by rw [hg];exact (below_size (by repeat (first|(with_reducible first|exact HB.out|apply below_alloc|apply pw_below_drewN|apply below_drew1|refine below_set ?_ GE1075.out)|exact HB.out))) : w.heap.size ≤ gb1076));have n5_ := Aside0.mk ((by rw [hg];exact Nat.ne_of_lt (blk_lt (g := gb1075) (o := .cells #[.slice A0_0 l0_0.length c0_0,.slice A0_1 l0_1.length c0_1,.slice A0_2 l0_2.length c0_2,.bool a0_3] 56 (0,0)) (by (with_reducible repeat (first|refine blk_drewN ?_ _|refine blk_drew ?_|refine blk_alloc ?_ _));exact BK1075.out)) : gb1075 ≠ gb1076));have n6_ := Aside0.mk ((by rw [hg];exact Nat.ne_of_gt (blk_lt (g := gb1075) (o := .cells #[.slice A0_0 l0_0.length c0_0,.slice A0_1 l0_1.length c0_1,.slice A0_2 l0_2.length c0_2,.bool a0_3] 56 (0,0)) (by (with_reducible repeat (first|refine blk_drewN ?_ _|refine blk_drew ?_|refine blk_alloc ?_ _));exact BK1075.out)) : gb1076 ≠ gb1075));clear BK1075;clear HB;have BK1075 := n0_;have HB := n1_;have BK1076 := n2_;have GW1076 := n3_;have GE1076 := n4_;have NB1075_1076 := n5_;have NB1076_1075 := n6_;clear n0_ n1_ n2_ n3_ n4_ n5_ n6_;clear hb hbox hg;have hnb35 := NB1075_1076.out;have hnc35 := NB1076_1075.out;have hcz36_0 : w34.cell? ⟨gb1075,0,none⟩ = some (.slice A0_0 l0_0.length c0_0) := (blk_cell BK1075.out 0).trans rfl;have hcz36_1 : w34.cell? ⟨gb1075,1,none⟩ = some (.slice A0_1 l0_1.length c0_1) := (blk_cell BK1075.out 1).trans rfl;have hcz36_2 : w34.cell? ⟨gb1075,2,none⟩ = some (.slice A0_2 l0_2.length c0_2) := (blk_cell BK1075.out 2).trans rfl;have hcz36_3 : w34.cell? ⟨gb1075,3,none⟩ = some (.bool a0_3) := (blk_cell BK1075.out 3).trans rfl;have hfz36_0 := blk_frozen BK1075.out 0;have hfz36_1 := blk_frozen BK1075.out 1;have hfz36_2 := blk_frozen BK1075.out 2;have hfz36_3 := blk_frozen BK1075.out 3;have hcz37_0 : w34.cell? ⟨gb1076,0,none⟩ = some (.slice A1_0 l1_0.length c1_0) := (blk_cell BK1076.out 0).trans rfl;have hcz37_1 : w34.cell? ⟨gb1076,1,none⟩ = some (.slice A1_1 l1_1.length c1_1) := (blk_cell BK1076.out 1).trans rfl;have hcz37_2 : w34.cell? ⟨gb1076,2,none⟩ = some (.slice A1_2 l1_2.length c1_2) := (blk_cell BK1076.out 2).trans rfl;have hcz37_3 : w34.cell? ⟨gb1076,3,none⟩ = some (.bool a1_3) := (blk_cell BK1076.out 3).trans rfl;have hfz37_0 := blk_frozen BK1076.out 0;have hfz37_1 := blk_frozen BK1076.out 1;have hfz37_2 := blk_frozen BK1076.out 2;have hfz37_3 := blk_frozen BK1076.out 3)|((with_reducible refine gate_callee (f := 83) rfl ?_);refine goesL_ (some 9) rfl rfl Try.func83 (by kernel_rfl) rfl #[.slice A0_0 l0_0.length c0_0,.slice A1_0 l1_0.length c1_0] rfl (by (try simp only [List.map_toArray,List.map_cons,List.map_nil]);first|done|rfl|(simp only [List.length_drop,List.length_take];rfl)) ?_;(with_reducible refine (laws_equalNodes.calls k _ _ l0_0 _ _ l1_0 false _ ?side1 ?side2 ?side3 ?side4 A3.out).mono ?_);(case side1 => repeat (first|exact (Kd.C_below HR0_0.out HB.out)|(with_reducible refine Kd.C_alloc ?_ _)|(with_reducible refine Kd.C_drewN ?_ _)|(with_reducible refine Kd.C_drew ?_)));(case side2 => exact HC0_0.out);(case side3 => repeat (first|exact (Kd.C_below HR1_0.out HB.out)|(with_reducible refine Kd.C_alloc ?_ _)|(with_reducible refine Kd.C_drewN ?_ _)|(with_reducible refine Kd.C_drew ?_)));(case side4 => exact HC1_0.out);rintro e w38 ⟨rfl,hb⟩;refine ⟨_,rfl,?_⟩;have n0_ := Aside0.mk (blk_below (g := gb1075) (o := .cells #[.slice A0_0 l0_0.length c0_0,.slice A0_1 l0_1.length c0_1,.slice A0_2 l0_2.length c0_2,.bool a0_3] 56 (0,0)) (by (with_reducible repeat (first|refine blk_drewN ?_ _|refine blk_drew ?_|refine blk_alloc ?_ _));exact BK1075.out) hb);have n1_ := Aside0.mk (blk_below (g := gb1076) (o := .cells #[.slice A1_0 l1_0.length c1_0,.slice A1_1 l1_1.length c1_1,.slice A1_2 l1_2.length c1_2,.bool a1_3] 56 (0,0)) (by (with_reducible repeat (first|refine blk_drewN ?_ _|refine blk_drew ?_|refine blk_alloc ?_ _));exact BK1076.out) hb);have n2_ := Aside0.mk (below_step (by repeat (first|(with_reducible first|exact HB.out|apply below_alloc|apply pw_below_drewN|apply below_drew1|refine below_set ?_ GE1075.out|refine below_set ?_ GE1076.out)|exact HB.out)) hb);clear BK1075;clear BK1076;clear HB;have BK1075 := n0_;have BK1076 := n1_;have HB := n2_;clear n0_ n1_ n2_;(try clear hb);(try clear hb2);(try clear hk);(try clear hi)))
  go_ret
  exact ⟨by first|rfl|(simp [errW_none,errW_some] <;> rfl)|(simp [*,errW_none,errW_some] <;> rfl),by repeat (first|(with_reducible first|exact HB.out|apply below_alloc|apply pw_below_drewN|apply below_drew1|refine below_set ?_ GE1075.out|refine below_set ?_ GE1076.out)|exact HB.out)⟩

/-- A state of type 56 at block g of W;what its slices lead to came in by w0. -/
def IsS56 (w0 W : World) (g : Nat) (f0 : List (S88)) (f1 : List Int) (f2 : List Int) (f3 : Bool) : Prop := ∃ A0 c0,∃ A1 c1,∃ A2 c2,W.heap[g]? = some (.cells #[.slice A0 f0.length c0,.slice A1 f1.length c1,.slice A2 f2.length c2,.bool f3] 56 (0,0)) ∧ w0.heap.size ≤ g ∧ Kd.C k88 w0 A0 f0.length f0 ∧ Kd.C (Kd.int .i64) w0 A1 f1.length f1 ∧ Kd.C (Kd.int .i64) w0 A2 f2.length f2
theorem IsS56.grown {w0 W : World} {g : Nat} {f0 : List (S88)} {f1 : List Int} {f2 : List Int} {f3 : Bool} {W1 : World} {row : Option Nat} (h : IsS56 w0 W g f0 f1 f2 f3) (hw : W.grownBy W1 row) (hne : some g ≠ row) : IsS56 w0 W1 g f0 f1 f2 f3 := by
 obtain ⟨A0,c0,A1,c1,A2,c2,hb,hg,hr0,hr1,hr2⟩ := h
 exact ⟨A0,c0,A1,c1,A2,c2,blk_grown hb hw hne,hg,hr0,hr1,hr2⟩
theorem IsS56.own_neN {w0 W : World} {g : Nat} {f0 : List (S88)} {f1 : List Int} {f2 : List Int} {f3 : Bool} {α : Type} {d : Kd α} {e : Nat} {base : Nat} {ok : Nat → Prop} {v : Value} {xs : List α} (h : IsS56 w0 W g f0 f1 f2 f3) (ho : Kd.N d e W base ok v xs) (ht : e ≠ 56) : some g ≠ v.ownBlock := by
 obtain ⟨A0,c0,A1,c1,A2,c2,hb,hg,hr0,hr1,hr2⟩ := h
 exact Kd.N_ne ho hb ht
theorem IsS56.fresh {w0 W : World} {g : Nat} {f0 : List (S88)} {f1 : List Int} {f2 : List Int} {f3 : Bool} (h : IsS56 w0 W g f0 f1 f2 f3) : ∀ k,W.heap.size ≤ k → k ≠ g := by
 obtain ⟨A0,c0,A1,c1,A2,c2,hb,hg,hr0,hr1,hr2⟩ := h
 exact Kd.freshB hb
theorem IsS56.kept {w0 W : World} {g : Nat} {f0 : List (S88)} {f1 : List Int} {f2 : List Int} {f3 : Bool} {W1 : World} {S : Nat → Prop} (h : IsS56 w0 W g f0 f1 f2 f3) (hk : Kept W W1 S) (hne : ¬ S g) : IsS56 w0 W1 g f0 f1 f2 f3 := by
 obtain ⟨A0,c0,A1,c1,A2,c2,hb,hg,hr0,hr1,hr2⟩ := h
 exact ⟨A0,c0,A1,c1,A2,c2,blk_kept hb hk hne,hg,hr0,hr1,hr2⟩
theorem IsS56.below {w0 W : World} {g : Nat} {f0 : List (S88)} {f1 : List Int} {f2 : List Int} {f3 : Bool} {W1 : World} (h : IsS56 w0 W g f0 f1 f2 f3) (hw : Below W.heap.size W W1) : IsS56 w0 W1 g f0 f1 f2 f3 := h.grown (grown_of_below hw none) (by simp)
theorem IsS56.alloc {w0 W : World} {g : Nat} {f0 : List (S88)} {f1 : List Int} {f2 : List Int} {f3 : Bool} (h : IsS56 w0 W g f0 f1 f2 f3) (o : Obj) : IsS56 w0 (W.alloc o) g f0 f1 f2 f3 := h.below (below_alloc (Below.refl _ _) o)
theorem IsS56.drewN {w0 W : World} {g : Nat} {f0 : List (S88)} {f1 : List Int} {f2 : List Int} {f3 : Bool} (h : IsS56 w0 W g f0 f1 f2 f3) (m : Nat) : IsS56 w0 (W.drewN m) g f0 f1 f2 f3 := h
theorem IsS56.drew {w0 W : World} {g : Nat} {f0 : List (S88)} {f1 : List Int} {f2 : List Int} {f3 : Bool} (h : IsS56 w0 W g f0 f1 f2 f3) : IsS56 w0 W.drew g f0 f1 f2 f3 := h
theorem IsS56.at_ {w0 W : World} {g : Nat} {f0 : List (S88)} {f1 : List Int} {f2 : List Int} {f3 : Bool} {w' : World} {m : Nat} (hq : W.drewN m = w') (h : IsS56 w0 W g f0 f1 f2 f3) : IsS56 w0 w' g f0 f1 f2 f3 := by subst hq;exact IsS56.drewN h m
theorem IsS56.apart {w0 W : World} {g : Nat} {f0 : List (S88)} {f1 : List Int} {f2 : List Int} {f3 : Bool} {α : Type} {d : Kd α} {e : Nat} {base : Nat} {ok : Nat → Prop} {v : Value} {xs : List α} (h : IsS56 w0 W g f0 f1 f2 f3) (ho : d.R e W base ok v xs) (ht : ∀ q,q ∈ e :: d.E → q ≠ 56) : d.R e W base (fun k => ok k ∧ k ≠ g) v xs := by
 obtain ⟨A0,c0,A1,c1,A2,c2,hb,hg,hr0,hr1,hr2⟩ := h
 exact Kd.R_types ho hb ht
theorem IsS56.own_ne {w0 W : World} {g : Nat} {f0 : List (S88)} {f1 : List Int} {f2 : List Int} {f3 : Bool} {α : Type} {d : Kd α} {e : Nat} {base : Nat} {ok : Nat → Prop} {v : Value} {xs : List α} (h : IsS56 w0 W g f0 f1 f2 f3) (ho : d.R e W base ok v xs) (ht : e ≠ 56) : some g ≠ v.ownBlock := by
 obtain ⟨A0,c0,A1,c1,A2,c2,hb,hg,hr0,hr1,hr2⟩ := h
 exact Kd.R_ne ho hb ht
theorem IsS56.apartQ {w0 W : World} {g : Nat} {f0 : List (S88)} {f1 : List Int} {f2 : List Int} {f3 : Bool} {α : Type} {d : Kd α} {e : Nat} {base : Nat} {ok : Nat → Prop} {v : Value} {xs : List α} (h : IsS56 w0 W g f0 f1 f2 f3) (ho : d.Q e W base ok v xs) (ht : ∀ q,q ∈ e :: d.E → q ≠ 56) : d.Q e W base (fun k => ok k ∧ k ≠ g) v xs := by
 obtain ⟨A0,c0,A1,c1,A2,c2,hb,hg,hr0,hr1,hr2⟩ := h
 exact Kd.Q_types ho hb ht
theorem IsS56.own_neQ {w0 W : World} {g : Nat} {f0 : List (S88)} {f1 : List Int} {f2 : List Int} {f3 : Bool} {α : Type} {d : Kd α} {e : Nat} {base : Nat} {ok : Nat → Prop} {v : Value} {xs : List α} (h : IsS56 w0 W g f0 f1 f2 f3) (ho : d.Q e W base ok v xs) (ht : e ≠ 56) : some g ≠ v.ownBlock := by
 obtain ⟨A0,c0,A1,c1,A2,c2,hb,hg,hr0,hr1,hr2⟩ := h
 exact Kd.Q_ne ho hb ht
theorem IsS56.apartS {w0 W : World} {g : Nat} {f0 : List (S88)} {f1 : List Int} {f2 : List Int} {f3 : Bool} {α : Type} {d : Kd α} {e : Nat} {base : Nat} {ok : Nat → Prop} {v : Value} {xs : List α} (h : IsS56 w0 W g f0 f1 f2 f3) (ho : d.S e W base ok v xs) (ht : ∀ q,q ∈ e :: d.E → q ≠ 56) : d.S e W base (fun k => ok k ∧ k ≠ g) v xs := by
 obtain ⟨A0,c0,A1,c1,A2,c2,hb,hg,hr0,hr1,hr2⟩ := h
 exact Kd.S_types ho hb ht
theorem IsS56.own_neS {w0 W : World} {g : Nat} {f0 : List (S88)} {f1 : List Int} {f2 : List Int} {f3 : Bool} {α : Type} {d : Kd α} {e : Nat} {base : Nat} {ok : Nat → Prop} {v : Value} {xs : List α} (h : IsS56 w0 W g f0 f1 f2 f3) (ho : d.S e W base ok v xs) (ht : e ≠ 56) : some g ≠ v.ownBlock := by
 obtain ⟨A0,c0,A1,c1,A2,c2,hb,hg,hr0,hr1,hr2⟩ := h
 exact Kd.S_ne ho hb ht
theorem IsS56.lt {w0 W : World} {g : Nat} {f0 : List (S88)} {f1 : List Int} {f2 : List Int} {f3 : Bool} (h : IsS56 w0 W g f0 f1 f2 f3) : g < W.heap.size := by
 obtain ⟨A0,c0,A1,c1,A2,c2,hb,hg,hr0,hr1,hr2⟩ := h
 exact blk_lt hb
theorem IsS56.ge {w0 W : World} {g : Nat} {f0 : List (S88)} {f1 : List Int} {f2 : List Int} {f3 : Bool} (h : IsS56 w0 W g f0 f1 f2 f3) : w0.heap.size ≤ g := by
 obtain ⟨A0,c0,A1,c1,A2,c2,hb,hg,hr0,hr1,hr2⟩ := h
 exact hg
theorem IsS56.ne_blk {w0 W : World} {g : Nat} {f0 : List (S88)} {f1 : List Int} {f2 : List Int} {f3 : Bool} {a : Nat} {cs : Array Value} {t : TypeId} {fr : Nat × Nat} (h : IsS56 w0 W g f0 f1 f2 f3) (hb2 : W.heap[a]? = some (.cells cs t fr)) (ht : t ≠ 56) : g ≠ a := by
 obtain ⟨A0,c0,A1,c1,A2,c2,hb,hg,hr0,hr1,hr2⟩ := h
 rintro rfl
 rw [hb] at hb2
 injection hb2 with hb2
 injection hb2 with _ ht2
 exact ht ht2.symm
theorem IsS56.far {w0 W : World} {g : Nat} {f0 : List (S88)} {f1 : List Int} {f2 : List Int} {f3 : Bool} {p : Addr} (h : IsS56 w0 W g f0 f1 f2 f3) (hne : g ≠ p.block) (u : Value) : IsS56 w0 (W.setCell p u) g f0 f1 f2 f3 := by
 obtain ⟨A0,c0,A1,c1,A2,c2,hb,hg,hr0,hr1,hr2⟩ := h
 exact ⟨A0,c0,A1,c1,A2,c2,blk_far hb hne u,hg,hr0,hr1,hr2⟩
theorem cellS56_0 {W : World} {g : Nat} {A0 : Option Addr} {c0 : Nat} {A1 : Option Addr} {c1 : Nat} {A2 : Option Addr} {c2 : Nat} {f0 : List (S88)} {f1 : List Int} {f2 : List Int} {f3 : Bool} (h : W.heap[g]? = some (.cells #[.slice A0 f0.length c0,.slice A1 f1.length c1,.slice A2 f2.length c2,.bool f3] 56 (0,0))) : W.cell? ⟨g,0,none⟩ = some (.slice A0 f0.length c0) := (blk_cell h 0).trans rfl
theorem cellS56_1 {W : World} {g : Nat} {A0 : Option Addr} {c0 : Nat} {A1 : Option Addr} {c1 : Nat} {A2 : Option Addr} {c2 : Nat} {f0 : List (S88)} {f1 : List Int} {f2 : List Int} {f3 : Bool} (h : W.heap[g]? = some (.cells #[.slice A0 f0.length c0,.slice A1 f1.length c1,.slice A2 f2.length c2,.bool f3] 56 (0,0))) : W.cell? ⟨g,1,none⟩ = some (.slice A1 f1.length c1) := (blk_cell h 1).trans rfl
theorem cellS56_2 {W : World} {g : Nat} {A0 : Option Addr} {c0 : Nat} {A1 : Option Addr} {c1 : Nat} {A2 : Option Addr} {c2 : Nat} {f0 : List (S88)} {f1 : List Int} {f2 : List Int} {f3 : Bool} (h : W.heap[g]? = some (.cells #[.slice A0 f0.length c0,.slice A1 f1.length c1,.slice A2 f2.length c2,.bool f3] 56 (0,0))) : W.cell? ⟨g,2,none⟩ = some (.slice A2 f2.length c2) := (blk_cell h 2).trans rfl
theorem cellS56_3 {W : World} {g : Nat} {A0 : Option Addr} {c0 : Nat} {A1 : Option Addr} {c1 : Nat} {A2 : Option Addr} {c2 : Nat} {f0 : List (S88)} {f1 : List Int} {f2 : List Int} {f3 : Bool} (h : W.heap[g]? = some (.cells #[.slice A0 f0.length c0,.slice A1 f1.length c1,.slice A2 f2.length c2,.bool f3] 56 (0,0))) : W.cell? ⟨g,3,none⟩ = some (.bool f3) := (blk_cell h 3).trans rfl
theorem IsS56.set_3 {w0 W : World} {g : Nat} {f0 : List (S88)} {f1 : List Int} {f2 : List Int} {f3 : Bool} (h : IsS56 w0 W g f0 f1 f2 f3) (x : Bool) : IsS56 w0 (W.setCell ⟨g,3,none⟩ (.bool x)) g f0 f1 f2 x := by
 obtain ⟨A0,c0,A1,c1,A2,c2,hb,hg,hr0,hr1,hr2⟩ := h
 exact ⟨A0,c0,A1,c1,A2,c2,by simpa using blk_set hb 3 (.bool x),hg,hr0,hr1,hr2⟩
theorem IsS56.new (w0 W : World) (A0 : Option Addr) (c0 : Nat) (A1 : Option Addr) (c1 : Nat) (A2 : Option Addr) (c2 : Nat) (f0 : List (S88)) (f1 : List Int) (f2 : List Int) (f3 : Bool) (hB : Below w0.heap.size w0 W) (hr0 : Kd.C k88 w0 A0 f0.length f0) (hr1 : Kd.C (Kd.int .i64) w0 A1 f1.length f1) (hr2 : Kd.C (Kd.int .i64) w0 A2 f2.length f2) : IsS56 w0 (W.alloc (.cells #[.slice A0 f0.length c0,.slice A1 f1.length c1,.slice A2 f2.length c2,.bool f3] 56)) W.heap.size f0 f1 f2 f3 := ⟨A0,c0,A1,c1,A2,c2,by simpa using heap_alloc_new W _,hB.size,hr0,hr1,hr2⟩

/-! ### impl_Machine_nodes: function 130 -/
def impl_Machine_nodes.l0 : Nat → Int → List (S88) → List Int → List Int → Bool → Option (Int × Bool)
 | 0,_,_,_,_,_ => none
 | k + 1,x3,x1000,x1001,x1002,x1003 => if x3 < (x1001.length : Int) then (if 0 ≤ (wrap64 ((wrap64 ((x1001.length : Int) - 1)) - x3)) then (if (wrap64 ((wrap64 ((x1001.length : Int) - 1)) - x3)) < (x1001.length : Int) then (if (rd x1001 (wrap64 ((wrap64 ((x1001.length : Int) - 1)) - x3))) ≥ 0 then (impl_Machine_nodes.l0 k (wrap64 (x3 + 1)) x1000 x1001 x1002 x1003) else (some (x3,x1003))) else (none)) else (none)) else (some (x3,x1003))
def impl_Machine_nodes.f (k : Nat) (s0_0 : List (S88)) (s0_1 : List Int) (s0_2 : List Int) (s0_3 : Bool) : Option (Int × Bool) := impl_Machine_nodes.l0 k 0 s0_0 s0_1 s0_2 s0_3
set_option maxRecDepth 100000 in
theorem impl_Machine_nodes.mono_l : ∀ k,(∀ y0 y1 y2 y3 y4,LeO (impl_Machine_nodes.l0 k y0 y1 y2 y3 y4) (impl_Machine_nodes.l0 (k + 1) y0 y1 y2 y3 y4))
 | 0 => fun _ _ _ _ _ r h => (by cases h)
 | k + 1 => by
  have ih0 := impl_Machine_nodes.mono_l k
  ·intro y0 y1 y2 y3 y4
   unfold impl_Machine_nodes.l0
   repeat' first
   | (with_reducible exact ih0 _ _ _ _ _)
   | (with_reducible exact LeO.refl _)
   | (with_reducible exact LeO.none _)
   | (with_reducible refine LeO.ite ?_ ?_)
   | (with_reducible refine LeO.bind ?_ (fun _ => ?_))
   | exact ih0 _ _ _ _ _
   | exact LeO.none _
   | refine LeO.ite ?_ ?_
   | refine LeO.bind ?_ (fun _ => ?_)
set_option maxRecDepth 100000 in
theorem impl_Machine_nodes.mono : ∀ a0 a1 a2 a3 k,LeO (impl_Machine_nodes.f k a0 a1 a2 a3) (impl_Machine_nodes.f (k + 1) a0 a1 a2 a3) := by
 intro a0 a1 a2 a3 k
 have ih0 := impl_Machine_nodes.mono_l k
 unfold impl_Machine_nodes.f
 repeat' first
   | (with_reducible exact ih0 _ _ _ _ _)
   | (with_reducible exact LeO.refl _)
   | (with_reducible exact LeO.none _)
   | (with_reducible refine LeO.ite ?_ ?_)
   | (with_reducible refine LeO.bind ?_ (fun _ => ?_))
   | exact ih0 _ _ _ _ _
   | exact LeO.none _
   | refine LeO.ite ?_ ?_
   | refine LeO.bind ?_ (fun _ => ?_)
set_option maxHeartbeats 8000000 in
set_option maxRecDepth 100000 in
theorem impl_Machine_nodes.calls (k : Nat) (g : Nat) (s0_0 : List (S88)) (s0_1 : List Int) (s0_2 : List Int) (s0_3 : Bool) (r1 : Int) (r2 : Bool) (w0 w : World) (hI : IsS56 w0 w g s0_0 s0_1 s0_2 s0_3) (hB : Below w0.heap.size w0 w) (h : impl_Machine_nodes.f k s0_0 s0_1 s0_2 s0_3 = some (r1,r2)) :
  Calls Try.prog 130 #[.pointer (some ⟨g,0,none⟩)] w fun e w' => e = .returned (.int .i64 r1) ∧ IsS56 w0 w' g s0_0 s0_1 s0_2 r2 ∧ Below w0.heap.size w0 w' ∧ KeepBut w w' g none := by
 have HI0 := Aside0.mk hI
 have HK := Aside0.mk (KeepBut.refl w g none)
 have HL := Aside0.mk hB.size
 clear hI
 have HW0 := Aside0.mk hB.size
 have HB := Aside0.mk hB
 clear hB
 have H : (impl_Machine_nodes.l0 k 0 s0_0 s0_1 s0_2 s0_3) = some (r1,r2) := h
 clear h
 have H' := Aside0.mk H
 clear H
 go_enter Try.func130,Try.ntmps130
 go_wp2
 repeat (go_quiet (fail);try go_wp2)
 go_loopg [3] k (fun kq v3 w' => ∃ (x3_1 : Int),v3 = .int .i64 x3_1 ∧ Aside0 (impl_Machine_nodes.l0 kq x3_1 s0_0 s0_1 s0_2 s0_3 = some (r1,r2)) ∧ Aside0 (kq ≤ k) ∧ Aside0 (IsS56 w0 w' g s0_0 s0_1 s0_2 s0_3) ∧ Aside0 (KeepBut w w' g none) ∧ Aside0 (Below w0.heap.size w0 w'))
 case atStart => exact ⟨(0),(by first|rfl|(simp;done)|(simp [*];done)),H',⟨Nat.le_refl _⟩,⟨by repeat (first|(with_reducible first|exact HI0.out|apply IsS56.alloc|apply IsS56.drewN|apply IsS56.drew|apply IsS56.set_3)|exact HI0.out)⟩,⟨by repeat (first|(with_reducible first|exact HK.out|apply KeepBut.set_|apply keep_drewN|apply keep_drew|apply keep_alloc)|exact HK.out)⟩,⟨by repeat (first|(with_reducible first|exact HB.out|apply below_alloc|apply pw_below_drewN|apply below_drew1|refine below_set ?_ (IsS56.ge HI0.out))|exact HB.out)⟩⟩
 case round =>
  clear H'
  try clear c1
  obtain ⟨x3_1,rfl,HA,HK1,HI0,HK,HB⟩ := hrel
  cases gk with
  | zero => exact absurd HA.out (fun h_ => (by cases h_))
  | succ k1 =>
   have H := HA.out
   clear HA
   simp only [impl_Machine_nodes.l0] at H
   by_cases c2 : x3_1 < (s0_1.length : Int)
   ·rw [if_pos c2] at H
    have c2b0 : decide (x3_1 < (s0_1.length : Int)) = true := decide_eq_true c2
    clear c2
    obtain ⟨ji3,hji3⟩ : ∃ j_ : Int,(wrap64 ((wrap64 ((s0_1.length : Int) - 1)) - x3_1)) = j_ := ⟨_,rfl⟩
    replace H : (if 0 ≤ (ji3) then (if (ji3) < (s0_1.length : Int) then (if (rd s0_1 (ji3)) ≥ 0 then (impl_Machine_nodes.l0 k1 (wrap64 (x3_1 + 1)) s0_0 s0_1 s0_2 s0_3) else (some (x3_1,s0_3))) else (none)) else (none)) = some (r1,r2) := by first|(rw [hji3] at H;exact H)|(simp only [hji3] at H ⊢;exact H)
    have hji3w : (IntKind.i64.wrap ((wrap64 ((s0_1.length : Int) - 1)) - x3_1)) = ji3 := (i64_w _).trans hji3
    by_cases c4 : 0 ≤ (ji3)
    ·rw [if_pos c4] at H
     have c4b0 : decide (0 ≤ (ji3)) = true := decide_eq_true c4
     clear c4
     by_cases c5 : (ji3) < (s0_1.length : Int)
     ·rw [if_pos c5] at H
      have c5b0 : decide ((ji3) < (s0_1.length : Int)) = true := decide_eq_true c5
      clear c5
      by_cases c6 : (rd s0_1 (ji3)) ≥ 0
      ·rw [if_pos c6] at H
       have c6b0 : decide (0 ≤ (rd s0_1 (ji3))) = true := decide_eq_true c6
       clear c6
       have H' := Aside0.mk H
       clear H
       obtain ⟨ASz7_0,cSz7_0,ASz7_1,cSz7_1,ASz7_2,cSz7_2,HGz7,hgz7,HSz7_0,HSz7_1,HSz7_2⟩ := HI0.out
       have hcz7_0 := cellS56_0 HGz7
       have hcz7_1 := cellS56_1 HGz7
       have hcz7_2 := cellS56_2 HGz7
       have hcz7_3 := cellS56_3 HGz7
       have hfz7_3 := blk_frozen HGz7 3
       clear HGz7 hgz7
       have p1080 : 0 ≤ ((ji3) : Int) := of_decide_eq_true (by first|(with_reducible assumption)|assumption)
       have q1080 : (ji3) < (s0_1.length : Int) := of_decide_eq_true (by first|(with_reducible assumption)|assumption)
       obtain ⟨ad1080,e1080,hx1080_0⟩ := Kd.at_int HSz7_1 (ji3) p1080 q1080
       cases e1080
       replace hx1080_0 := pw_cell_below HB.out hx1080_0
       replace p1080 := eq_true p1080
       replace q1080 := eq_true q1080
       go_wp2
       repeat (go_quiet (fail);try go_wp2)
       go_roundg k1
       case measure => have := HK1.out;omega
       case rel => exact ⟨(wrap64 (x3_1 + 1)),(by first|rfl|(simp;done)|(simp [*];done)),H',⟨by have := HK1.out;omega⟩,⟨by repeat (first|(with_reducible first|exact HI0.out|apply IsS56.alloc|apply IsS56.drewN|apply IsS56.drew|apply IsS56.set_3)|exact HI0.out)⟩,⟨by repeat (first|(with_reducible first|exact HK.out|apply KeepBut.set_|apply keep_drewN|apply keep_drew|apply keep_alloc)|exact HK.out)⟩,⟨by repeat (first|(with_reducible first|exact HB.out|apply below_alloc|apply pw_below_drewN|apply below_drew1|refine below_set ?_ (IsS56.ge HI0.out))|exact HB.out)⟩⟩
      ·rw [if_neg c6] at H
       have c6b0 : decide (0 ≤ (rd s0_1 (ji3))) = false := decide_eq_false c6
       clear c6
       simp only [Option.some.injEq,Prod.mk.injEq] at H
       obtain ⟨rfl,rfl⟩ := H
       obtain ⟨ASz8_0,cSz8_0,ASz8_1,cSz8_1,ASz8_2,cSz8_2,HGz8,hgz8,HSz8_0,HSz8_1,HSz8_2⟩ := HI0.out
       have hcz8_0 := cellS56_0 HGz8
       have hcz8_1 := cellS56_1 HGz8
       have hcz8_2 := cellS56_2 HGz8
       have hcz8_3 := cellS56_3 HGz8
       have hfz8_3 := blk_frozen HGz8 3
       clear HGz8 hgz8
       have p1080 : 0 ≤ ((ji3) : Int) := of_decide_eq_true (by first|(with_reducible assumption)|assumption)
       have q1080 : (ji3) < (s0_1.length : Int) := of_decide_eq_true (by first|(with_reducible assumption)|assumption)
       obtain ⟨ad1080,e1080,hx1080_0⟩ := Kd.at_int HSz8_1 (ji3) p1080 q1080
       cases e1080
       replace hx1080_0 := pw_cell_below HB.out hx1080_0
       replace p1080 := eq_true p1080
       replace q1080 := eq_true q1080
       go_wp2
       repeat (go_quiet (fail);try go_wp2)
       go_ret
       exact ⟨by first|rfl|(simp [errW_none,errW_some] <;> rfl)|(simp only [← hji3];first|rfl|(simp [errW_none,errW_some] <;> rfl))|(simp [*,errW_none,errW_some] <;> rfl),by repeat (first|(with_reducible first|exact HI0.out|apply IsS56.alloc|apply IsS56.drewN|apply IsS56.drew|apply IsS56.set_3)|exact HI0.out),by repeat (first|(with_reducible first|exact HB.out|apply below_alloc|apply pw_below_drewN|apply below_drew1|refine below_set ?_ (IsS56.ge HI0.out))|exact HB.out),by repeat (first|(with_reducible first|exact HK.out|apply KeepBut.set_|apply keep_drewN|apply keep_drew|apply keep_alloc)|exact HK.out)⟩
     ·rw [if_neg c5] at H
      exact absurd H (by simp)
    ·rw [if_neg c4] at H
     exact absurd H (by simp)
   ·rw [if_neg c2] at H
    have c2b0 : decide (x3_1 < (s0_1.length : Int)) = false := decide_eq_false c2
    clear c2
    simp only [Option.some.injEq,Prod.mk.injEq] at H
    obtain ⟨rfl,rfl⟩ := H
    obtain ⟨ASz9_0,cSz9_0,ASz9_1,cSz9_1,ASz9_2,cSz9_2,HGz9,hgz9,HSz9_0,HSz9_1,HSz9_2⟩ := HI0.out
    have hcz9_0 := cellS56_0 HGz9
    have hcz9_1 := cellS56_1 HGz9
    have hcz9_2 := cellS56_2 HGz9
    have hcz9_3 := cellS56_3 HGz9
    have hfz9_3 := blk_frozen HGz9 3
    clear HGz9 hgz9
    go_wp2
    repeat (go_quiet (fail);try go_wp2)
    go_ret
    exact ⟨by first|rfl|(simp [errW_none,errW_some] <;> rfl)|(simp [*,errW_none,errW_some] <;> rfl),by repeat (first|(with_reducible first|exact HI0.out|apply IsS56.alloc|apply IsS56.drewN|apply IsS56.drew|apply IsS56.set_3)|exact HI0.out),by repeat (first|(with_reducible first|exact HB.out|apply below_alloc|apply pw_below_drewN|apply below_drew1|refine below_set ?_ (IsS56.ge HI0.out))|exact HB.out),by repeat (first|(with_reducible first|exact HK.out|apply KeepBut.set_|apply keep_drewN|apply keep_drew|apply keep_alloc)|exact HK.out)⟩

/-! ### impl_findKey: function 137 -/
def impl_findKey.l0 : Nat → List (S88) → List Int → Int → Int → Int → List Int → Option (Int)
 | 0,_,_,_,_,_,_ => none
 | k + 1,x0,x1,x7,x1087000,x1087001,x1087002 => if x7 < (x1.length : Int) then (if 0 ≤ x7 then (if 0 ≤ (rd x1 x7) then (if (rd x1 x7) < (x0.length : Int) then (if ((rd_T88 x0 (rd x1 x7)).f0) = x1087000 then (if ((rd_T88 x0 (rd x1 x7)).f1) = x1087001 then (some x7) else (impl_findKey.l0 k x0 x1 (wrap64 (x7 + 2)) x1087000 x1087001 x1087002)) else (impl_findKey.l0 k x0 x1 (wrap64 (x7 + 2)) x1087000 x1087001 x1087002)) else (none)) else (none)) else (none)) else (some (-1))
def impl_findKey.f (k : Nat) (l0 : List (S88)) (l1 : List Int) (a2_0 : Int) (a2_1 : Int) (l2_2 : List Int) : Option (Int) := impl_findKey.l0 k l0 l1 0 a2_0 a2_1 l2_2
set_option maxRecDepth 100000 in
theorem impl_findKey.mono_l : ∀ k,(∀ y0 y1 y2 y3 y4 y5,LeO (impl_findKey.l0 k y0 y1 y2 y3 y4 y5) (impl_findKey.l0 (k + 1) y0 y1 y2 y3 y4 y5))
 | 0 => fun _ _ _ _ _ _ r h => (by cases h)
 | k + 1 => by
  have ih0 := impl_findKey.mono_l k
  ·intro y0 y1 y2 y3 y4 y5
   unfold impl_findKey.l0
   repeat' first
   | (with_reducible exact ih0 _ _ _ _ _ _)
   | (with_reducible exact LeO.refl _)
   | (with_reducible exact LeO.none _)
   | (with_reducible refine LeO.ite ?_ ?_)
   | (with_reducible refine LeO.bind ?_ (fun _ => ?_))
   | exact ih0 _ _ _ _ _ _
   | exact LeO.none _
   | refine LeO.ite ?_ ?_
   | refine LeO.bind ?_ (fun _ => ?_)
set_option maxRecDepth 100000 in
theorem impl_findKey.mono : ∀ a0 a1 a2 a3 a4 k,LeO (impl_findKey.f k a0 a1 a2 a3 a4) (impl_findKey.f (k + 1) a0 a1 a2 a3 a4) := by
 intro a0 a1 a2 a3 a4 k
 have ih0 := impl_findKey.mono_l k
 unfold impl_findKey.f
 repeat' first
   | (with_reducible exact ih0 _ _ _ _ _ _)
   | (with_reducible exact LeO.refl _)
   | (with_reducible exact LeO.none _)
   | (with_reducible refine LeO.ite ?_ ?_)
   | (with_reducible refine LeO.bind ?_ (fun _ => ?_))
   | exact ih0 _ _ _ _ _ _
   | exact LeO.none _
   | refine LeO.ite ?_ ?_
   | refine LeO.bind ?_ (fun _ => ?_)
set_option maxHeartbeats 8000000 in
set_option maxRecDepth 100000 in
theorem impl_findKey.calls (k : Nat) (A0 : Option Addr) (c0 : Nat) (l0 : List (S88)) (A1 : Option Addr) (c1 : Nat) (l1 : List Int) (a2_0 : Int) (a2_1 : Int) (A2_2 : Option Addr) (c2_2 : Nat) (l2_2 : List Int) (r : Int) (w : World) (hr0 : Kd.C k88 w A0 l0.length l0) (hc0 : l0.length ≤ c0) (hr1 : Kd.C (Kd.int .i64) w A1 l1.length l1) (hc1 : l1.length ≤ c1) (hr2_2 : Kd.C (Kd.int .i64) w A2_2 l2_2.length l2_2) (hc2_2 : l2_2.length ≤ c2_2) (h : impl_findKey.f k l0 l1 a2_0 a2_1 l2_2 = some r) :
  Calls Try.prog 137 #[.slice A0 l0.length c0,.slice A1 l1.length c1,.agg #[.int .i64 a2_0,.int .i64 a2_1,.slice A2_2 l2_2.length c2_2]] w fun e w' => e = .returned (.int .i64 r) ∧ Below w.heap.size w w' := by
 have hu88 := Try.underlying88
 have HR0 := Aside0.mk hr0
 have HC0 := Aside0.mk hc0
 clear hr0 hc0
 have HR1 := Aside0.mk hr1
 have HC1 := Aside0.mk hc1
 clear hr1 hc1
 have HR2_2 := Aside0.mk hr2_2
 have HC2_2 := Aside0.mk hc2_2
 clear hr2_2 hc2_2
 have HB := Aside0.mk (Below.refl w.heap.size w)
 have H : (impl_findKey.l0 k l0 l1 0 a2_0 a2_1 l2_2) = some r := h
 clear h
 have H' := Aside0.mk H
 clear H
 go_enter Try.func137,Try.ntmps137
 go_wp2_with (first|((with_reducible refine gate_dst (N := 5) rfl ?_);refine box_event ?hg (N := 5) ?hd (cs := #[.int .i64 a2_0,.int .i64 a2_1,.slice A2_2 l2_2.length c2_2]) (t := 88) ?hr ?_;(case hd => rfl);(case hg => rfl);(case hr => first|(go_simp;done)|(go_simp;rfl));intro gb1086 hg w4 hbox hb;have n0_ := Aside0.mk (below_step (by repeat (first|(with_reducible first|exact HB.out|apply below_alloc|apply pw_below_drewN|apply below_drew1)|exact HB.out)) hb);have n1_ := Aside0.mk (hbox);have n2_ := Aside0.mk ((by rw [hg];exact (below_size (by repeat (first|(with_reducible first|exact HB.out|apply below_alloc|apply pw_below_drewN|apply below_drew1)|exact HB.out))) : w.heap.size ≤ gb1086));have n3_ := Aside0.mk ((by rw [hg];exact (below_size (by repeat (first|(with_reducible first|exact HB.out|apply below_alloc|apply pw_below_drewN|apply below_drew1)|exact HB.out))) : w.heap.size ≤ gb1086));clear HB;have HB := n0_;have BK1086 := n1_;have GW1086 := n2_;have GE1086 := n3_;clear n0_ n1_ n2_ n3_;clear hb hbox hg))
 go_loopg [7] k (fun kq v7 w' => ∃ (x7_1 : Int),v7 = .int .i64 x7_1 ∧ Aside0 (impl_findKey.l0 kq l0 l1 x7_1 a2_0 a2_1 l2_2 = some r) ∧ Aside0 (kq ≤ k) ∧ Aside0 (w'.heap[gb1086]? = some (.cells #[.int .i64 a2_0,.int .i64 a2_1,(.slice A2_2 l2_2.length c2_2)] 88 (0,0))) ∧ Aside0 (Below w.heap.size w w'))
 case atStart => exact ⟨(0),(by first|rfl|(simp;done)|(simp [*];done)),H',⟨Nat.le_refl _⟩,⟨by (with_reducible repeat (first|refine blk_drewN ?_ _|refine blk_drew ?_|refine blk_alloc ?_ _));exact BK1086.out⟩,⟨by repeat (first|(with_reducible first|exact HB.out|apply below_alloc|apply pw_below_drewN|apply below_drew1|refine below_set ?_ GE1086.out)|exact HB.out)⟩⟩
 case round =>
  clear H'
  try clear c1
  try clear c2
  try clear p2
  obtain ⟨x7_1,rfl,HA,HK1,BK1086,HB⟩ := hrel
  cases gk with
  | zero => exact absurd HA.out (fun h_ => (by cases h_))
  | succ k1 =>
   have H := HA.out
   clear HA
   simp only [impl_findKey.l0] at H
   by_cases c5 : x7_1 < (l1.length : Int)
   ·rw [if_pos c5] at H
    have c5b0 : decide (x7_1 < (l1.length : Int)) = true := decide_eq_true c5
    clear c5
    by_cases c6 : 0 ≤ x7_1
    ·rw [if_pos c6] at H
     have c6b0 : decide (0 ≤ x7_1) = true := decide_eq_true c6
     clear c6
     by_cases c7 : 0 ≤ (rd l1 x7_1)
     ·rw [if_pos c7] at H
      have c7b0 : decide (0 ≤ (rd l1 x7_1)) = true := decide_eq_true c7
      clear c7
      by_cases c8 : (rd l1 x7_1) < (l0.length : Int)
      ·rw [if_pos c8] at H
       have c8b0 : decide ((rd l1 x7_1) < (l0.length : Int)) = true := decide_eq_true c8
       clear c8
       by_cases c9 : ((rd_T88 l0 (rd l1 x7_1)).f0) = a2_0
       ·rw [if_pos c9] at H
        have c9b0 : (((rd_T88 l0 (rd l1 x7_1)).f0) == a2_0) = true := beq_iff_eq.mpr c9
        have c9b1 : (((rd_T88 l0 (rd l1 x7_1)).f0) != a2_0) = false := bne_eq_false_iff_eq.mpr c9
        clear c9
        by_cases c10 : ((rd_T88 l0 (rd l1 x7_1)).f1) = a2_1
        ·rw [if_pos c10] at H
         have c10b0 : (((rd_T88 l0 (rd l1 x7_1)).f1) == a2_1) = true := beq_iff_eq.mpr c10
         have c10b1 : (((rd_T88 l0 (rd l1 x7_1)).f1) != a2_1) = false := bne_eq_false_iff_eq.mpr c10
         clear c10
         obtain rfl := Option.some.inj H
         have p1087 : 0 ≤ (x7_1 : Int) := of_decide_eq_true (by first|(with_reducible assumption)|assumption)
         have q1087 : x7_1 < (l1.length : Int) := of_decide_eq_true (by first|(with_reducible assumption)|assumption)
         obtain ⟨ad1087,e1087,hx1087_0⟩ := Kd.at_int HR1.out x7_1 p1087 q1087
         cases e1087
         replace hx1087_0 := (HB.out.cell (World.block_lt_of_cell? w _ hx1087_0)).trans hx1087_0
         replace p1087 := eq_true p1087
         replace q1087 := eq_true q1087
         have p1088 : 0 ≤ ((rd l1 x7_1) : Int) := of_decide_eq_true (by first|(with_reducible assumption)|assumption)
         have q1088 : (rd l1 x7_1) < (l0.length : Int) := of_decide_eq_true (by first|(with_reducible assumption)|assumption)
         obtain ⟨ad1088,A1088_2,c1088_2,e1088,hx1088_0,hx1088_1,hx1088_2,hl1088_2,hi1088_2⟩ := at_T88 HR0.out (rd l1 x7_1) p1088 q1088
         cases e1088
         replace hx1088_0 := (HB.out.cell (World.block_lt_of_cell? w _ hx1088_0)).trans hx1088_0
         replace hx1088_1 := (HB.out.cell (World.block_lt_of_cell? w _ hx1088_1)).trans hx1088_1
         replace hx1088_2 := (HB.out.cell (World.block_lt_of_cell? w _ hx1088_2)).trans hx1088_2
         have HR1088_2 := Aside0.mk hi1088_2
         have HC1088_2 := Aside0.mk hl1088_2
         clear hi1088_2 hl1088_2
         replace p1088 := eq_true p1088
         replace q1088 := eq_true q1088
         go_wp2_with (first|((with_reducible refine gate_dst (N := 8) rfl ?_);refine box_event ?hg (N := 8) ?hd (cs := #[.int .i64 0,.int .i64 0,.slice none 0 0]) (t := 88) ?hr ?_;(case hd => rfl);(case hg => rfl);(case hr => first|(go_simp;done)|(go_simp;rfl));intro gb1089 hg w11 hbox hb;have n0_ := Aside0.mk (blk_below (g := gb1086) (o := .cells #[.int .i64 a2_0,.int .i64 a2_1,.slice A2_2 l2_2.length c2_2] 88 (0,0)) (by (with_reducible repeat (first|refine blk_drewN ?_ _|refine blk_drew ?_|refine blk_alloc ?_ _));exact BK1086.out) hb);have n1_ := Aside0.mk (below_step (by repeat (first|(with_reducible first|exact HB.out|apply below_alloc|apply pw_below_drewN|apply below_drew1|refine below_set ?_ GE1086.out)|exact HB.out)) hb);have n2_ := Aside0.mk (hbox);have n3_ := Aside0.mk ((by rw [hg];exact (below_size (by repeat (first|(with_reducible first|exact HB.out|apply below_alloc|apply pw_below_drewN|apply below_drew1|refine below_set ?_ GE1086.out)|exact HB.out))) : w.heap.size ≤ gb1089));have n4_ := Aside0.mk ((by rw [hg];exact (below_size (by repeat (first|(with_reducible first|exact HB.out|apply below_alloc|apply pw_below_drewN|apply below_drew1|refine below_set ?_ GE1086.out)|exact HB.out))) : w.heap.size ≤ gb1089));have n5_ := Aside0.mk ((by rw [hg];exact Nat.ne_of_lt (blk_lt (g := gb1086) (o := .cells #[.int .i64 a2_0,.int .i64 a2_1,.slice A2_2 l2_2.length c2_2] 88 (0,0)) (by (with_reducible repeat (first|refine blk_drewN ?_ _|refine blk_drew ?_|refine blk_alloc ?_ _));exact BK1086.out)) : gb1086 ≠ gb1089));have n6_ := Aside0.mk ((by rw [hg];exact Nat.ne_of_gt (blk_lt (g := gb1086) (o := .cells #[.int .i64 a2_0,.int .i64 a2_1,.slice A2_2 l2_2.length c2_2] 88 (0,0)) (by (with_reducible repeat (first|refine blk_drewN ?_ _|refine blk_drew ?_|refine blk_alloc ?_ _));exact BK1086.out)) : gb1089 ≠ gb1086));clear BK1086;clear HB;have BK1086 := n0_;have HB := n1_;have BK1089 := n2_;have GW1089 := n3_;have GE1089 := n4_;have NB1086_1089 := n5_;have NB1089_1086 := n6_;clear n0_ n1_ n2_ n3_ n4_ n5_ n6_;clear hb hbox hg;have hnb12 := NB1089_1086.out;have hnc12 := NB1086_1089.out;have hcz13_0 : w11.cell? ⟨gb1089,0,none⟩ = some (.int .i64 0) := (blk_cell BK1089.out 0).trans rfl;have hcz13_1 : w11.cell? ⟨gb1089,1,none⟩ = some (.int .i64 0) := (blk_cell BK1089.out 1).trans rfl;have hcz13_2 : w11.cell? ⟨gb1089,2,none⟩ = some (.slice none 0 0) := (blk_cell BK1089.out 2).trans rfl;have hfz13_0 := blk_frozen BK1089.out 0;have hfz13_1 := blk_frozen BK1089.out 1;have hfz13_2 := blk_frozen BK1089.out 2;have hcz14_0 : w11.cell? ⟨gb1086,0,none⟩ = some (.int .i64 a2_0) := (blk_cell BK1086.out 0).trans rfl;have hcz14_1 : w11.cell? ⟨gb1086,1,none⟩ = some (.int .i64 a2_1) := (blk_cell BK1086.out 1).trans rfl;have hcz14_2 : w11.cell? ⟨gb1086,2,none⟩ = some (.slice A2_2 l2_2.length c2_2) := (blk_cell BK1086.out 2).trans rfl;have hfz14_0 := blk_frozen BK1086.out 0;have hfz14_1 := blk_frozen BK1086.out 1;have hfz14_2 := blk_frozen BK1086.out 2))
         go_ret
         exact ⟨by first|rfl|(simp [errW_none,errW_some] <;> rfl)|(simp [*,errW_none,errW_some] <;> rfl),by repeat (first|(with_reducible first|exact HB.out|apply below_alloc|apply pw_below_drewN|apply below_drew1|refine below_set ?_ GE1086.out|refine below_set ?_ GE1089.out)|exact HB.out)⟩
        ·rw [if_neg c10] at H
         have c10b0 : (((rd_T88 l0 (rd l1 x7_1)).f1) == a2_1) = false := beq_eq_false_iff_ne.mpr c10
         have c10b1 : (((rd_T88 l0 (rd l1 x7_1)).f1) != a2_1) = true := bne_iff_ne.mpr c10
         have H' := Aside0.mk H
         clear H
         have p1087 : 0 ≤ (x7_1 : Int) := of_decide_eq_true (by first|(with_reducible assumption)|assumption)
         have q1087 : x7_1 < (l1.length : Int) := of_decide_eq_true (by first|(with_reducible assumption)|assumption)
         obtain ⟨ad1087,e1087,hx1087_0⟩ := Kd.at_int HR1.out x7_1 p1087 q1087
         cases e1087
         replace hx1087_0 := (HB.out.cell (World.block_lt_of_cell? w _ hx1087_0)).trans hx1087_0
         replace p1087 := eq_true p1087
         replace q1087 := eq_true q1087
         have p1088 : 0 ≤ ((rd l1 x7_1) : Int) := of_decide_eq_true (by first|(with_reducible assumption)|assumption)
         have q1088 : (rd l1 x7_1) < (l0.length : Int) := of_decide_eq_true (by first|(with_reducible assumption)|assumption)
         obtain ⟨ad1088,A1088_2,c1088_2,e1088,hx1088_0,hx1088_1,hx1088_2,hl1088_2,hi1088_2⟩ := at_T88 HR0.out (rd l1 x7_1) p1088 q1088
         cases e1088
         replace hx1088_0 := (HB.out.cell (World.block_lt_of_cell? w _ hx1088_0)).trans hx1088_0
         replace hx1088_1 := (HB.out.cell (World.block_lt_of_cell? w _ hx1088_1)).trans hx1088_1
         replace hx1088_2 := (HB.out.cell (World.block_lt_of_cell? w _ hx1088_2)).trans hx1088_2
         have HR1088_2 := Aside0.mk hi1088_2
         have HC1088_2 := Aside0.mk hl1088_2
         clear hi1088_2 hl1088_2
         replace p1088 := eq_true p1088
         replace q1088 := eq_true q1088
         go_wp2_with (first|((with_reducible refine gate_dst (N := 8) rfl ?_);refine box_event ?hg (N := 8) ?hd (cs := #[.int .i64 0,.int .i64 0,.slice none 0 0]) (t := 88) ?hr ?_;(case hd => rfl);(case hg => rfl);(case hr => first|(go_simp;done)|(go_simp;rfl));intro gb1089 hg w15 hbox hb;have n0_ := Aside0.mk (blk_below (g := gb1086) (o := .cells #[.int .i64 a2_0,.int .i64 a2_1,.slice A2_2 l2_2.length c2_2] 88 (0,0)) (by (with_reducible repeat (first|refine blk_drewN ?_ _|refine blk_drew ?_|refine blk_alloc ?_ _));exact BK1086.out) hb);have n1_ := Aside0.mk (below_step (by repeat (first|(with_reducible first|exact HB.out|apply below_alloc|apply pw_below_drewN|apply below_drew1|refine below_set ?_ GE1086.out)|exact HB.out)) hb);have n2_ := Aside0.mk (hbox);have n3_ := Aside0.mk ((by rw [hg];exact (below_size (by repeat (first|(with_reducible first|exact HB.out|apply below_alloc|apply pw_below_drewN|apply below_drew1|refine below_set ?_ GE1086.out)|exact HB.out))) : w.heap.size ≤ gb1089));have n4_ := Aside0.mk ((by rw [hg];exact (below_size (by repeat (first|(with_reducible first|exact HB.out|apply below_alloc|apply pw_below_drewN|apply below_drew1|refine below_set ?_ GE1086.out)|exact HB.out))) : w.heap.size ≤ gb1089));have n5_ := Aside0.mk ((by rw [hg];exact Nat.ne_of_lt (blk_lt (g := gb1086) (o := .cells #[.int .i64 a2_0,.int .i64 a2_1,.slice A2_2 l2_2.length c2_2] 88 (0,0)) (by (with_reducible repeat (first|refine blk_drewN ?_ _|refine blk_drew ?_|refine blk_alloc ?_ _));exact BK1086.out)) : gb1086 ≠ gb1089));have n6_ := Aside0.mk ((by rw [hg];exact Nat.ne_of_gt (blk_lt (g := gb1086) (o := .cells #[.int .i64 a2_0,.int .i64 a2_1,.slice A2_2 l2_2.length c2_2] 88 (0,0)) (by (with_reducible repeat (first|refine blk_drewN ?_ _|refine blk_drew ?_|refine blk_alloc ?_ _));exact BK1086.out)) : gb1089 ≠ gb1086));clear BK1086;clear HB;have BK1086 := n0_;have HB := n1_;have BK1089 := n2_;have GW1089 := n3_;have GE1089 := n4_;have NB1086_1089 := n5_;have NB1089_1086 := n6_;clear n0_ n1_ n2_ n3_ n4_ n5_ n6_;clear hb hbox hg;have hnb16 := NB1089_1086.out;have hnc16 := NB1086_1089.out;have hcz17_0 : w15.cell? ⟨gb1089,0,none⟩ = some (.int .i64 0) := (blk_cell BK1089.out 0).trans rfl;have hcz17_1 : w15.cell? ⟨gb1089,1,none⟩ = some (.int .i64 0) := (blk_cell BK1089.out 1).trans rfl;have hcz17_2 : w15.cell? ⟨gb1089,2,none⟩ = some (.slice none 0 0) := (blk_cell BK1089.out 2).trans rfl;have hfz17_0 := blk_frozen BK1089.out 0;have hfz17_1 := blk_frozen BK1089.out 1;have hfz17_2 := blk_frozen BK1089.out 2;have hcz18_0 : w15.cell? ⟨gb1086,0,none⟩ = some (.int .i64 a2_0) := (blk_cell BK1086.out 0).trans rfl;have hcz18_1 : w15.cell? ⟨gb1086,1,none⟩ = some (.int .i64 a2_1) := (blk_cell BK1086.out 1).trans rfl;have hcz18_2 : w15.cell? ⟨gb1086,2,none⟩ = some (.slice A2_2 l2_2.length c2_2) := (blk_cell BK1086.out 2).trans rfl;have hfz18_0 := blk_frozen BK1086.out 0;have hfz18_1 := blk_frozen BK1086.out 1;have hfz18_2 := blk_frozen BK1086.out 2))
         go_roundg k1
         case measure => have := HK1.out;omega
         case rel => exact ⟨(wrap64 (x7_1 + 2)),(by first|rfl|(simp;done)|(simp [*];done)),H',⟨by have := HK1.out;omega⟩,⟨by (with_reducible repeat (first|refine blk_drewN ?_ _|refine blk_drew ?_|refine blk_alloc ?_ _));refine blk_far ?_ NB1086_1089.out _;(with_reducible repeat (first|refine blk_drewN ?_ _|refine blk_drew ?_|refine blk_alloc ?_ _));refine blk_far ?_ NB1086_1089.out _;(with_reducible repeat (first|refine blk_drewN ?_ _|refine blk_drew ?_|refine blk_alloc ?_ _));refine blk_far ?_ NB1086_1089.out _;(with_reducible repeat (first|refine blk_drewN ?_ _|refine blk_drew ?_|refine blk_alloc ?_ _));exact BK1086.out⟩,⟨by repeat (first|(with_reducible first|exact HB.out|apply below_alloc|apply pw_below_drewN|apply below_drew1|refine below_set ?_ GE1086.out|refine below_set ?_ GE1089.out)|exact HB.out)⟩⟩
       ·rw [if_neg c9] at H
        have c9b0 : (((rd_T88 l0 (rd l1 x7_1)).f0) == a2_0) = false := beq_eq_false_iff_ne.mpr c9
        have c9b1 : (((rd_T88 l0 (rd l1 x7_1)).f0) != a2_0) = true := bne_iff_ne.mpr c9
        have H' := Aside0.mk H
        clear H
        have p1087 : 0 ≤ (x7_1 : Int) := of_decide_eq_true (by first|(with_reducible assumption)|assumption)
        have q1087 : x7_1 < (l1.length : Int) := of_decide_eq_true (by first|(with_reducible assumption)|assumption)
        obtain ⟨ad1087,e1087,hx1087_0⟩ := Kd.at_int HR1.out x7_1 p1087 q1087
        cases e1087
        replace hx1087_0 := (HB.out.cell (World.block_lt_of_cell? w _ hx1087_0)).trans hx1087_0
        replace p1087 := eq_true p1087
        replace q1087 := eq_true q1087
        have p1088 : 0 ≤ ((rd l1 x7_1) : Int) := of_decide_eq_true (by first|(with_reducible assumption)|assumption)
        have q1088 : (rd l1 x7_1) < (l0.length : Int) := of_decide_eq_true (by first|(with_reducible assumption)|assumption)
        obtain ⟨ad1088,A1088_2,c1088_2,e1088,hx1088_0,hx1088_1,hx1088_2,hl1088_2,hi1088_2⟩ := at_T88 HR0.out (rd l1 x7_1) p1088 q1088
        cases e1088
        replace hx1088_0 := (HB.out.cell (World.block_lt_of_cell? w _ hx1088_0)).trans hx1088_0
        replace hx1088_1 := (HB.out.cell (World.block_lt_of_cell? w _ hx1088_1)).trans hx1088_1
        replace hx1088_2 := (HB.out.cell (World.block_lt_of_cell? w _ hx1088_2)).trans hx1088_2
        have HR1088_2 := Aside0.mk hi1088_2
        have HC1088_2 := Aside0.mk hl1088_2
        clear hi1088_2 hl1088_2
        replace p1088 := eq_true p1088
        replace q1088 := eq_true q1088
        go_wp2_with (first|((with_reducible refine gate_dst (N := 8) rfl ?_);refine box_event ?hg (N := 8) ?hd (cs := #[.int .i64 0,.int .i64 0,.slice none 0 0]) (t := 88) ?hr ?_;(case hd => rfl);(case hg => rfl);(case hr => first|(go_simp;done)|(go_simp;rfl));intro gb1089 hg w19 hbox hb;have n0_ := Aside0.mk (blk_below (g := gb1086) (o := .cells #[.int .i64 a2_0,.int .i64 a2_1,.slice A2_2 l2_2.length c2_2] 88 (0,0)) (by (with_reducible repeat (first|refine blk_drewN ?_ _|refine blk_drew ?_|refine blk_alloc ?_ _));exact BK1086.out) hb);have n1_ := Aside0.mk (below_step (by repeat (first|(with_reducible first|exact HB.out|apply below_alloc|apply pw_below_drewN|apply below_drew1|refine below_set ?_ GE1086.out)|exact HB.out)) hb);have n2_ := Aside0.mk (hbox);have n3_ := Aside0.mk ((by rw [hg];exact (below_size (by repeat (first|(with_reducible first|exact HB.out|apply below_alloc|apply pw_below_drewN|apply below_drew1|refine below_set ?_ GE1086.out)|exact HB.out))) : w.heap.size ≤ gb1089));have n4_ := Aside0.mk ((by rw [hg];exact (below_size (by repeat (first|(with_reducible first|exact HB.out|apply below_alloc|apply pw_below_drewN|apply below_drew1|refine below_set ?_ GE1086.out)|exact HB.out))) : w.heap.size ≤ gb1089));have n5_ := Aside0.mk ((by rw [hg];exact Nat.ne_of_lt (blk_lt (g := gb1086) (o := .cells #[.int .i64 a2_0,.int .i64 a2_1,.slice A2_2 l2_2.length c2_2] 88 (0,0)) (by (with_reducible repeat (first|refine blk_drewN ?_ _|refine blk_drew ?_|refine blk_alloc ?_ _));exact BK1086.out)) : gb1086 ≠ gb1089));have n6_ := Aside0.mk ((by rw [hg];exact Nat.ne_of_gt (blk_lt (g := gb1086) (o := .cells #[.int .i64 a2_0,.int .i64 a2_1,.slice A2_2 l2_2.length c2_2] 88 (0,0)) (by (with_reducible repeat (first|refine blk_drewN ?_ _|refine blk_drew ?_|refine blk_alloc ?_ _));exact BK1086.out)) : gb1089 ≠ gb1086));clear BK1086;clear HB;have BK1086 := n0_;have HB := n1_;have BK1089 := n2_;have GW1089 := n3_;have GE1089 := n4_;have NB1086_1089 := n5_;have NB1089_1086 := n6_;clear n0_ n1_ n2_ n3_ n4_ n5_ n6_;clear hb hbox hg;have hnb20 := NB1089_1086.out;have hnc20 := NB1086_1089.out;have hcz21_0 : w19.cell? ⟨gb1089,0,none⟩ = some (.int .i64 0) := (blk_cell BK1089.out 0).trans rfl;have hcz21_1 : w19.cell? ⟨gb1089,1,none⟩ = some (.int .i64 0) := (blk_cell BK1089.out 1).trans rfl;have hcz21_2 : w19.cell? ⟨gb1089,2,none⟩ = some (.slice none 0 0) := (blk_cell BK1089.out 2).trans rfl;have hfz21_0 := blk_frozen BK1089.out 0;have hfz21_1 := blk_frozen BK1089.out 1;have hfz21_2 := blk_frozen BK1089.out 2;have hcz22_0 : w19.cell? ⟨gb1086,0,none⟩ = some (.int .i64 a2_0) := (blk_cell BK1086.out 0).trans rfl;have hcz22_1 : w19.cell? ⟨gb1086,1,none⟩ = some (.int .i64 a2_1) := (blk_cell BK1086.out 1).trans rfl;have hcz22_2 : w19.cell? ⟨gb1086,2,none⟩ = some (.slice A2_2 l2_2.length c2_2) := (blk_cell BK1086.out 2).trans rfl;have hfz22_0 := blk_frozen BK1086.out 0;have hfz22_1 := blk_frozen BK1086.out 1;have hfz22_2 := blk_frozen BK1086.out 2))
        go_roundg k1
        case measure => have := HK1.out;omega
        case rel => exact ⟨(wrap64 (x7_1 + 2)),(by first|rfl|(simp;done)|(simp [*];done)),H',⟨by have := HK1.out;omega⟩,⟨by (with_reducible repeat (first|refine blk_drewN ?_ _|refine blk_drew ?_|refine blk_alloc ?_ _));refine blk_far ?_ NB1086_1089.out _;(with_reducible repeat (first|refine blk_drewN ?_ _|refine blk_drew ?_|refine blk_alloc ?_ _));refine blk_far ?_ NB1086_1089.out _;(with_reducible repeat (first|refine blk_drewN ?_ _|refine blk_drew ?_|refine blk_alloc ?_ _));refine blk_far ?_ NB1086_1089.out _;(with_reducible repeat (first|refine blk_drewN ?_ _|refine blk_drew ?_|refine blk_alloc ?_ _));exact BK1086.out⟩,⟨by repeat (first|(with_reducible first|exact HB.out|apply below_alloc|apply pw_below_drewN|apply below_drew1|refine below_set ?_ GE1086.out|refine below_set ?_ GE1089.out)|exact HB.out)⟩⟩
      ·rw [if_neg c8] at H
       exact absurd H (by simp)
     ·rw [if_neg c7] at H
      exact absurd H (by simp)
    ·rw [if_neg c6] at H
     exact absurd H (by simp)
   ·rw [if_neg c5] at H
    have c5b0 : decide (x7_1 < (l1.length : Int)) = false := decide_eq_false c5
    clear c5
    obtain rfl := Option.some.inj H
    go_wp2
    go_ret
    exact ⟨by first|rfl|(simp [errW_none,errW_some] <;> rfl)|(simp [*,errW_none,errW_some] <;> rfl),by repeat (first|(with_reducible first|exact HB.out|apply below_alloc|apply pw_below_drewN|apply below_drew1|refine below_set ?_ GE1086.out)|exact HB.out)⟩

end Go.Proofs.Ytbokjhdhpmmpfaa.Q
