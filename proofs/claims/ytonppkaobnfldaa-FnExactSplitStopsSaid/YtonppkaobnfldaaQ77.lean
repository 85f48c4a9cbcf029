-- Written by wip/tools/qprint.py (a program of this claim's author) by means of the kit's printer.
import Derived.Test.YtonppkaobnfldaaQ0
import Derived.Test.YtonppkaobnfldaaQ75
namespace Go.Proofs.Ytonppkaobnfldaa.Q
open Go.RowKit Go.Proofs.YtonppkaobnfldaaW.PrintWords Go.Proofs.YtonppkaobnfldaaW.PrintLast Go.Proofs.YtonppkaobnfldaaW.PrintMore
attribute [local go_sem] max2_int min2_int max_two min_two max_three min_three max_four min_four   -- for this text's walks alone
set_option linter.unusedVariables false
set_option linter.unusedSimpArgs false

/-! ### spec_argOf: function 77 -/
def spec_argOf.f (a0 : Int) : Option (Int) := if a0 = 0 then (some 999) else (if a0 = 1 then (some 9) else (if a0 = 13 then (some 9) else (if a0 = 15 then (some 19) else (if a0 = 16 then (some 19) else (some (-1))))))
set_option maxHeartbeats 8000000 in
set_option maxRecDepth 100000 in
theorem spec_argOf.calls (a0 : Int) (r : Int) (w : World) (h : spec_argOf.f a0 = some r) :
  Calls Try.prog 77 #[.int .i64 a0] w fun e w' => e = .returned (.int .i64 r) ∧ Drawn0 w w' := by
 have H : (if a0 = 0 then (some 999) else (if a0 = 1 then (some 9) else (if a0 = 13 then (some 9) else (if a0 = 15 then (some 19) else (if a0 = 16 then (some 19) else (some (-1))))))) = some r := h
 clear h
 by_cases c2 : a0 = 0
 ·rw [if_pos c2] at H
  have c2b0 : (a0 == 0) = true := beq_iff_eq.mpr c2
  have c2b1 : (a0 != 0) = false := bne_eq_false_iff_eq.mpr c2
  clear c2
  obtain rfl := Option.some.inj H
  go_enter Try.func77,Try.ntmps77
  go_wp2
  go_ret
  exact ⟨by first|rfl|(simp;done)|(simp [*];done),by repeat (first|exact Drawn0.refl _|apply Drawn0.step)⟩
 rw [if_neg c2] at H
 have c2b0 : (a0 == 0) = false := beq_eq_false_iff_ne.mpr c2
 have c2b1 : (a0 != 0) = true := bne_iff_ne.mpr c2
 by_cases c3 : a0 = 1
 ·rw [if_pos c3] at H
  have c3b0 : (a0 == 1) = true := beq_iff_eq.mpr c3
  have c3b1 : (a0 != 1) = false := bne_eq_false_iff_eq.mpr c3
  clear c3
  obtain rfl := Option.some.inj H
  go_enter Try.func77,Try.ntmps77
  go_wp2
  go_ret
  exact ⟨by first|rfl|(simp;done)|(simp [*];done),by repeat (first|exact Drawn0.refl _|apply Drawn0.step)⟩
 rw [if_neg c3] at H
 have c3b0 : (a0 == 1) = false := beq_eq_false_iff_ne.mpr c3
 have c3b1 : (a0 != 1) = true := bne_iff_ne.mpr c3
 by_cases c4 : a0 = 13
 ·rw [if_pos c4] at H
  have c4b0 : (a0 == 13) = true := beq_iff_eq.mpr c4
  have c4b1 : (a0 != 13) = false := bne_eq_false_iff_eq.mpr c4
  clear c4
  obtain rfl := Option.some.inj H
  go_enter Try.func77,Try.ntmps77
  go_wp2
  go_ret
  exact ⟨by first|rfl|(simp;done)|(simp [*];done),by repeat (first|exact Drawn0.refl _|apply Drawn0.step)⟩
 rw [if_neg c4] at H
 have c4b0 : (a0 == 13) = false := beq_eq_false_iff_ne.mpr c4
 have c4b1 : (a0 != 13) = true := bne_iff_ne.mpr c4
 by_cases c5 : a0 = 15
 ·rw [if_pos c5] at H
  have c5b0 : (a0 == 15) = true := beq_iff_eq.mpr c5
  have c5b1 : (a0 != 15) = false := bne_eq_false_iff_eq.mpr c5
  clear c5
  obtain rfl := Option.some.inj H
  go_enter Try.func77,Try.ntmps77
  go_wp2
  go_ret
  exact ⟨by first|rfl|(simp;done)|(simp [*];done),by repeat (first|exact Drawn0.refl _|apply Drawn0.step)⟩
 rw [if_neg c5] at H
 have c5b0 : (a0 == 15) = false := beq_eq_false_iff_ne.mpr c5
 have c5b1 : (a0 != 15) = true := bne_iff_ne.mpr c5
 by_cases c6 : a0 = 16
 ·rw [if_pos c6] at H
  have c6b0 : (a0 == 16) = true := beq_iff_eq.mpr c6
  have c6b1 : (a0 != 16) = false := bne_eq_false_iff_eq.mpr c6
  clear c6
  obtain rfl := Option.some.inj H
  go_enter Try.func77,Try.ntmps77
  go_wp2
  go_ret
  exact ⟨by first|rfl|(simp;done)|(simp [*];done),by repeat (first|exact Drawn0.refl _|apply Drawn0.step)⟩
 rw [if_neg c6] at H
 have c6b0 : (a0 == 16) = false := beq_eq_false_iff_ne.mpr c6
 have c6b1 : (a0 != 16) = true := bne_iff_ne.mpr c6
 obtain rfl := Option.some.inj H
 go_enter Try.func77,Try.ntmps77
 go_wp2
 go_ret
 exact ⟨by first|rfl|(simp;done)|(simp [*];done),by repeat (first|exact Drawn0.refl _|apply Drawn0.step)⟩

/-! ### spec_validOp: function 73 -/
def spec_validOp.f (a0_0 : Int) (a0_1 : Int) : Option (Bool) := (spec_argOf.f a0_0).bind fun t102 => ((spec_inRange.f a0_0 0 19).bind fun t103 => (if t103 = true then (if t102 < 0 then (if a0_1 = 0 then (some true) else (if t102 ≥ 0 then ((spec_inRange.f a0_1 0 t102).bind fun t104 => (some t104)) else (some false))) else (if t102 ≥ 0 then ((spec_inRange.f a0_1 0 t102).bind fun t105 => (some t105)) else (some false))) else (some false)))
set_option maxHeartbeats 8000000 in
set_option maxRecDepth 100000 in
theorem spec_validOp.calls (a0_0 : Int) (a0_1 : Int) (r : Bool) (w : World) (h : spec_validOp.f a0_0 a0_1 = some r) :
  Calls Try.prog 73 #[.agg #[.int .i64 a0_0,.int .i64 a0_1]] w fun e w' => e = .returned (.bool r) ∧ Below w.heap.size w w' := by
 have hu49 := Try.underlying49
 have HB := As_ (Below.refl w.heap.size w)
 have H : ((spec_argOf.f a0_0).bind fun t102 => ((spec_inRange.f a0_0 0 19).bind fun t103 => (if t103 = true then (if t102 < 0 then (if a0_1 = 0 then (some true) else (if t102 ≥ 0 then ((spec_inRange.f a0_1 0 t102).bind fun t104 => (some t104)) else (some false))) else (if t102 ≥ 0 then ((spec_inRange.f a0_1 0 t102).bind fun t105 => (some t105)) else (some false))) else (some false)))) = some r := h
 clear h
 replace H := obS H
 obtain ⟨t102,A20,H⟩ := H
 replace H : ((spec_inRange.f a0_0 0 19).bind fun t103 => (if t103 = true then (if t102 < 0 then (if a0_1 = 0 then (some true) else (if t102 ≥ 0 then ((spec_inRange.f a0_1 0 t102).bind fun t104 => (some t104)) else (some false))) else (if t102 ≥ 0 then ((spec_inRange.f a0_1 0 t102).bind fun t105 => (some t105)) else (some false))) else (some false))) = some r := H
 have A2 := As_ A20
 clear A20
 replace H := obS H
 obtain ⟨t103,A30,H⟩ := H
 replace H : (if t103 = true then (if t102 < 0 then (if a0_1 = 0 then (some true) else (if t102 ≥ 0 then ((spec_inRange.f a0_1 0 t102).bind fun t104 => (some t104)) else (some false))) else (if t102 ≥ 0 then ((spec_inRange.f a0_1 0 t102).bind fun t105 => (some t105)) else (some false))) else (some false)) = some r := H
 have A3 := As_ A30
 clear A30
 by_cases c4 : t103 = true
 rotate_left
 ·replace c4 := Bool.eq_false_iff.mpr c4
  subst c4
  have H1 : (some false) = some r := by rw [if_neg (show ¬ (false = true) by decide)] at H;exact H
  clear H
  have H := H1
  clear H1
  obtain rfl := Option.some.inj H
  go_enter Try.func73,Try.ntmps73
  go_wp2_with (first|((with_reducible refine gate_dst (N := 1) rfl ?_);refine box_event ?hg (N := 1) ?hd (cs := #[.int .i64 a0_0,.int .i64 a0_1]) (t := 49) ?hr ?_;(case hd => rfl);(case hg => rfl);(case hr => go_simp <;> rfl);intro gb101 hg w21 hbox hb;have n0_ := As_ (bwT (zb0 HB.out) hb);have n1_ := As_ (hbox);have n2_ := As_ ((by rw [hg];exact (bwZ (zb0 HB.out)) : w.heap.size ≤ gb101));have n3_ := As_ ((by rw [hg];exact (bwZ (zb0 HB.out)) : w.heap.size ≤ gb101));clear HB;revert n0_ n1_ n2_ n3_;intro HB BK101 GW101 GE101;clear hb hbox hg;obtain ⟨hcz22_0,hcz22_1,hfz22_0,hfz22_1⟩ := bk2 BK101.out)|((with_reducible refine gate_callee (f := 77) rfl ?_);refine goesL_ (some 6) rfl rfl Try.func77 (by kernel_rfl) rfl #[.int .i64 a0_0] rfl zM_ ?_;(with_reducible refine (spec_argOf.calls a0_0 t102 _ A2.out).mono ?_);rintro e w' ⟨rfl,⟨nd,rfl⟩⟩;refine ⟨_,rfl,?_⟩)|((with_reducible refine gate_callee (f := 75) rfl ?_);refine goesL_ (some 9) rfl rfl Try.func75 (by kernel_rfl) rfl #[.int .i64 a0_0,.int .i64 0,.int .i64 19] rfl zM_ ?_;(with_reducible refine (spec_inRange.calls a0_0 0 19 false _ A3.out).mono ?_);rintro e w' ⟨rfl,⟨nd,rfl⟩⟩;refine ⟨_,rfl,?_⟩))
  go_ret
  exact ⟨zE_,zb1 HB.out GE101.out⟩

 subst c4
 have H1 : (if t102 < 0 then (if a0_1 = 0 then (some true) else (if t102 ≥ 0 then ((spec_inRange.f a0_1 0 t102).bind fun t104 => (some t104)) else (some false))) else (if t102 ≥ 0 then ((spec_inRange.f a0_1 0 t102).bind fun t105 => (some t105)) else (some false))) = some r := by rw [if_pos rfl] at H;exact H
 clear H
 have H := H1
 clear H1
 by_cases c5 : t102 < 0
 rotate_left
 ·rw [if_neg c5] at H
  have c5b0 : decide (t102 < 0) = false := deF c5
  clear c5
  by_cases c15 : t102 ≥ 0
  rotate_left
  ·rw [if_neg c15] at H
   have c15b0 : decide (0 ≤ t102) = false := deF c15
   clear c15
   obtain rfl := Option.some.inj H
   go_enter Try.func73,Try.ntmps73
   go_wp2_with (first|((with_reducible refine gate_dst (N := 1) rfl ?_);refine box_event ?hg (N := 1) ?hd (cs := #[.int .i64 a0_0,.int .i64 a0_1]) (t := 49) ?hr ?_;(case hd => rfl);(case hg => rfl);(case hr => go_simp <;> rfl);intro gb101 hg w19 hbox hb;have n0_ := As_ (bwT (zb0 HB.out) hb);have n1_ := As_ (hbox);have n2_ := As_ ((by rw [hg];exact (bwZ (zb0 HB.out)) : w.heap.size ≤ gb101));have n3_ := As_ ((by rw [hg];exact (bwZ (zb0 HB.out)) : w.heap.size ≤ gb101));clear HB;revert n0_ n1_ n2_ n3_;intro HB BK101 GW101 GE101;clear hb hbox hg;obtain ⟨hcz20_0,hcz20_1,hfz20_0,hfz20_1⟩ := bk2 BK101.out)|((with_reducible refine gate_callee (f := 77) rfl ?_);refine goesL_ (some 6) rfl rfl Try.func77 (by kernel_rfl) rfl #[.int .i64 a0_0] rfl zM_ ?_;(with_reducible refine (spec_argOf.calls a0_0 t102 _ A2.out).mono ?_);rintro e w' ⟨rfl,⟨nd,rfl⟩⟩;refine ⟨_,rfl,?_⟩)|((with_reducible refine gate_callee (f := 75) rfl ?_);refine goesL_ (some 9) rfl rfl Try.func75 (by kernel_rfl) rfl #[.int .i64 a0_0,.int .i64 0,.int .i64 19] rfl zM_ ?_;(with_reducible refine (spec_inRange.calls a0_0 0 19 true _ A3.out).mono ?_);rintro e w' ⟨rfl,⟨nd,rfl⟩⟩;refine ⟨_,rfl,?_⟩))
   go_ret
   exact ⟨zE_,zb1 HB.out GE101.out⟩
  rw [if_pos c15] at H
  have c15b0 : decide (0 ≤ t102) = true := deT c15
  clear c15
  replace H := obS H
  obtain ⟨t105,A160,H⟩ := H
  replace H : (some t105) = some r := H
  have A16 := As_ A160
  clear A160
  obtain rfl := Option.some.inj H
  go_enter Try.func73,Try.ntmps73
  go_wp2_with (first|((with_reducible refine gate_dst (N := 1) rfl ?_);refine box_event ?hg (N := 1) ?hd (cs := #[.int .i64 a0_0,.int .i64 a0_1]) (t := 49) ?hr ?_;(case hd => rfl);(case hg => rfl);(case hr => go_simp <;> rfl);intro gb101 hg w17 hbox hb;have n0_ := As_ (bwT (zb0 HB.out) hb);have n1_ := As_ (hbox);have n2_ := As_ ((by rw [hg];exact (bwZ (zb0 HB.out)) : w.heap.size ≤ gb101));have n3_ := As_ ((by rw [hg];exact (bwZ (zb0 HB.out)) : w.heap.size ≤ gb101));clear HB;revert n0_ n1_ n2_ n3_;intro HB BK101 GW101 GE101;clear hb hbox hg;obtain ⟨hcz18_0,hcz18_1,hfz18_0,hfz18_1⟩ := bk2 BK101.out)|((with_reducible refine gate_callee (f := 77) rfl ?_);refine goesL_ (some 6) rfl rfl Try.func77 (by kernel_rfl) rfl #[.int .i64 a0_0] rfl zM_ ?_;(with_reducible refine (spec_argOf.calls a0_0 t102 _ A2.out).mono ?_);rintro e w' ⟨rfl,⟨nd,rfl⟩⟩;refine ⟨_,rfl,?_⟩)|((with_reducible refine gate_callee (f := 75) rfl ?_);refine goesL_ (some 9) rfl rfl Try.func75 (by kernel_rfl) rfl #[.int .i64 a0_0,.int .i64 0,.int .i64 19] rfl zM_ ?_;(with_reducible refine (spec_inRange.calls a0_0 0 19 true _ A3.out).mono ?_);rintro e w' ⟨rfl,⟨nd,rfl⟩⟩;refine ⟨_,rfl,?_⟩)|(go_at_call 75;(with_reducible refine (spec_inRange.calls a0_1 0 t102 t105 _ A16.out).mono ?_);rintro e w' ⟨rfl,⟨nd,rfl⟩⟩))
  go_ret
  exact ⟨zE_,zb1 HB.out GE101.out⟩
 rw [if_pos c5] at H
 have c5b0 : decide (t102 < 0) = true := deT c5
 clear c5
 by_cases c6 : a0_1 = 0
 ·rw [if_pos c6] at H
  have c6b0 : (a0_1 == 0) = true := beq_iff_eq.mpr c6
  have c6b1 : (a0_1 != 0) = false := bne_eq_false_iff_eq.mpr c6
  clear c6
  obtain rfl := Option.some.inj H
  go_enter Try.func73,Try.ntmps73
  go_wp2_with (first|((with_reducible refine gate_dst (N := 1) rfl ?_);refine box_event ?hg (N := 1) ?hd (cs := #[.int .i64 a0_0,.int .i64 a0_1]) (t := 49) ?hr ?_;(case hd => rfl);(case hg => rfl);(case hr => go_simp <;> rfl);intro gb101 hg w7 hbox hb;have n0_ := As_ (bwT (zb0 HB.out) hb);have n1_ := As_ (hbox);have n2_ := As_ ((by rw [hg];exact (bwZ (zb0 HB.out)) : w.heap.size ≤ gb101));have n3_ := As_ ((by rw [hg];exact (bwZ (zb0 HB.out)) : w.heap.size ≤ gb101));clear HB;revert n0_ n1_ n2_ n3_;intro HB BK101 GW101 GE101;clear hb hbox hg;obtain ⟨hcz8_0,hcz8_1,hfz8_0,hfz8_1⟩ := bk2 BK101.out)|((with_reducible refine gate_callee (f := 77) rfl ?_);refine goesL_ (some 6) rfl rfl Try.func77 (by kernel_rfl) rfl #[.int .i64 a0_0] rfl zM_ ?_;(with_reducible refine (spec_argOf.calls a0_0 t102 _ A2.out).mono ?_);rintro e w' ⟨rfl,⟨nd,rfl⟩⟩;refine ⟨_,rfl,?_⟩)|((with_reducible refine gate_callee (f := 75) rfl ?_);refine goesL_ (some 9) rfl rfl Try.func75 (by kernel_rfl) rfl #[.int .i64 a0_0,.int .i64 0,.int .i64 19] rfl zM_ ?_;(with_reducible refine (spec_inRange.calls a0_0 0 19 true _ A3.out).mono ?_);rintro e w' ⟨rfl,⟨nd,rfl⟩⟩;refine ⟨_,rfl,?_⟩))
  go_ret
  exact ⟨zE_,zb1 HB.out GE101.out⟩
 rw [if_neg c6] at H
 have c6b0 : (a0_1 == 0) = false := beq_eq_false_iff_ne.mpr c6
 have c6b1 : (a0_1 != 0) = true := bne_iff_ne.mpr c6
 by_cases c9 : t102 ≥ 0
 rotate_left
 ·rw [if_neg c9] at H
  have c9b0 : decide (0 ≤ t102) = false := deF c9
  clear c9
  obtain rfl := Option.some.inj H
  go_enter Try.func73,Try.ntmps73
  go_wp2_with (first|((with_reducible refine gate_dst (N := 1) rfl ?_);refine box_event ?hg (N := 1) ?hd (cs := #[.int .i64 a0_0,.int .i64 a0_1]) (t := 49) ?hr ?_;(case hd => rfl);(case hg => rfl);(case hr => go_simp <;> rfl);intro gb101 hg w13 hbox hb;have n0_ := As_ (bwT (zb0 HB.out) hb);have n1_ := As_ (hbox);have n2_ := As_ ((by rw [hg];exact (bwZ (zb0 HB.out)) : w.heap.size ≤ gb101));have n3_ := As_ ((by rw [hg];exact (bwZ (zb0 HB.out)) : w.heap.size ≤ gb101));clear HB;revert n0_ n1_ n2_ n3_;intro HB BK101 GW101 GE101;clear hb hbox hg;obtain ⟨hcz14_0,hcz14_1,hfz14_0,hfz14_1⟩ := bk2 BK101.out)|((with_reducible refine gate_callee (f := 77) rfl ?_);refine goesL_ (some 6) rfl rfl Try.func77 (by kernel_rfl) rfl #[.int .i64 a0_0] rfl zM_ ?_;(with_reducible refine (spec_argOf.calls a0_0 t102 _ A2.out).mono ?_);rintro e w' ⟨rfl,⟨nd,rfl⟩⟩;refine ⟨_,rfl,?_⟩)|((with_reducible refine gate_callee (f := 75) rfl ?_);refine goesL_ (some 9) rfl rfl Try.func75 (by kernel_rfl) rfl #[.int .i64 a0_0,.int .i64 0,.int .i64 19] rfl zM_ ?_;(with_reducible refine (spec_inRange.calls a0_0 0 19 true _ A3.out).mono ?_);rintro e w' ⟨rfl,⟨nd,rfl⟩⟩;refine ⟨_,rfl,?_⟩))
  go_ret
  exact ⟨zE_,zb1 HB.out GE101.out⟩
 rw [if_pos c9] at H
 have c9b0 : decide (0 ≤ t102) = true := deT c9
 clear c9
 replace H := obS H
 obtain ⟨t104,A100,H⟩ := H
 replace H : (some t104) = some r := H
 have A10 := As_ A100
 clear A100
 obtain rfl := Option.some.inj H
 go_enter Try.func73,Try.ntmps73
 go_wp2_with (first|((with_reducible refine gate_dst (N := 1) rfl ?_);refine box_event ?hg (N := 1) ?hd (cs := #[.int .i64 a0_0,.int .i64 a0_1]) (t := 49) ?hr ?_;(case hd => rfl);(case hg => rfl);(case hr => go_simp <;> rfl);intro gb101 hg w11 hbox hb;have n0_ := As_ (bwT (zb0 HB.out) hb);have n1_ := As_ (hbox);have n2_ := As_ ((by rw [hg];exact (bwZ (zb0 HB.out)) : w.heap.size ≤ gb101));have n3_ := As_ ((by rw [hg];exact (bwZ (zb0 HB.out)) : w.heap.size ≤ gb101));clear HB;revert n0_ n1_ n2_ n3_;intro HB BK101 GW101 GE101;clear hb hbox hg;obtain ⟨hcz12_0,hcz12_1,hfz12_0,hfz12_1⟩ := bk2 BK101.out)|((with_reducible refine gate_callee (f := 77) rfl ?_);refine goesL_ (some 6) rfl rfl Try.func77 (by kernel_rfl) rfl #[.int .i64 a0_0] rfl zM_ ?_;(with_reducible refine (spec_argOf.calls a0_0 t102 _ A2.out).mono ?_);rintro e w' ⟨rfl,⟨nd,rfl⟩⟩;refine ⟨_,rfl,?_⟩)|((with_reducible refine gate_callee (f := 75) rfl ?_);refine goesL_ (some 9) rfl rfl Try.func75 (by kernel_rfl) rfl #[.int .i64 a0_0,.int .i64 0,.int .i64 19] rfl zM_ ?_;(with_reducible refine (spec_inRange.calls a0_0 0 19 true _ A3.out).mono ?_);rintro e w' ⟨rfl,⟨nd,rfl⟩⟩;refine ⟨_,rfl,?_⟩)|(go_at_call 75;(with_reducible refine (spec_inRange.calls a0_1 0 t102 t104 _ A10.out).mono ?_);rintro e w' ⟨rfl,⟨nd,rfl⟩⟩))
 go_ret
 exact ⟨zE_,zb1 HB.out GE101.out⟩
/-! ### impl_mostArg: function 62 -/
def impl_mostArg.f (a0 : Int) : Option (Int) := if a0 = 0 then (some 999) else (if a0 = 1 then (some 9) else (if a0 = 13 then (some 9) else (if a0 = 15 then (some 19) else (if a0 = 16 then (some 19) else (some 0)))))
set_option maxHeartbeats 8000000 in
set_option maxRecDepth 100000 in
theorem impl_mostArg.calls (a0 : Int) (r : Int) (w : World) (h : impl_mostArg.f a0 = some r) :
  Calls Try.prog 62 #[.int .i64 a0] w fun e w' => e = .returned (.int .i64 r) ∧ Drawn0 w w' := by
 have H : (if a0 = 0 then (some 999) else (if a0 = 1 then (some 9) else (if a0 = 13 then (some 9) else (if a0 = 15 then (some 19) else (if a0 = 16 then (some 19) else (some 0)))))) = some r := h
 clear h
 by_cases c2 : a0 = 0
 ·rw [if_pos c2] at H
  have c2b0 : (a0 == 0) = true := beq_iff_eq.mpr c2
  have c2b1 : (a0 != 0) = false := bne_eq_false_iff_eq.mpr c2
  clear c2
  obtain rfl := Option.some.inj H
  go_enter Try.func62,Try.ntmps62
  go_wp2
  go_ret
  exact ⟨by first|rfl|(simp;done)|(simp [*];done),by repeat (first|exact Drawn0.refl _|apply Drawn0.step)⟩
 rw [if_neg c2] at H
 have c2b0 : (a0 == 0) = false := beq_eq_false_iff_ne.mpr c2
 have c2b1 : (a0 != 0) = true := bne_iff_ne.mpr c2
 by_cases c3 : a0 = 1
 ·rw [if_pos c3] at H
  have c3b0 : (a0 == 1) = true := beq_iff_eq.mpr c3
  have c3b1 : (a0 != 1) = false := bne_eq_false_iff_eq.mpr c3
  clear c3
  obtain rfl := Option.some.inj H
  go_enter Try.func62,Try.ntmps62
  go_wp2
  go_ret
  exact ⟨by first|rfl|(simp;done)|(simp [*];done),by repeat (first|exact Drawn0.refl _|apply Drawn0.step)⟩
 rw [if_neg c3] at H
 have c3b0 : (a0 == 1) = false := beq_eq_false_iff_ne.mpr c3
 have c3b1 : (a0 != 1) = true := bne_iff_ne.mpr c3
 by_cases c4 : a0 = 13
 ·rw [if_pos c4] at H
  have c4b0 : (a0 == 13) = true := beq_iff_eq.mpr c4
  have c4b1 : (a0 != 13) = false := bne_eq_false_iff_eq.mpr c4
  clear c4
  obtain rfl := Option.some.inj H
  go_enter Try.func62,Try.ntmps62
  go_wp2
  go_ret
  exact ⟨by first|rfl|(simp;done)|(simp [*];done),by repeat (first|exact Drawn0.refl _|apply Drawn0.step)⟩
 rw [if_neg c4] at H
 have c4b0 : (a0 == 13) = false := beq_eq_false_iff_ne.mpr c4
 have c4b1 : (a0 != 13) = true := bne_iff_ne.mpr c4
 by_cases c5 : a0 = 15
 ·rw [if_pos c5] at H
  have c5b0 : (a0 == 15) = true := beq_iff_eq.mpr c5
  have c5b1 : (a0 != 15) = false := bne_eq_false_iff_eq.mpr c5
  clear c5
  obtain rfl := Option.some.inj H
  go_enter Try.func62,Try.ntmps62
  go_wp2
  go_ret
  exact ⟨by first|rfl|(simp;done)|(simp [*];done),by repeat (first|exact Drawn0.refl _|apply Drawn0.step)⟩
 rw [if_neg c5] at H
 have c5b0 : (a0 == 15) = false := beq_eq_false_iff_ne.mpr c5
 have c5b1 : (a0 != 15) = true := bne_iff_ne.mpr c5
 by_cases c6 : a0 = 16
 ·rw [if_pos c6] at H
  have c6b0 : (a0 == 16) = true := beq_iff_eq.mpr c6
  have c6b1 : (a0 != 16) = false := bne_eq_false_iff_eq.mpr c6
  clear c6
  obtain rfl := Option.some.inj H
  go_enter Try.func62,Try.ntmps62
  go_wp2
  go_ret
  exact ⟨by first|rfl|(simp;done)|(simp [*];done),by repeat (first|exact Drawn0.refl _|apply Drawn0.step)⟩
 rw [if_neg c6] at H
 have c6b0 : (a0 == 16) = false := beq_eq_false_iff_ne.mpr c6
 have c6b1 : (a0 != 16) = true := bne_iff_ne.mpr c6
 obtain rfl := Option.some.inj H
 go_enter Try.func62,Try.ntmps62
 go_wp2
 go_ret
 exact ⟨by first|rfl|(simp;done)|(simp [*];done),by repeat (first|exact Drawn0.refl _|apply Drawn0.step)⟩

/-! ### impl_opOk: function 53 -/
def impl_opOk.f (a0_0 : Int) (a0_1 : Int) : Option (Bool) := if a0_0 ≥ 0 then (if a0_0 ≤ 19 then (if a0_1 ≥ 0 then ((impl_mostArg.f a0_0).bind fun t120 => (some (decide (a0_1 ≤ t120)))) else (some false)) else (some false)) else (some false)
set_option maxHeartbeats 8000000 in
set_option maxRecDepth 100000 in
theorem impl_opOk.calls (a0_0 : Int) (a0_1 : Int) (r : Bool) (w : World) (h : impl_opOk.f a0_0 a0_1 = some r) :
  Calls Try.prog 53 #[.agg #[.int .i64 a0_0,.int .i64 a0_1]] w fun e w' => e = .returned (.bool r) ∧ Below w.heap.size w w' := by
 have hu49 := Try.underlying49
 have HB := As_ (Below.refl w.heap.size w)
 have H : (if a0_0 ≥ 0 then (if a0_0 ≤ 19 then (if a0_1 ≥ 0 then ((impl_mostArg.f a0_0).bind fun t120 => (some (decide (a0_1 ≤ t120)))) else (some false)) else (some false)) else (some false)) = some r := h
 clear h
 by_cases c2 : a0_0 ≥ 0
 rotate_left
 ·rw [if_neg c2] at H
  have c2b0 : decide (0 ≤ a0_0) = false := deF c2
  clear c2
  obtain rfl := Option.some.inj H
  go_enter Try.func53,Try.ntmps53
  go_wp2_with (first|((with_reducible refine gate_dst (N := 1) rfl ?_);refine box_event ?hg (N := 1) ?hd (cs := #[.int .i64 a0_0,.int .i64 a0_1]) (t := 49) ?hr ?_;(case hd => rfl);(case hg => rfl);(case hr => go_simp <;> rfl);intro gb119 hg w12 hbox hb;have n0_ := As_ (bwT (zb0 HB.out) hb);have n1_ := As_ (hbox);have n2_ := As_ ((by rw [hg];exact (bwZ (zb0 HB.out)) : w.heap.size ≤ gb119));have n3_ := As_ ((by rw [hg];exact (bwZ (zb0 HB.out)) : w.heap.size ≤ gb119));clear HB;revert n0_ n1_ n2_ n3_;intro HB BK119 GW119 GE119;clear hb hbox hg;obtain ⟨hcz13_0,hcz13_1,hfz13_0,hfz13_1⟩ := bk2 BK119.out))
  repeat (go_quiet (first|((with_reducible refine gate_dst (N := 1) rfl ?_);refine box_event ?hg (N := 1) ?hd (cs := #[.int .i64 a0_0,.int .i64 a0_1]) (t := 49) ?hr ?_;(case hd => rfl);(case hg => rfl);(case hr => go_simp <;> rfl);intro gb119 hg w12 hbox hb;have n0_ := As_ (bwT (zb0 HB.out) hb);have n1_ := As_ (hbox);have n2_ := As_ ((by rw [hg];exact (bwZ (zb0 HB.out)) : w.heap.size ≤ gb119));have n3_ := As_ ((by rw [hg];exact (bwZ (zb0 HB.out)) : w.heap.size ≤ gb119));clear HB;revert n0_ n1_ n2_ n3_;intro HB BK119 GW119 GE119;clear hb hbox hg;obtain ⟨hcz13_0,hcz13_1,hfz13_0,hfz13_1⟩ := bk2 BK119.out));try go_wp2_with (first|((with_reducible refine gate_dst (N := 1) rfl ?_);refine box_event ?hg (N := 1) ?hd (cs := #[.int .i64 a0_0,.int .i64 a0_1]) (t := 49) ?hr ?_;(case hd => rfl);(case hg => rfl);(case hr => go_simp <;> rfl);intro gb119 hg w12 hbox hb;have n0_ := As_ (bwT (zb0 HB.out) hb);have n1_ := As_ (hbox);have n2_ := As_ ((by rw [hg];exact (bwZ (zb0 HB.out)) : w.heap.size ≤ gb119));have n3_ := As_ ((by rw [hg];exact (bwZ (zb0 HB.out)) : w.heap.size ≤ gb119));clear HB;revert n0_ n1_ n2_ n3_;intro HB BK119 GW119 GE119;clear hb hbox hg;obtain ⟨hcz13_0,hcz13_1,hfz13_0,hfz13_1⟩ := bk2 BK119.out)))
  go_ret
  exact ⟨zE_,zb1 HB.out GE119.out⟩

 rw [if_pos c2] at H
 have c2b0 : decide (0 ≤ a0_0) = true := deT c2
 clear c2
 by_cases c3 : a0_0 ≤ 19
 rotate_left
 ·rw [if_neg c3] at H
  have c3b0 : decide (a0_0 ≤ 19) = false := deF c3
  clear c3
  obtain rfl := Option.some.inj H
  go_enter Try.func53,Try.ntmps53
  go_wp2_with (first|((with_reducible refine gate_dst (N := 1) rfl ?_);refine box_event ?hg (N := 1) ?hd (cs := #[.int .i64 a0_0,.int .i64 a0_1]) (t := 49) ?hr ?_;(case hd => rfl);(case hg => rfl);(case hr => go_simp <;> rfl);intro gb119 hg w10 hbox hb;have n0_ := As_ (bwT (zb0 HB.out) hb);have n1_ := As_ (hbox);have n2_ := As_ ((by rw [hg];exact (bwZ (zb0 HB.out)) : w.heap.size ≤ gb119));have n3_ := As_ ((by rw [hg];exact (bwZ (zb0 HB.out)) : w.heap.size ≤ gb119));clear HB;revert n0_ n1_ n2_ n3_;intro HB BK119 GW119 GE119;clear hb hbox hg;obtain ⟨hcz11_0,hcz11_1,hfz11_0,hfz11_1⟩ := bk2 BK119.out))
  repeat (go_quiet (first|((with_reducible refine gate_dst (N := 1) rfl ?_);refine box_event ?hg (N := 1) ?hd (cs := #[.int .i64 a0_0,.int .i64 a0_1]) (t := 49) ?hr ?_;(case hd => rfl);(case hg => rfl);(case hr => go_simp <;> rfl);intro gb119 hg w10 hbox hb;have n0_ := As_ (bwT (zb0 HB.out) hb);have n1_ := As_ (hbox);have n2_ := As_ ((by rw [hg];exact (bwZ (zb0 HB.out)) : w.heap.size ≤ gb119));have n3_ := As_ ((by rw [hg];exact (bwZ (zb0 HB.out)) : w.heap.size ≤ gb119));clear HB;revert n0_ n1_ n2_ n3_;intro HB BK119 GW119 GE119;clear hb hbox hg;obtain ⟨hcz11_0,hcz11_1,hfz11_0,hfz11_1⟩ := bk2 BK119.out));try go_wp2_with (first|((with_reducible refine gate_dst (N := 1) rfl ?_);refine box_event ?hg (N := 1) ?hd (cs := #[.int .i64 a0_0,.int .i64 a0_1]) (t := 49) ?hr ?_;(case hd => rfl);(case hg => rfl);(case hr => go_simp <;> rfl);intro gb119 hg w10 hbox hb;have n0_ := As_ (bwT (zb0 HB.out) hb);have n1_ := As_ (hbox);have n2_ := As_ ((by rw [hg];exact (bwZ (zb0 HB.out)) : w.heap.size ≤ gb119));have n3_ := As_ ((by rw [hg];exact (bwZ (zb0 HB.out)) : w.heap.size ≤ gb119));clear HB;revert n0_ n1_ n2_ n3_;intro HB BK119 GW119 GE119;clear hb hbox hg;obtain ⟨hcz11_0,hcz11_1,hfz11_0,hfz11_1⟩ := bk2 BK119.out)))
  go_ret
  exact ⟨zE_,zb1 HB.out GE119.out⟩
 rw [if_pos c3] at H
 have c3b0 : decide (a0_0 ≤ 19) = true := deT c3
 clear c3
 by_cases c4 : a0_1 ≥ 0
 rotate_left
 ·rw [if_neg c4] at H
  have c4b0 : decide (0 ≤ a0_1) = false := deF c4
  clear c4
  obtain rfl := Option.some.inj H
  go_enter Try.func53,Try.ntmps53
  go_wp2_with (first|((with_reducible refine gate_dst (N := 1) rfl ?_);refine box_event ?hg (N := 1) ?hd (cs := #[.int .i64 a0_0,.int .i64 a0_1]) (t := 49) ?hr ?_;(case hd => rfl);(case hg => rfl);(case hr => go_simp <;> rfl);intro gb119 hg w8 hbox hb;have n0_ := As_ (bwT (zb0 HB.out) hb);have n1_ := As_ (hbox);have n2_ := As_ ((by rw [hg];exact (bwZ (zb0 HB.out)) : w.heap.size ≤ gb119));have n3_ := As_ ((by rw [hg];exact (bwZ (zb0 HB.out)) : w.heap.size ≤ gb119));clear HB;revert n0_ n1_ n2_ n3_;intro HB BK119 GW119 GE119;clear hb hbox hg;obtain ⟨hcz9_0,hcz9_1,hfz9_0,hfz9_1⟩ := bk2 BK119.out))
  repeat (go_quiet (first|((with_reducible refine gate_dst (N := 1) rfl ?_);refine box_event ?hg (N := 1) ?hd (cs := #[.int .i64 a0_0,.int .i64 a0_1]) (t := 49) ?hr ?_;(case hd => rfl);(case hg => rfl);(case hr => go_simp <;> rfl);intro gb119 hg w8 hbox hb;have n0_ := As_ (bwT (zb0 HB.out) hb);have n1_ := As_ (hbox);have n2_ := As_ ((by rw [hg];exact (bwZ (zb0 HB.out)) : w.heap.size ≤ gb119));have n3_ := As_ ((by rw [hg];exact (bwZ (zb0 HB.out)) : w.heap.size ≤ gb119));clear HB;revert n0_ n1_ n2_ n3_;intro HB BK119 GW119 GE119;clear hb hbox hg;obtain ⟨hcz9_0,hcz9_1,hfz9_0,hfz9_1⟩ := bk2 BK119.out));try go_wp2_with (first|((with_reducible refine gate_dst (N := 1) rfl ?_);refine box_event ?hg (N := 1) ?hd (cs := #[.int .i64 a0_0,.int .i64 a0_1]) (t := 49) ?hr ?_;(case hd => rfl);(case hg => rfl);(case hr => go_simp <;> rfl);intro gb119 hg w8 hbox hb;have n0_ := As_ (bwT (zb0 HB.out) hb);have n1_ := As_ (hbox);have n2_ := As_ ((by rw [hg];exact (bwZ (zb0 HB.out)) : w.heap.size ≤ gb119));have n3_ := As_ ((by rw [hg];exact (bwZ (zb0 HB.out)) : w.heap.size ≤ gb119));clear HB;revert n0_ n1_ n2_ n3_;intro HB BK119 GW119 GE119;clear hb hbox hg;obtain ⟨hcz9_0,hcz9_1,hfz9_0,hfz9_1⟩ := bk2 BK119.out)))
  go_ret
  exact ⟨zE_,zb1 HB.out GE119.out⟩
 rw [if_pos c4] at H
 have c4b0 : decide (0 ≤ a0_1) = true := deT c4
 clear c4
 replace H := obS H
 obtain ⟨t120,A50,H⟩ := H
 replace H : (some (decide (a0_1 ≤ t120))) = some r := H
 have A5 := As_ A50
 clear A50
 obtain rfl := Option.some.inj H
 go_enter Try.func53,Try.ntmps53
 go_wp2_with (first|((with_reducible refine gate_dst (N := 1) rfl ?_);refine box_event ?hg (N := 1) ?hd (cs := #[.int .i64 a0_0,.int .i64 a0_1]) (t := 49) ?hr ?_;(case hd => rfl);(case hg => rfl);(case hr => go_simp <;> rfl);intro gb119 hg w6 hbox hb;have n0_ := As_ (bwT (zb0 HB.out) hb);have n1_ := As_ (hbox);have n2_ := As_ ((by rw [hg];exact (bwZ (zb0 HB.out)) : w.heap.size ≤ gb119));have n3_ := As_ ((by rw [hg];exact (bwZ (zb0 HB.out)) : w.heap.size ≤ gb119));clear HB;revert n0_ n1_ n2_ n3_;intro HB BK119 GW119 GE119;clear hb hbox hg;obtain ⟨hcz7_0,hcz7_1,hfz7_0,hfz7_1⟩ := bk2 BK119.out)|(go_at_call 62;(with_reducible refine (impl_mostArg.calls a0_0 t120 _ A5.out).mono ?_);rintro e w' ⟨rfl,⟨nd,rfl⟩⟩;(try first|exact ⟨rfl,_,World.drewN_drewN _ _ _⟩|exact ⟨rfl,_,Eq.trans (World.drewN_drewN _ _ _) (congrArg (World.drewN _) (Nat.add_assoc _ _ _))⟩)))
 repeat (go_quiet (first|((with_reducible refine gate_dst (N := 1) rfl ?_);refine box_event ?hg (N := 1) ?hd (cs := #[.int .i64 a0_0,.int .i64 a0_1]) (t := 49) ?hr ?_;(case hd => rfl);(case hg => rfl);(case hr => go_simp <;> rfl);intro gb119 hg w6 hbox hb;have n0_ := As_ (bwT (zb0 HB.out) hb);have n1_ := As_ (hbox);have n2_ := As_ ((by rw [hg];exact (bwZ (zb0 HB.out)) : w.heap.size ≤ gb119));have n3_ := As_ ((by rw [hg];exact (bwZ (zb0 HB.out)) : w.heap.size ≤ gb119));clear HB;revert n0_ n1_ n2_ n3_;intro HB BK119 GW119 GE119;clear hb hbox hg;obtain ⟨hcz7_0,hcz7_1,hfz7_0,hfz7_1⟩ := bk2 BK119.out)|(go_at_call 62;(with_reducible refine (impl_mostArg.calls a0_0 t120 _ A5.out).mono ?_);rintro e w' ⟨rfl,⟨nd,rfl⟩⟩;(try first|exact ⟨rfl,_,World.drewN_drewN _ _ _⟩|exact ⟨rfl,_,Eq.trans (World.drewN_drewN _ _ _) (congrArg (World.drewN _) (Nat.add_assoc _ _ _))⟩)));try go_wp2_with (first|((with_reducible refine gate_dst (N := 1) rfl ?_);refine box_event ?hg (N := 1) ?hd (cs := #[.int .i64 a0_0,.int .i64 a0_1]) (t := 49) ?hr ?_;(case hd => rfl);(case hg => rfl);(case hr => go_simp <;> rfl);intro gb119 hg w6 hbox hb;have n0_ := As_ (bwT (zb0 HB.out) hb);have n1_ := As_ (hbox);have n2_ := As_ ((by rw [hg];exact (bwZ (zb0 HB.out)) : w.heap.size ≤ gb119));have n3_ := As_ ((by rw [hg];exact (bwZ (zb0 HB.out)) : w.heap.size ≤ gb119));clear HB;revert n0_ n1_ n2_ n3_;intro HB BK119 GW119 GE119;clear hb hbox hg;obtain ⟨hcz7_0,hcz7_1,hfz7_0,hfz7_1⟩ := bk2 BK119.out)|(go_at_call 62;(with_reducible refine (impl_mostArg.calls a0_0 t120 _ A5.out).mono ?_);rintro e w' ⟨rfl,⟨nd,rfl⟩⟩;(try first|exact ⟨rfl,_,World.drewN_drewN _ _ _⟩|exact ⟨rfl,_,Eq.trans (World.drewN_drewN _ _ _) (congrArg (World.drewN _) (Nat.add_assoc _ _ _))⟩))))
 go_ret
 exact ⟨zE_,zb1 HB.out GE119.out⟩
/-! ### laws_eqOp: function 54 -/
def laws_eqOp.f (a0_0 : Int) (a0_1 : Int) (a1_0 : Int) (a1_1 : Int) : Option (Bool) := if a0_0 = a1_0 then (if a0_1 = a1_1 then (some true) else (some false)) else (some false)
set_option maxHeartbeats 8000000 in
set_option maxRecDepth 100000 in
theorem laws_eqOp.calls (a0_0 : Int) (a0_1 : Int) (a1_0 : Int) (a1_1 : Int) (r : Bool) (w : World) (h : laws_eqOp.f a0_0 a0_1 a1_0 a1_1 = some r) :
  Calls Try.prog 54 #[.agg #[.int .i64 a0_0,.int .i64 a0_1],.agg #[.int .i64 a1_0,.int .i64 a1_1]] w fun e w' => e = .returned (.bool r) ∧ Below w.heap.size w w' := by
 have hu49 := Try.underlying49
 have HB := As_ (Below.refl w.heap.size w)
 have H : (if a0_0 = a1_0 then (if a0_1 = a1_1 then (some true) else (some false)) else (some false)) = some r := h
 clear h
 by_cases c3 : a0_0 = a1_0
 rotate_left
 ·rw [if_neg c3] at H
  have c3b0 : (a0_0 == a1_0) = false := beq_eq_false_iff_ne.mpr c3
  have c3b1 : (a0_0 != a1_0) = true := bne_iff_ne.mpr c3
  obtain rfl := Option.some.inj H
  go_enter Try.func54,Try.ntmps54
  go_wp2_with (first|((with_reducible refine gate_dst (N := 2) rfl ?_);refine box_event ?hg (N := 2) ?hd (cs := #[.int .i64 a0_0,.int .i64 a0_1]) (t := 49) ?hr ?_;(case hd => rfl);(case hg => rfl);(case hr => go_simp <;> rfl);intro gb124 hg w15 hbox hb;have n0_ := As_ (bwT (zb0 HB.out) hb);have n1_ := As_ (hbox);have n2_ := As_ ((by rw [hg];exact (bwZ (zb0 HB.out)) : w.heap.size ≤ gb124));have n3_ := As_ ((by rw [hg];exact (bwZ (zb0 HB.out)) : w.heap.size ≤ gb124));clear HB;revert n0_ n1_ n2_ n3_;intro HB BK124 GW124 GE124;clear hb hbox hg)|((with_reducible refine gate_dst (N := 3) rfl ?_);refine box_event ?hg (N := 3) ?hd (cs := #[.int .i64 a1_0,.int .i64 a1_1]) (t := 49) ?hr ?_;(case hd => rfl);(case hg => rfl);(case hr => go_simp <;> rfl);intro gb125 hg w16 hbox hb;have n0_ := As_ (zkb BK124.out hb);have n1_ := As_ (bwT (zb1 HB.out GE124.out) hb);have n2_ := As_ (hbox);have n3_ := As_ ((by rw [hg];exact (bwZ (zb1 HB.out GE124.out)) : w.heap.size ≤ gb125));have n4_ := As_ ((by rw [hg];exact (bwZ (zb1 HB.out GE124.out)) : w.heap.size ≤ gb125));have n5_ := As_ ((by rw [hg];exact Nat.ne_of_lt (zkl BK124.out) : gb124 ≠ gb125));have n6_ := As_ ((by rw [hg];exact Nat.ne_of_gt (zkl BK124.out) : gb125 ≠ gb124));clear BK124 HB;revert n0_ n1_ n2_ n3_ n4_ n5_ n6_;intro BK124 HB BK125 GW125 GE125 NB124_125 NB125_124;clear hb hbox hg;have hnb17 := NB124_125.out;have hnc17 := NB125_124.out;obtain ⟨hcz18_0,hcz18_1,hfz18_0,hfz18_1⟩ := bk2 BK124.out;obtain ⟨hcz19_0,hcz19_1,hfz19_0,hfz19_1⟩ := bk2 BK125.out))
  go_ret
  exact ⟨zE_,zb2 HB.out GE124.out GE125.out⟩

 rw [if_pos c3] at H
 have c3b0 : (a0_0 == a1_0) = true := beq_iff_eq.mpr c3
 have c3b1 : (a0_0 != a1_0) = false := bne_eq_false_iff_eq.mpr c3
 clear c3
 by_cases c4 : a0_1 = a1_1
 rotate_left
 ·rw [if_neg c4] at H
  have c4b0 : (a0_1 == a1_1) = false := beq_eq_false_iff_ne.mpr c4
  have c4b1 : (a0_1 != a1_1) = true := bne_iff_ne.mpr c4
  obtain rfl := Option.some.inj H
  go_enter Try.func54,Try.ntmps54
  go_wp2_with (first|((with_reducible refine gate_dst (N := 2) rfl ?_);refine box_event ?hg (N := 2) ?hd (cs := #[.int .i64 a0_0,.int .i64 a0_1]) (t := 49) ?hr ?_;(case hd => rfl);(case hg => rfl);(case hr => go_simp <;> rfl);intro gb124 hg w10 hbox hb;have n0_ := As_ (bwT (zb0 HB.out) hb);have n1_ := As_ (hbox);have n2_ := As_ ((by rw [hg];exact (bwZ (zb0 HB.out)) : w.heap.size ≤ gb124));have n3_ := As_ ((by rw [hg];exact (bwZ (zb0 HB.out)) : w.heap.size ≤ gb124));clear HB;revert n0_ n1_ n2_ n3_;intro HB BK124 GW124 GE124;clear hb hbox hg)|((with_reducible refine gate_dst (N := 3) rfl ?_);refine box_event ?hg (N := 3) ?hd (cs := #[.int .i64 a1_0,.int .i64 a1_1]) (t := 49) ?hr ?_;(case hd => rfl);(case hg => rfl);(case hr => go_simp <;> rfl);intro gb125 hg w11 hbox hb;have n0_ := As_ (zkb BK124.out hb);have n1_ := As_ (bwT (zb1 HB.out GE124.out) hb);have n2_ := As_ (hbox);have n3_ := As_ ((by rw [hg];exact (bwZ (zb1 HB.out GE124.out)) : w.heap.size ≤ gb125));have n4_ := As_ ((by rw [hg];exact (bwZ (zb1 HB.out GE124.out)) : w.heap.size ≤ gb125));have n5_ := As_ ((by rw [hg];exact Nat.ne_of_lt (zkl BK124.out) : gb124 ≠ gb125));have n6_ := As_ ((by rw [hg];exact Nat.ne_of_gt (zkl BK124.out) : gb125 ≠ gb124));clear BK124 HB;revert n0_ n1_ n2_ n3_ n4_ n5_ n6_;intro BK124 HB BK125 GW125 GE125 NB124_125 NB125_124;clear hb hbox hg;have hnb12 := NB124_125.out;have hnc12 := NB125_124.out;obtain ⟨hcz13_0,hcz13_1,hfz13_0,hfz13_1⟩ := bk2 BK124.out;obtain ⟨hcz14_0,hcz14_1,hfz14_0,hfz14_1⟩ := bk2 BK125.out))
  go_ret
  exact ⟨zE_,zb2 HB.out GE124.out GE125.out⟩
 rw [if_pos c4] at H
 have c4b0 : (a0_1 == a1_1) = true := beq_iff_eq.mpr c4
 have c4b1 : (a0_1 != a1_1) = false := bne_eq_false_iff_eq.mpr c4
 clear c4
 obtain rfl := Option.some.inj H
 go_enter Try.func54,Try.ntmps54
 go_wp2_with (first|((with_reducible refine gate_dst (N := 2) rfl ?_);refine box_event ?hg (N := 2) ?hd (cs := #[.int .i64 a0_0,.int .i64 a0_1]) (t := 49) ?hr ?_;(case hd => rfl);(case hg => rfl);(case hr => go_simp <;> rfl);intro gb124 hg w5 hbox hb;have n0_ := As_ (bwT (zb0 HB.out) hb);have n1_ := As_ (hbox);have n2_ := As_ ((by rw [hg];exact (bwZ (zb0 HB.out)) : w.heap.size ≤ gb124));have n3_ := As_ ((by rw [hg];exact (bwZ (zb0 HB.out)) : w.heap.size ≤ gb124));clear HB;revert n0_ n1_ n2_ n3_;intro HB BK124 GW124 GE124;clear hb hbox hg)|((with_reducible refine gate_dst (N := 3) rfl ?_);refine box_event ?hg (N := 3) ?hd (cs := #[.int .i64 a1_0,.int .i64 a1_1]) (t := 49) ?hr ?_;(case hd => rfl);(case hg => rfl);(case hr => go_simp <;> rfl);intro gb125 hg w6 hbox hb;have n0_ := As_ (zkb BK124.out hb);have n1_ := As_ (bwT (zb1 HB.out GE124.out) hb);have n2_ := As_ (hbox);have n3_ := As_ ((by rw [hg];exact (bwZ (zb1 HB.out GE124.out)) : w.heap.size ≤ gb125));have n4_ := As_ ((by rw [hg];exact (bwZ (zb1 HB.out GE124.out)) : w.heap.size ≤ gb125));have n5_ := As_ ((by rw [hg];exact Nat.ne_of_lt (zkl BK124.out) : gb124 ≠ gb125));have n6_ := As_ ((by rw [hg];exact Nat.ne_of_gt (zkl BK124.out) : gb125 ≠ gb124));clear BK124 HB;revert n0_ n1_ n2_ n3_ n4_ n5_ n6_;intro BK124 HB BK125 GW125 GE125 NB124_125 NB125_124;clear hb hbox hg;have hnb7 := NB124_125.out;have hnc7 := NB125_124.out;obtain ⟨hcz8_0,hcz8_1,hfz8_0,hfz8_1⟩ := bk2 BK124.out;obtain ⟨hcz9_0,hcz9_1,hfz9_0,hfz9_1⟩ := bk2 BK125.out))
 go_ret
 exact ⟨zE_,zb2 HB.out GE124.out GE125.out⟩
/-! ### laws_eqOpS: function 19 -/
def laws_eqOpS.l0 : Nat → List (S49) → List (S49) → Int → Option (Bool)
 | 0,_,_,_ => none
 | k + 1,x0,x1,x5 => if x5 < (x0.length : Int) then (if 0 ≤ x5 then (if x5 < (x1.length : Int) then ((laws_eqOp.f ((rd_T49 x0 x5).f0) ((rd_T49 x0 x5).f1) ((rd_T49 x1 x5).f0) ((rd_T49 x1 x5).f1)).bind fun t128 => (if t128 = true then (laws_eqOpS.l0 k x0 x1 (wrap64 (x5 + 1))) else (some false))) else (none)) else (none)) else (some true)
def laws_eqOpS.f (k : Nat) (l0 : List (S49)) (l1 : List (S49)) : Option (Bool) := if (l0.length : Int) = (l1.length : Int) then (laws_eqOpS.l0 k l0 l1 0) else (some false)
set_option maxRecDepth 100000 in
theorem laws_eqOpS.mono_l : ∀ k,(∀ y0 y1 y2,LeO (laws_eqOpS.l0 k y0 y1 y2) (laws_eqOpS.l0 (k + 1) y0 y1 y2))
 | 0 => fun _ _ _ r h => (by cases h)
 | k + 1 => by
  have ih0 := laws_eqOpS.mono_l k
  ·intro y0 y1 y2
   unfold laws_eqOpS.l0
   repeat' first
   | (with_reducible exact ih0 _ _ _)
   | (with_reducible exact LeO.refl _)
   | (with_reducible exact LeO.none _)
   | (with_reducible refine LeO.ite ?_ ?_)
   | (with_reducible refine LeO.bind ?_ (fun _ => ?_))
   | exact ih0 _ _ _
   | exact LeO.none _
   | refine LeO.ite ?_ ?_
   | refine LeO.bind ?_ (fun _ => ?_)
set_option maxRecDepth 100000 in
theorem laws_eqOpS.mono : ∀ a0 a1 k,LeO (laws_eqOpS.f k a0 a1) (laws_eqOpS.f (k + 1) a0 a1) := by
 intro a0 a1 k
 have ih0 := laws_eqOpS.mono_l k
 unfold laws_eqOpS.f
 repeat' first
   | (with_reducible exact ih0 _ _ _)
   | (with_reducible exact LeO.refl _)
   | (with_reducible exact LeO.none _)
   | (with_reducible refine LeO.ite ?_ ?_)
   | (with_reducible refine LeO.bind ?_ (fun _ => ?_))
   | exact ih0 _ _ _
   | exact LeO.none _
   | refine LeO.ite ?_ ?_
   | refine LeO.bind ?_ (fun _ => ?_)
def laws_eqOpS.T6 : Bool × List (List Nat × List Nat) := (true,[([],[]),([],[]),([0,1],[0,1]),([2],[2]),([],[]),([],[]),([4,5],[4,5]),([6],[6]),([3,7],[3,7]),([8],[8])])
def laws_eqOpS.B6 : List Nat := [0,0,3,7,0,0,48,112,255,511]
theorem laws_eqOpS.tab6 : rtab .any (opsOf Try.f19 6) = laws_eqOpS.T6 := by kernel_rfl
theorem laws_eqOpS.bits6 : waitsOk laws_eqOpS.T6.2 laws_eqOpS.B6 = true := by kernel_rfl
set_option maxHeartbeats 8000000 in
set_option maxRecDepth 100000 in
theorem laws_eqOpS.calls (k : Nat) (A0 : Option Addr) (c0 : Nat) (l0 : List (S49)) (A1 : Option Addr) (c1 : Nat) (l1 : List (S49)) (r : Bool) (w : World) (hr0 : Kd.C k49 w A0 l0.length l0) (hc0 : l0.length ≤ c0) (hr1 : Kd.C k49 w A1 l1.length l1) (hc1 : l1.length ≤ c1) (h : laws_eqOpS.f k l0 l1 = some r) :
  Calls Try.prog 19 #[.slice A0 l0.length c0,.slice A1 l1.length c1] w fun e w' => e = .returned (.bool r) ∧ Below w.heap.size w w' := by
 have hu49 := Try.underlying49
 have HR0 := As_ hr0
 have HC0 := As_ hc0
 clear hr0 hc0
 have HR1 := As_ hr1
 have HC1 := As_ hc1
 clear hr1 hc1
 have HB := As_ (Below.refl w.heap.size w)
 have H : (if (l0.length : Int) = (l1.length : Int) then (laws_eqOpS.l0 k l0 l1 0) else (some false)) = some r := h
 clear h
 by_cases c3 : (l0.length : Int) = (l1.length : Int)
 rotate_left
 ·rw [if_neg c3] at H
  have c3b0 : ((l0.length : Int) == (l1.length : Int)) = false := beq_eq_false_iff_ne.mpr c3
  have c3b1 : ((l0.length : Int) != (l1.length : Int)) = true := bne_iff_ne.mpr c3
  have c3b2 : (l0.length == l1.length) = false := by first|simpa using c3|(simp at c3 ⊢;omega)
  obtain rfl := Option.some.inj H
  go_enter Try.func19,Try.ntmps19
  go_wp2
  go_ret
  exact ⟨zE_,zb0 HB.out⟩

 rw [if_pos c3] at H
 have c3b0 : ((l0.length : Int) == (l1.length : Int)) = true := beq_iff_eq.mpr c3
 have c3b1 : ((l0.length : Int) != (l1.length : Int)) = false := bne_eq_false_iff_eq.mpr c3
 have c3b2 : (l0.length == l1.length) = true := by first|simpa using c3|(simp at c3 ⊢;omega)
 clear c3
 have H' := As_ H
 clear H
 go_enter Try.func19,Try.ntmps19
 go_wp2
 go_loopg [5] k (fun kq v5 w' => ∃ (x5_1 : Int),v5 = .int .i64 x5_1 ∧ Aside0 (laws_eqOpS.l0 kq l0 l1 x5_1 = some r) ∧ Aside0 (kq ≤ k) ∧ Aside0 (Below w.heap.size w w'))
 case atStart => exact ⟨(0),zT_,H',⟨Nat.le_refl _⟩,⟨zb0 HB.out⟩⟩
 case round =>
  clear H'
  obtain ⟨x5_1,rfl,HA,HK1,HB⟩ := hrel
  cases gk with
  | zero => exact absurd HA.out (fun h_ => (by cases h_))
  | succ k1 =>
   have H := HA.out
   clear HA
   simp only [laws_eqOpS.l0] at H
   by_cases c4 : x5_1 < (l0.length : Int)
   rotate_left
   ·rw [if_neg c4] at H
    have c4b0 : decide (x5_1 < (l0.length : Int)) = false := deF c4
    clear c4
    obtain rfl := Option.some.inj H
    go_wp2
    go_ret
    exact ⟨zE_,zb0 HB.out⟩
   rw [if_pos c4] at H
   have c4b0 : decide (x5_1 < (l0.length : Int)) = true := deT c4
   clear c4
   by_cases c5 : 0 ≤ x5_1
   rotate_left
   ·rw [if_neg c5] at H
    exact absurd H (by simp)
   rw [if_pos c5] at H
   have c5b0 : decide (0 ≤ x5_1) = true := deT c5
   clear c5
   by_cases c6 : x5_1 < (l1.length : Int)
   rotate_left
   ·rw [if_neg c6] at H
    exact absurd H (by simp)
   rw [if_pos c6] at H
   have c6b0 : decide (x5_1 < (l1.length : Int)) = true := deT c6
   clear c6
   replace H := obS H
   obtain ⟨t128,A70,H⟩ := H
   replace H : (if t128 = true then (laws_eqOpS.l0 k1 l0 l1 (wrap64 (x5_1 + 1))) else (some false)) = some r := H
   have A7 := As_ A70
   clear A70
   by_cases c8 : t128 = true
   rotate_left
   ·replace c8 := Bool.eq_false_iff.mpr c8
    subst c8
    have H1 : (some false) = some r := by rw [if_neg (show ¬ (false = true) by decide)] at H;exact H
    clear H
    have H := H1
    clear H1
    obtain rfl := Option.some.inj H
    try go_wp2
    have n0_ := As_ (bwD HB.out)
    clear HB
    revert n0_;intro HB
    have p126 : 0 ≤ (x5_1 : Int) := odT zA_
    have q126 : x5_1 < (l0.length : Int) := odT zA_
    obtain ⟨ad126,e126,hx126_0,hx126_1⟩ := at_T49 HR0.out x5_1 p126 q126
    have hw126_1 := hx126_1
    have hw126_0 := hx126_0
    cases e126
    replace hx126_0 := bwC HB.out hx126_0
    replace hx126_1 := bwC HB.out hx126_1
    replace p126 := eq_true p126
    replace q126 := eq_true q126
    have p127 : 0 ≤ (x5_1 : Int) := odT zA_
    have q127 : x5_1 < (l1.length : Int) := odT zA_
    obtain ⟨ad127,e127,hx127_0,hx127_1⟩ := at_T49 HR1.out x5_1 p127 q127
    have hw127_1 := hx127_1
    have hw127_0 := hx127_0
    cases e127
    replace hx127_0 := bwC HB.out hx127_0
    replace hx127_1 := bwC HB.out hx127_1
    replace p127 := eq_true p127
    replace q127 := eq_true q127
    refine start_ (n := 10) (S := fun w' => w'.cell? (ad126.add ((x5_1).toNat * 2)) = some (.int .i64 ((rd_T49 l0 x5_1).f0)) ∧ w'.cell? ⟨(ad126.add ((x5_1).toNat * 2)).block,(ad126.add ((x5_1).toNat * 2)).off + 1,none⟩ = some (.int .i64 ((rd_T49 l0 x5_1).f1)) ∧ w'.cell? (ad127.add ((x5_1).toNat * 2)) = some (.int .i64 ((rd_T49 l1 x5_1).f0)) ∧ w'.cell? ⟨(ad127.add ((x5_1).toNat * 2)).block,(ad127.add ((x5_1).toNat * 2)).off + 1,none⟩ = some (.int .i64 ((rd_T49 l1 x5_1).f1))) (ds := []) (bl_ 0 10) (by kernel_rfl) rfl rfl ⟨((HB.out.cell (bwL w _ hw126_0)).trans hw126_0),((HB.out.cell (bwL w _ hw126_1)).trans hw126_1),((HB.out.cell (bwL w _ hw127_0)).trans hw127_0),((HB.out.cell (bwL w _ hw127_1)).trans hw127_1)⟩ (fun hHeld => ?_);refine with_tabW laws_eqOpS.tab6 laws_eqOpS.bits6 (fun HT_ HW_ => ?_)
    generalize wr.drew = w11 at HB hx126_0 hx126_1 hx127_0 hx127_1 hHeld ⊢
    refine pQ 0 17 (bl_ 1 10) HT_ rfl ?_
    refine pQ 1 18 (bl_ 3 10) HT_ rfl ?_
    refine pQ 2 19 (bl_ 7 10) HT_ rfl ?_
    refine pQ 4 21 (bl_ 23 10) HT_ rfl ?_
    refine pQ 5 22 (bl_ 55 10) HT_ rfl ?_
    refine pQ 6 23 (bl_ 119 10) HT_ rfl ?_
    refine tP 3 20 (bl_ 127 10) ?_ HT_ HW_ rfl (.inl ⟨by rfl,?_⟩) hHeld ?_ ?_ ?_;rotate_left;(rintro w' ⟨s0,s1,s2,s3⟩;go_simp;with_reducible rfl);rotate_left;(simp only [Act.put,sq_,i64_w,i32_w];rfl)
    refine tP 7 24 (bl_ 255 10) ?_ HT_ HW_ rfl (.inl ⟨by rfl,?_⟩) hHeld ?_ ?_ ?_;rotate_left;(rintro w' ⟨s0,s1,s2,s3⟩;go_simp;with_reducible rfl);rotate_left;(simp only [Act.put,sq_,i64_w,i32_w];rfl)
    refine one_ (i := 8) (N := some 25) (bl_ 511 10) rfl rfl (one_of HT_.out (by kernel_rfl)) (by decide) (fun K hK => ?_)
    refine goes_ Try.func54 (by kernel_rfl) rfl #[.agg #[.int .i64 ((rd_T49 l0 x5_1).f0),.int .i64 ((rd_T49 l0 x5_1).f1)],.agg #[.int .i64 ((rd_T49 l1 x5_1).f0),.int .i64 ((rd_T49 l1 x5_1).f1)]] (by rfl) rfl rfl zM_ ?_
    with_reducible refine (laws_eqOp.calls ((rd_T49 l0 x5_1).f0) ((rd_T49 l0 x5_1).f1) ((rd_T49 l1 x5_1).f0) ((rd_T49 l1 x5_1).f1) false _ A7.out).mono ?_
    rintro e w12 ⟨rfl,hb⟩
    refine ⟨_,rfl,?_⟩
    have n0_ := As_ (bwT (zb0 HB.out) hb)
    clear HB
    revert n0_;intro HB
    refine hK.out _ _ ⟨((HB.out.cell (bwL w _ hw126_0)).trans hw126_0),((HB.out.cell (bwL w _ hw126_1)).trans hw126_1),((HB.out.cell (bwL w _ hw127_0)).trans hw127_0),((HB.out.cell (bwL w _ hw127_1)).trans hw127_1)⟩ (fun hHeld => ?_)
    clear hK K
    refine norm_ (a' := ?_) ?_ ?_
    rotate_left
    ·show Act.put _ (some 25) _ = _
     simp only [Act.put,sq_,i64_w,i32_w]
     rfl
    refine pQ 9 26 (bl_ 1023 10) HT_ rfl ?_
    refine done_ (done_of HT_.out (by kernel_rfl)) ?_
    try go_wp2
    go_ret
    exact ⟨zE_,zb0 HB.out⟩
   subst c8
   have H1 : (laws_eqOpS.l0 k1 l0 l1 (wrap64 (x5_1 + 1))) = some r := by rw [if_pos rfl] at H;exact H
   clear H
   have H := H1
   clear H1
   have H' := As_ H
   clear H
   try go_wp2
   have n0_ := As_ (bwD HB.out)
   clear HB
   revert n0_;intro HB
   have p126 : 0 ≤ (x5_1 : Int) := odT zA_
   have q126 : x5_1 < (l0.length : Int) := odT zA_
   obtain ⟨ad126,e126,hx126_0,hx126_1⟩ := at_T49 HR0.out x5_1 p126 q126
   have hw126_1 := hx126_1
   have hw126_0 := hx126_0
   cases e126
   replace hx126_0 := bwC HB.out hx126_0
   replace hx126_1 := bwC HB.out hx126_1
   replace p126 := eq_true p126
   replace q126 := eq_true q126
   have p127 : 0 ≤ (x5_1 : Int) := odT zA_
   have q127 : x5_1 < (l1.length : Int) := odT zA_
   obtain ⟨ad127,e127,hx127_0,hx127_1⟩ := at_T49 HR1.out x5_1 p127 q127
   have hw127_1 := hx127_1
   have hw127_0 := hx127_0
   cases e127
   replace hx127_0 := bwC HB.out hx127_0
   replace hx127_1 := bwC HB.out hx127_1
   replace p127 := eq_true p127
   replace q127 := eq_true q127
   refine start_ (n := 10) (S := fun w' => w'.cell? (ad126.add ((x5_1).toNat * 2)) = some (.int .i64 ((rd_T49 l0 x5_1).f0)) ∧ w'.cell? ⟨(ad126.add ((x5_1).toNat * 2)).block,(ad126.add ((x5_1).toNat * 2)).off + 1,none⟩ = some (.int .i64 ((rd_T49 l0 x5_1).f1)) ∧ w'.cell? (ad127.add ((x5_1).toNat * 2)) = some (.int .i64 ((rd_T49 l1 x5_1).f0)) ∧ w'.cell? ⟨(ad127.add ((x5_1).toNat * 2)).block,(ad127.add ((x5_1).toNat * 2)).off + 1,none⟩ = some (.int .i64 ((rd_T49 l1 x5_1).f1))) (ds := []) (bl_ 0 10) (by kernel_rfl) rfl rfl ⟨((HB.out.cell (bwL w _ hw126_0)).trans hw126_0),((HB.out.cell (bwL w _ hw126_1)).trans hw126_1),((HB.out.cell (bwL w _ hw127_0)).trans hw127_0),((HB.out.cell (bwL w _ hw127_1)).trans hw127_1)⟩ (fun hHeld => ?_);refine with_tabW laws_eqOpS.tab6 laws_eqOpS.bits6 (fun HT_ HW_ => ?_)
   generalize wr.drew = w9 at HB hx126_0 hx126_1 hx127_0 hx127_1 hHeld ⊢
   refine pQ 0 17 (bl_ 1 10) HT_ rfl ?_
   refine pQ 1 18 (bl_ 3 10) HT_ rfl ?_
   refine pQ 2 19 (bl_ 7 10) HT_ rfl ?_
   refine pQ 4 21 (bl_ 23 10) HT_ rfl ?_
   refine pQ 5 22 (bl_ 55 10) HT_ rfl ?_
   refine pQ 6 23 (bl_ 119 10) HT_ rfl ?_
   refine tP 3 20 (bl_ 127 10) ?_ HT_ HW_ rfl (.inl ⟨by rfl,?_⟩) hHeld ?_ ?_ ?_;rotate_left;(rintro w' ⟨s0,s1,s2,s3⟩;go_simp;with_reducible rfl);rotate_left;(simp only [Act.put,sq_,i64_w,i32_w];rfl)
   refine tP 7 24 (bl_ 255 10) ?_ HT_ HW_ rfl (.inl ⟨by rfl,?_⟩) hHeld ?_ ?_ ?_;rotate_left;(rintro w' ⟨s0,s1,s2,s3⟩;go_simp;with_reducible rfl);rotate_left;(simp only [Act.put,sq_,i64_w,i32_w];rfl)
   refine one_ (i := 8) (N := some 25) (bl_ 511 10) rfl rfl (one_of HT_.out (by kernel_rfl)) (by decide) (fun K hK => ?_)
   refine goes_ Try.func54 (by kernel_rfl) rfl #[.agg #[.int .i64 ((rd_T49 l0 x5_1).f0),.int .i64 ((rd_T49 l0 x5_1).f1)],.agg #[.int .i64 ((rd_T49 l1 x5_1).f0),.int .i64 ((rd_T49 l1 x5_1).f1)]] (by rfl) rfl rfl zM_ ?_
   with_reducible refine (laws_eqOp.calls ((rd_T49 l0 x5_1).f0) ((rd_T49 l0 x5_1).f1) ((rd_T49 l1 x5_1).f0) ((rd_T49 l1 x5_1).f1) true _ A7.out).mono ?_
   rintro e w10 ⟨rfl,hb⟩
   refine ⟨_,rfl,?_⟩
   have n0_ := As_ (bwT (zb0 HB.out) hb)
   clear HB
   revert n0_;intro HB
   refine hK.out _ _ ⟨((HB.out.cell (bwL w _ hw126_0)).trans hw126_0),((HB.out.cell (bwL w _ hw126_1)).trans hw126_1),((HB.out.cell (bwL w _ hw127_0)).trans hw127_0),((HB.out.cell (bwL w _ hw127_1)).trans hw127_1)⟩ (fun hHeld => ?_)
   clear hK K
   refine norm_ (a' := ?_) ?_ ?_
   rotate_left
   ·show Act.put _ (some 25) _ = _
    simp only [Act.put,sq_,i64_w,i32_w]
    rfl
   refine pQ 9 26 (bl_ 1023 10) HT_ rfl ?_
   refine done_ (done_of HT_.out (by kernel_rfl)) ?_
   try go_wp2
   go_roundg k1
   case measure => have := HK1.out;omega
   case rel => exact ⟨(wrap64 (x5_1 + 1)),zT_,H',⟨by have := HK1.out;omega⟩,⟨zb0 HB.out⟩⟩
end Go.Proofs.Ytonppkaobnfldaa.Q
