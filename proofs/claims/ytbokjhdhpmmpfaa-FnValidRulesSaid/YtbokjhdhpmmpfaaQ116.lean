-- Written by wip/tools/qprint.py (a program of this claim's author) by means of the kit's printer.
import Derived.Test.YtbokjhdhpmmpfaaQ0
import Derived.Test.YtbokjhdhpmmpfaaQ56
namespace Go.Proofs.Ytbokjhdhpmmpfaa.Q
open Go.RowKit Go.Proofs.YtbokjhdhpmmpfaaW.PrintWords Go.Proofs.YtbokjhdhpmmpfaaW.PrintLast Go.Proofs.YtbokjhdhpmmpfaaW.PrintMore
attribute [local go_sem] max2_int min2_int max_two min_two max_three min_three max_four min_four   -- for this text's walks alone
set_option linter.unusedVariables false
set_option linter.unusedSimpArgs false

/-! ### spec_argOf: function 116 -/
def spec_argOf.f (a0 : Int) : Option (Int) := if a0 = 0 then (some 999) else (if a0 = 1 then (some 9) else (if a0 = 13 then (some 9) else (if a0 = 15 then (some 19) else (if a0 = 16 then (some 19) else (some (-1))))))
set_option maxHeartbeats 8000000 in
set_option maxRecDepth 100000 in
theorem spec_argOf.calls (a0 : Int) (r : Int) (w : World) (h : spec_argOf.f a0 = some r) :
  Calls Try.prog 116 #[.int .i64 a0] w fun e w' => e = .returned (.int .i64 r) ∧ Drawn0 w w' := by
 have H : (if a0 = 0 then (some 999) else (if a0 = 1 then (some 9) else (if a0 = 13 then (some 9) else (if a0 = 15 then (some 19) else (if a0 = 16 then (some 19) else (some (-1))))))) = some r := h
 clear h
 by_cases c2 : a0 = 0
 ·rw [if_pos c2] at H
  have c2b0 : (a0 == 0) = true := beq_iff_eq.mpr c2
  have c2b1 : (a0 != 0) = false := bne_eq_false_iff_eq.mpr c2
  clear c2
  obtain rfl := Option.some.inj H
  go_enter Try.func116,Try.ntmps116
  go_wp2
  go_ret
  exact ⟨by first|rfl|(simp;done)|(simp [*];done),by repeat (first|exact Drawn0.refl _|apply Drawn0.step)⟩
 rw [if_neg c2] at H
 have c2b0 : (a0 == 0) = false := beq_eq_false_iff_ne.mpr c2
 have c2b1 : (a0 != 0) = true := bne_iff_ne.mpr c2
 by_cases c3 : a0 = 1
 ·rw [if_pos c3] at H
  have c3b0 : (a0 == 1) = true := beq_iff_eq.mpr c3
  have c3b1 : (a0 != 1) = false := bne_eq_false_iff_eq.mpr c3
  clear c3
  obtain rfl := Option.some.inj H
  go_enter Try.func116,Try.ntmps116
  go_wp2
  go_ret
  exact ⟨by first|rfl|(simp;done)|(simp [*];done),by repeat (first|exact Drawn0.refl _|apply Drawn0.step)⟩
 rw [if_neg c3] at H
 have c3b0 : (a0 == 1) = false := beq_eq_false_iff_ne.mpr c3
 have c3b1 : (a0 != 1) = true := bne_iff_ne.mpr c3
 by_cases c4 : a0 = 13
 ·rw [if_pos c4] at H
  have c4b0 : (a0 == 13) = true := beq_iff_eq.mpr c4
  have c4b1 : (a0 != 13) = false := bne_eq_false_iff_eq.mpr c4
  clear c4
  obtain rfl := Option.some.inj H
  go_enter Try.func116,Try.ntmps116
  go_wp2
  go_ret
  exact ⟨by first|rfl|(simp;done)|(simp [*];done),by repeat (first|exact Drawn0.refl _|apply Drawn0.step)⟩
 rw [if_neg c4] at H
 have c4b0 : (a0 == 13) = false := beq_eq_false_iff_ne.mpr c4
 have c4b1 : (a0 != 13) = true := bne_iff_ne.mpr c4
 by_cases c5 : a0 = 15
 ·rw [if_pos c5] at H
  have c5b0 : (a0 == 15) = true := beq_iff_eq.mpr c5
  have c5b1 : (a0 != 15) = false := bne_eq_false_iff_eq.mpr c5
  clear c5
  obtain rfl := Option.some.inj H
  go_enter Try.func116,Try.ntmps116
  go_wp2
  go_ret
  exact ⟨by first|rfl|(simp;done)|(simp [*];done),by repeat (first|exact Drawn0.refl _|apply Drawn0.step)⟩
 rw [if_neg c5] at H
 have c5b0 : (a0 == 15) = false := beq_eq_false_iff_ne.mpr c5
 have c5b1 : (a0 != 15) = true := bne_iff_ne.mpr c5
 by_cases c6 : a0 = 16
 ·rw [if_pos c6] at H
  have c6b0 : (a0 == 16) = true := beq_iff_eq.mpr c6
  have c6b1 : (a0 != 16) = false := bne_eq_false_iff_eq.mpr c6
  clear c6
  obtain rfl := Option.some.inj H
  go_enter Try.func116,Try.ntmps116
  go_wp2
  go_ret
  exact ⟨by first|rfl|(simp;done)|(simp [*];done),by repeat (first|exact Drawn0.refl _|apply Drawn0.step)⟩
 rw [if_neg c6] at H
 have c6b0 : (a0 == 16) = false := beq_eq_false_iff_ne.mpr c6
 have c6b1 : (a0 != 16) = true := bne_iff_ne.mpr c6
 obtain rfl := Option.some.inj H
 go_enter Try.func116,Try.ntmps116
 go_wp2
 go_ret
 exact ⟨by first|rfl|(simp;done)|(simp [*];done),by repeat (first|exact Drawn0.refl _|apply Drawn0.step)⟩

/-! ### spec_validOp: function 92 -/
def spec_validOp.f (a0_0 : Int) (a0_1 : Int) : Option (Bool) := (spec_argOf.f a0_0).bind fun t117 => ((spec_inRange.f a0_0 0 19).bind fun t118 => (if t118 = true then (if t117 < 0 then (if a0_1 = 0 then (some true) else (if t117 ≥ 0 then ((spec_inRange.f a0_1 0 t117).bind fun t119 => (some t119)) else (some false))) else (if t117 ≥ 0 then ((spec_inRange.f a0_1 0 t117).bind fun t120 => (some t120)) else (some false))) else (some false)))
set_option maxHeartbeats 8000000 in
set_option maxRecDepth 100000 in
theorem spec_validOp.calls (a0_0 : Int) (a0_1 : Int) (r : Bool) (w : World) (h : spec_validOp.f a0_0 a0_1 = some r) :
  Calls Try.prog 92 #[.agg #[.int .i64 a0_0,.int .i64 a0_1]] w fun e w' => e = .returned (.bool r) ∧ Below w.heap.size w w' := by
 have hu75 := Try.underlying75
 have HB := As_ (Below.refl w.heap.size w)
 have H : ((spec_argOf.f a0_0).bind fun t117 => ((spec_inRange.f a0_0 0 19).bind fun t118 => (if t118 = true then (if t117 < 0 then (if a0_1 = 0 then (some true) else (if t117 ≥ 0 then ((spec_inRange.f a0_1 0 t117).bind fun t119 => (some t119)) else (some false))) else (if t117 ≥ 0 then ((spec_inRange.f a0_1 0 t117).bind fun t120 => (some t120)) else (some false))) else (some false)))) = some r := h
 clear h
 replace H := obS H
 obtain ⟨t117,A20,H⟩ := H
 replace H : ((spec_inRange.f a0_0 0 19).bind fun t118 => (if t118 = true then (if t117 < 0 then (if a0_1 = 0 then (some true) else (if t117 ≥ 0 then ((spec_inRange.f a0_1 0 t117).bind fun t119 => (some t119)) else (some false))) else (if t117 ≥ 0 then ((spec_inRange.f a0_1 0 t117).bind fun t120 => (some t120)) else (some false))) else (some false))) = some r := H
 have A2 := As_ A20
 clear A20
 replace H := obS H
 obtain ⟨t118,A30,H⟩ := H
 replace H : (if t118 = true then (if t117 < 0 then (if a0_1 = 0 then (some true) else (if t117 ≥ 0 then ((spec_inRange.f a0_1 0 t117).bind fun t119 => (some t119)) else (some false))) else (if t117 ≥ 0 then ((spec_inRange.f a0_1 0 t117).bind fun t120 => (some t120)) else (some false))) else (some false)) = some r := H
 have A3 := As_ A30
 clear A30
 by_cases c4 : t118 = true
 rotate_left
 ·replace c4 := Bool.eq_false_iff.mpr c4
  subst c4
  have H1 : (some false) = some r := by rw [if_neg (show ¬ (false = true) by decide)] at H;exact H
  clear H
  have H := H1
  clear H1
  obtain rfl := Option.some.inj H
  go_enter Try.func92,Try.ntmps92
  go_wp2_with (first|((with_reducible refine gate_dst (N := 1) rfl ?_);refine box_event ?hg (N := 1) ?hd (cs := #[.int .i64 a0_0,.int .i64 a0_1]) (t := 75) ?hr ?_;(case hd => rfl);(case hg => rfl);(case hr => go_simp <;> rfl);intro gb116 hg w21 hbox hb;have n0_ := As_ (bwT (zb0 HB.out) hb);have n1_ := As_ (hbox);have n2_ := As_ ((by rw [hg];exact (bwZ (zb0 HB.out)) : w.heap.size ≤ gb116));have n3_ := As_ ((by rw [hg];exact (bwZ (zb0 HB.out)) : w.heap.size ≤ gb116));clear HB;revert n0_ n1_ n2_ n3_;intro HB BK116 GW116 GE116;clear hb hbox hg;obtain ⟨hcz22_0,hcz22_1,hfz22_0,hfz22_1⟩ := bk2 BK116.out)|((with_reducible refine gate_callee (f := 116) rfl ?_);refine goesL_ (some 6) rfl rfl Try.func116 (by kernel_rfl) rfl #[.int .i64 a0_0] rfl zM_ ?_;(with_reducible refine (spec_argOf.calls a0_0 t117 _ A2.out).mono ?_);rintro e w' ⟨rfl,⟨nd,rfl⟩⟩;refine ⟨_,rfl,?_⟩)|((with_reducible refine gate_callee (f := 56) rfl ?_);refine goesL_ (some 9) rfl rfl Try.func56 (by kernel_rfl) rfl #[.int .i64 a0_0,.int .i64 0,.int .i64 19] rfl zM_ ?_;(with_reducible refine (spec_inRange.calls a0_0 0 19 false _ A3.out).mono ?_);rintro e w' ⟨rfl,⟨nd,rfl⟩⟩;refine ⟨_,rfl,?_⟩))
  go_ret
  exact ⟨zE_,zb1 HB.out GE116.out⟩

 subst c4
 have H1 : (if t117 < 0 then (if a0_1 = 0 then (some true) else (if t117 ≥ 0 then ((spec_inRange.f a0_1 0 t117).bind fun t119 => (some t119)) else (some false))) else (if t117 ≥ 0 then ((spec_inRange.f a0_1 0 t117).bind fun t120 => (some t120)) else (some false))) = some r := by rw [if_pos rfl] at H;exact H
 clear H
 have H := H1
 clear H1
 by_cases c5 : t117 < 0
 rotate_left
 ·rw [if_neg c5] at H
  have c5b0 : decide (t117 < 0) = false := deF c5
  clear c5
  by_cases c15 : t117 ≥ 0
  rotate_left
  ·rw [if_neg c15] at H
   have c15b0 : decide (0 ≤ t117) = false := deF c15
   clear c15
   obtain rfl := Option.some.inj H
   go_enter Try.func92,Try.ntmps92
   go_wp2_with (first|((with_reducible refine gate_dst (N := 1) rfl ?_);refine box_event ?hg (N := 1) ?hd (cs := #[.int .i64 a0_0,.int .i64 a0_1]) (t := 75) ?hr ?_;(case hd => rfl);(case hg => rfl);(case hr => go_simp <;> rfl);intro gb116 hg w19 hbox hb;have n0_ := As_ (bwT (zb0 HB.out) hb);have n1_ := As_ (hbox);have n2_ := As_ ((by rw [hg];exact (bwZ (zb0 HB.out)) : w.heap.size ≤ gb116));have n3_ := As_ ((by rw [hg];exact (bwZ (zb0 HB.out)) : w.heap.size ≤ gb116));clear HB;revert n0_ n1_ n2_ n3_;intro HB BK116 GW116 GE116;clear hb hbox hg;obtain ⟨hcz20_0,hcz20_1,hfz20_0,hfz20_1⟩ := bk2 BK116.out)|((with_reducible refine gate_callee (f := 116) rfl ?_);refine goesL_ (some 6) rfl rfl Try.func116 (by kernel_rfl) rfl #[.int .i64 a0_0] rfl zM_ ?_;(with_reducible refine (spec_argOf.calls a0_0 t117 _ A2.out).mono ?_);rintro e w' ⟨rfl,⟨nd,rfl⟩⟩;refine ⟨_,rfl,?_⟩)|((with_reducible refine gate_callee (f := 56) rfl ?_);refine goesL_ (some 9) rfl rfl Try.func56 (by kernel_rfl) rfl #[.int .i64 a0_0,.int .i64 0,.int .i64 19] rfl zM_ ?_;(with_reducible refine (spec_inRange.calls a0_0 0 19 true _ A3.out).mono ?_);rintro e w' ⟨rfl,⟨nd,rfl⟩⟩;refine ⟨_,rfl,?_⟩))
   go_ret
   exact ⟨zE_,zb1 HB.out GE116.out⟩
  rw [if_pos c15] at H
  have c15b0 : decide (0 ≤ t117) = true := deT c15
  clear c15
  replace H := obS H
  obtain ⟨t120,A160,H⟩ := H
  replace H : (some t120) = some r := H
  have A16 := As_ A160
  clear A160
  obtain rfl := Option.some.inj H
  go_enter Try.func92,Try.ntmps92
  go_wp2_with (first|((with_reducible refine gate_dst (N := 1) rfl ?_);refine box_event ?hg (N := 1) ?hd (cs := #[.int .i64 a0_0,.int .i64 a0_1]) (t := 75) ?hr ?_;(case hd => rfl);(case hg => rfl);(case hr => go_simp <;> rfl);intro gb116 hg w17 hbox hb;have n0_ := As_ (bwT (zb0 HB.out) hb);have n1_ := As_ (hbox);have n2_ := As_ ((by rw [hg];exact (bwZ (zb0 HB.out)) : w.heap.size ≤ gb116));have n3_ := As_ ((by rw [hg];exact (bwZ (zb0 HB.out)) : w.heap.size ≤ gb116));clear HB;revert n0_ n1_ n2_ n3_;intro HB BK116 GW116 GE116;clear hb hbox hg;obtain ⟨hcz18_0,hcz18_1,hfz18_0,hfz18_1⟩ := bk2 BK116.out)|((with_reducible refine gate_callee (f := 116) rfl ?_);refine goesL_ (some 6) rfl rfl Try.func116 (by kernel_rfl) rfl #[.int .i64 a0_0] rfl zM_ ?_;(with_reducible refine (spec_argOf.calls a0_0 t117 _ A2.out).mono ?_);rintro e w' ⟨rfl,⟨nd,rfl⟩⟩;refine ⟨_,rfl,?_⟩)|((with_reducible refine gate_callee (f := 56) rfl ?_);refine goesL_ (some 9) rfl rfl Try.func56 (by kernel_rfl) rfl #[.int .i64 a0_0,.int .i64 0,.int .i64 19] rfl zM_ ?_;(with_reducible refine (spec_inRange.calls a0_0 0 19 true _ A3.out).mono ?_);rintro e w' ⟨rfl,⟨nd,rfl⟩⟩;refine ⟨_,rfl,?_⟩)|(go_at_call 56;(with_reducible refine (spec_inRange.calls a0_1 0 t117 t120 _ A16.out).mono ?_);rintro e w' ⟨rfl,⟨nd,rfl⟩⟩))
  go_ret
  exact ⟨zE_,zb1 HB.out GE116.out⟩
 rw [if_pos c5] at H
 have c5b0 : decide (t117 < 0) = true := deT c5
 clear c5
 by_cases c6 : a0_1 = 0
 ·rw [if_pos c6] at H
  have c6b0 : (a0_1 == 0) = true := beq_iff_eq.mpr c6
  have c6b1 : (a0_1 != 0) = false := bne_eq_false_iff_eq.mpr c6
  clear c6
  obtain rfl := Option.some.inj H
  go_enter Try.func92,Try.ntmps92
  go_wp2_with (first|((with_reducible refine gate_dst (N := 1) rfl ?_);refine box_event ?hg (N := 1) ?hd (cs := #[.int .i64 a0_0,.int .i64 a0_1]) (t := 75) ?hr ?_;(case hd => rfl);(case hg => rfl);(case hr => go_simp <;> rfl);intro gb116 hg w7 hbox hb;have n0_ := As_ (bwT (zb0 HB.out) hb);have n1_ := As_ (hbox);have n2_ := As_ ((by rw [hg];exact (bwZ (zb0 HB.out)) : w.heap.size ≤ gb116));have n3_ := As_ ((by rw [hg];exact (bwZ (zb0 HB.out)) : w.heap.size ≤ gb116));clear HB;revert n0_ n1_ n2_ n3_;intro HB BK116 GW116 GE116;clear hb hbox hg;obtain ⟨hcz8_0,hcz8_1,hfz8_0,hfz8_1⟩ := bk2 BK116.out)|((with_reducible refine gate_callee (f := 116) rfl ?_);refine goesL_ (some 6) rfl rfl Try.func116 (by kernel_rfl) rfl #[.int .i64 a0_0] rfl zM_ ?_;(with_reducible refine (spec_argOf.calls a0_0 t117 _ A2.out).mono ?_);rintro e w' ⟨rfl,⟨nd,rfl⟩⟩;refine ⟨_,rfl,?_⟩)|((with_reducible refine gate_callee (f := 56) rfl ?_);refine goesL_ (some 9) rfl rfl Try.func56 (by kernel_rfl) rfl #[.int .i64 a0_0,.int .i64 0,.int .i64 19] rfl zM_ ?_;(with_reducible refine (spec_inRange.calls a0_0 0 19 true _ A3.out).mono ?_);rintro e w' ⟨rfl,⟨nd,rfl⟩⟩;refine ⟨_,rfl,?_⟩))
  go_ret
  exact ⟨zE_,zb1 HB.out GE116.out⟩
 rw [if_neg c6] at H
 have c6b0 : (a0_1 == 0) = false := beq_eq_false_iff_ne.mpr c6
 have c6b1 : (a0_1 != 0) = true := bne_iff_ne.mpr c6
 by_cases c9 : t117 ≥ 0
 rotate_left
 ·rw [if_neg c9] at H
  have c9b0 : decide (0 ≤ t117) = false := deF c9
  clear c9
  obtain rfl := Option.some.inj H
  go_enter Try.func92,Try.ntmps92
  go_wp2_with (first|((with_reducible refine gate_dst (N := 1) rfl ?_);refine box_event ?hg (N := 1) ?hd (cs := #[.int .i64 a0_0,.int .i64 a0_1]) (t := 75) ?hr ?_;(case hd => rfl);(case hg => rfl);(case hr => go_simp <;> rfl);intro gb116 hg w13 hbox hb;have n0_ := As_ (bwT (zb0 HB.out) hb);have n1_ := As_ (hbox);have n2_ := As_ ((by rw [hg];exact (bwZ (zb0 HB.out)) : w.heap.size ≤ gb116));have n3_ := As_ ((by rw [hg];exact (bwZ (zb0 HB.out)) : w.heap.size ≤ gb116));clear HB;revert n0_ n1_ n2_ n3_;intro HB BK116 GW116 GE116;clear hb hbox hg;obtain ⟨hcz14_0,hcz14_1,hfz14_0,hfz14_1⟩ := bk2 BK116.out)|((with_reducible refine gate_callee (f := 116) rfl ?_);refine goesL_ (some 6) rfl rfl Try.func116 (by kernel_rfl) rfl #[.int .i64 a0_0] rfl zM_ ?_;(with_reducible refine (spec_argOf.calls a0_0 t117 _ A2.out).mono ?_);rintro e w' ⟨rfl,⟨nd,rfl⟩⟩;refine ⟨_,rfl,?_⟩)|((with_reducible refine gate_callee (f := 56) rfl ?_);refine goesL_ (some 9) rfl rfl Try.func56 (by kernel_rfl) rfl #[.int .i64 a0_0,.int .i64 0,.int .i64 19] rfl zM_ ?_;(with_reducible refine (spec_inRange.calls a0_0 0 19 true _ A3.out).mono ?_);rintro e w' ⟨rfl,⟨nd,rfl⟩⟩;refine ⟨_,rfl,?_⟩))
  go_ret
  exact ⟨zE_,zb1 HB.out GE116.out⟩
 rw [if_pos c9] at H
 have c9b0 : decide (0 ≤ t117) = true := deT c9
 clear c9
 replace H := obS H
 obtain ⟨t119,A100,H⟩ := H
 replace H : (some t119) = some r := H
 have A10 := As_ A100
 clear A100
 obtain rfl := Option.some.inj H
 go_enter Try.func92,Try.ntmps92
 go_wp2_with (first|((with_reducible refine gate_dst (N := 1) rfl ?_);refine box_event ?hg (N := 1) ?hd (cs := #[.int .i64 a0_0,.int .i64 a0_1]) (t := 75) ?hr ?_;(case hd => rfl);(case hg => rfl);(case hr => go_simp <;> rfl);intro gb116 hg w11 hbox hb;have n0_ := As_ (bwT (zb0 HB.out) hb);have n1_ := As_ (hbox);have n2_ := As_ ((by rw [hg];exact (bwZ (zb0 HB.out)) : w.heap.size ≤ gb116));have n3_ := As_ ((by rw [hg];exact (bwZ (zb0 HB.out)) : w.heap.size ≤ gb116));clear HB;revert n0_ n1_ n2_ n3_;intro HB BK116 GW116 GE116;clear hb hbox hg;obtain ⟨hcz12_0,hcz12_1,hfz12_0,hfz12_1⟩ := bk2 BK116.out)|((with_reducible refine gate_callee (f := 116) rfl ?_);refine goesL_ (some 6) rfl rfl Try.func116 (by kernel_rfl) rfl #[.int .i64 a0_0] rfl zM_ ?_;(with_reducible refine (spec_argOf.calls a0_0 t117 _ A2.out).mono ?_);rintro e w' ⟨rfl,⟨nd,rfl⟩⟩;refine ⟨_,rfl,?_⟩)|((with_reducible refine gate_callee (f := 56) rfl ?_);refine goesL_ (some 9) rfl rfl Try.func56 (by kernel_rfl) rfl #[.int .i64 a0_0,.int .i64 0,.int .i64 19] rfl zM_ ?_;(with_reducible refine (spec_inRange.calls a0_0 0 19 true _ A3.out).mono ?_);rintro e w' ⟨rfl,⟨nd,rfl⟩⟩;refine ⟨_,rfl,?_⟩)|(go_at_call 56;(with_reducible refine (spec_inRange.calls a0_1 0 t117 t119 _ A10.out).mono ?_);rintro e w' ⟨rfl,⟨nd,rfl⟩⟩))
 go_ret
 exact ⟨zE_,zb1 HB.out GE116.out⟩
end Go.Proofs.Ytbokjhdhpmmpfaa.Q
