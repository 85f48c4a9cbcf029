-- Written by wip/tools/qprint.py (a program of this claim's author) by means of the kit's printer.
import Derived.Test.YtbokjhdhpmmpfaaDoorQ0
namespace Go.Proofs.YtbokjhdhpmmpfaaDoor.Q
open Go.RowKit Go.Proofs.YtbokjhdhpmmpfaaDoorW.PrintWords Go.Proofs.YtbokjhdhpmmpfaaDoorW.PrintLast Go.Proofs.YtbokjhdhpmmpfaaDoorW.PrintMore
attribute [local go_sem] max2_int min2_int max_two min_two max_three min_three max_four min_four   -- for this text's walks alone
set_option linter.unusedVariables false
set_option linter.unusedSimpArgs false

/-! ### laws_szOpS: function 4 -/
def laws_szOpS.f (l0 : List (S34)) (a1 : Int) : Option (Int) := if (wrap64 (a1 - (l0.length : Int))) < 0 then (some (-1)) else (some (wrap64 (a1 - (l0.length : Int))))
set_option maxHeartbeats 8000000 in
set_option maxRecDepth 100000 in
theorem laws_szOpS.calls (A0 : Option Addr) (c0 : Nat) (l0 : List (S34)) (a1 : Int) (r : Int) (w : World) (hr0 : Kd.C k34 w A0 l0.length l0) (hc0 : l0.length ≤ c0) (h : laws_szOpS.f l0 a1 = some r) :
    Calls Tryd.prog 4 #[.slice A0 l0.length c0, .int .i64 a1] w fun e w' => e = .returned (.int .i64 r) ∧ Drawn0 w w' := by
  have HR0 := As_ hr0
  have HC0 := As_ hc0
  clear hr0 hc0
  have H : (if (wrap64 (a1 - (l0.length : Int))) < 0 then (some (-1)) else (some (wrap64 (a1 - (l0.length : Int))))) = some r := h
  clear h
  by_cases c3 : (wrap64 (a1 - (l0.length : Int))) < 0
  · rw [if_pos c3] at H
    have c3b0 : decide ((wrap64 (a1 - (l0.length : Int))) < 0) = true := deT c3
    clear c3
    obtain rfl := Option.some.inj H
    go_enter Tryd.func4, Tryd.ntmps4
    go_wp2
    go_ret
    exact ⟨by first | rfl | (simp; done) | (simp [*]; done), by repeat (first | exact Drawn0.refl _ | apply Drawn0.step)⟩
  · rw [if_neg c3] at H
    have c3b0 : decide ((wrap64 (a1 - (l0.length : Int))) < 0) = false := deF c3
    clear c3
    obtain rfl := Option.some.inj H
    go_enter Tryd.func4, Tryd.ntmps4
    go_wp2
    go_ret
    exact ⟨by first | rfl | (simp; done) | (simp [*]; done), by repeat (first | exact Drawn0.refl _ | apply Drawn0.step)⟩

/-! ### spec_argOf: function 20 -/
def spec_argOf.f (a0 : Int) : Option (Int) := if a0 = 0 then (some 999) else (if a0 = 1 then (some 9) else (if a0 = 13 then (some 9) else (if a0 = 15 then (some 19) else (if a0 = 16 then (some 19) else (some (-1))))))
set_option maxHeartbeats 8000000 in
set_option maxRecDepth 100000 in
theorem spec_argOf.calls (a0 : Int) (r : Int) (w : World) (h : spec_argOf.f a0 = some r) :
  Calls Tryd.prog 20 #[.int .i64 a0] w fun e w' => e = .returned (.int .i64 r) ∧ Drawn0 w w' := by
 have H : (if a0 = 0 then (some 999) else (if a0 = 1 then (some 9) else (if a0 = 13 then (some 9) else (if a0 = 15 then (some 19) else (if a0 = 16 then (some 19) else (some (-1))))))) = some r := h
 clear h
 by_cases c2 : a0 = 0
 ·rw [if_pos c2] at H
  have c2b0 : (a0 == 0) = true := beq_iff_eq.mpr c2
  have c2b1 : (a0 != 0) = false := bne_eq_false_iff_eq.mpr c2
  clear c2
  obtain rfl := Option.some.inj H
  go_enter Tryd.func20,Tryd.ntmps20
  go_wp2
  go_ret
  exact ⟨by first|rfl|(simp;done)|(simp [*];done),by repeat (first|exact Drawn0.refl _|apply Drawn0.step)⟩
 rw [if_neg c2] at H
 have c2b0 : (a0 == 0) = false := beq_eq_false_iff_ne.mpr c2
 have c2b1 : (a0 != 0) = true := bne_iff_ne.mpr c2
 by_cases c3 : a0 = 1
 ·rw [if_pos c3] at H
  have c3b0 : (a0 == 1) = true := beq_iff_eq.mpr c3
  have c3b1 : (a0 != 1) = false := bne_eq_false_iff_eq.mpr c3
  clear c3
  obtain rfl := Option.some.inj H
  go_enter Tryd.func20,Tryd.ntmps20
  go_wp2
  go_ret
  exact ⟨by first|rfl|(simp;done)|(simp [*];done),by repeat (first|exact Drawn0.refl _|apply Drawn0.step)⟩
 rw [if_neg c3] at H
 have c3b0 : (a0 == 1) = false := beq_eq_false_iff_ne.mpr c3
 have c3b1 : (a0 != 1) = true := bne_iff_ne.mpr c3
 by_cases c4 : a0 = 13
 ·rw [if_pos c4] at H
  have c4b0 : (a0 == 13) = true := beq_iff_eq.mpr c4
  have c4b1 : (a0 != 13) = false := bne_eq_false_iff_eq.mpr c4
  clear c4
  obtain rfl := Option.some.inj H
  go_enter Tryd.func20,Tryd.ntmps20
  go_wp2
  go_ret
  exact ⟨by first|rfl|(simp;done)|(simp [*];done),by repeat (first|exact Drawn0.refl _|apply Drawn0.step)⟩
 rw [if_neg c4] at H
 have c4b0 : (a0 == 13) = false := beq_eq_false_iff_ne.mpr c4
 have c4b1 : (a0 != 13) = true := bne_iff_ne.mpr c4
 by_cases c5 : a0 = 15
 ·rw [if_pos c5] at H
  have c5b0 : (a0 == 15) = true := beq_iff_eq.mpr c5
  have c5b1 : (a0 != 15) = false := bne_eq_false_iff_eq.mpr c5
  clear c5
  obtain rfl := Option.some.inj H
  go_enter Tryd.func20,Tryd.ntmps20
  go_wp2
  go_ret
  exact ⟨by first|rfl|(simp;done)|(simp [*];done),by repeat (first|exact Drawn0.refl _|apply Drawn0.step)⟩
 rw [if_neg c5] at H
 have c5b0 : (a0 == 15) = false := beq_eq_false_iff_ne.mpr c5
 have c5b1 : (a0 != 15) = true := bne_iff_ne.mpr c5
 by_cases c6 : a0 = 16
 ·rw [if_pos c6] at H
  have c6b0 : (a0 == 16) = true := beq_iff_eq.mpr c6
  have c6b1 : (a0 != 16) = false := bne_eq_false_iff_eq.mpr c6
  clear c6
  obtain rfl := Option.some.inj H
  go_enter Tryd.func20,Tryd.ntmps20
  go_wp2
  go_ret
  exact ⟨by first|rfl|(simp;done)|(simp [*];done),by repeat (first|exact Drawn0.refl _|apply Drawn0.step)⟩
 rw [if_neg c6] at H
 have c6b0 : (a0 == 16) = false := beq_eq_false_iff_ne.mpr c6
 have c6b1 : (a0 != 16) = true := bne_iff_ne.mpr c6
 obtain rfl := Option.some.inj H
 go_enter Tryd.func20,Tryd.ntmps20
 go_wp2
 go_ret
 exact ⟨by first|rfl|(simp;done)|(simp [*];done),by repeat (first|exact Drawn0.refl _|apply Drawn0.step)⟩

/-! ### spec_inRange: function 26 -/
def spec_inRange.f (a0 : Int) (a1 : Int) (a2 : Int) : Option (Bool) := if a1 ≤ a0 then (some (decide (a0 ≤ a2))) else (some false)
set_option maxHeartbeats 8000000 in
set_option maxRecDepth 100000 in
theorem spec_inRange.calls (a0 : Int) (a1 : Int) (a2 : Int) (r : Bool) (w : World) (h : spec_inRange.f a0 a1 a2 = some r) :
    Calls Tryd.prog 26 #[.int .i64 a0, .int .i64 a1, .int .i64 a2] w fun e w' => e = .returned (.bool r) ∧ Drawn0 w w' := by
  have H : (if a1 ≤ a0 then (some (decide (a0 ≤ a2))) else (some false)) = some r := h
  clear h
  by_cases c4 : a1 ≤ a0
  · rw [if_pos c4] at H
    have c4b0 : decide (a1 ≤ a0) = true := deT c4
    clear c4
    obtain rfl := Option.some.inj H
    go_enter Tryd.func26, Tryd.ntmps26
    go_wp2
    go_ret
    exact ⟨by first | rfl | (simp; done) | (simp [*]; done), by repeat (first | exact Drawn0.refl _ | apply Drawn0.step)⟩
  · rw [if_neg c4] at H
    have c4b0 : decide (a1 ≤ a0) = false := deF c4
    clear c4
    obtain rfl := Option.some.inj H
    go_enter Tryd.func26, Tryd.ntmps26
    go_wp2
    go_ret
    exact ⟨by first | rfl | (simp; done) | (simp [*]; done), by repeat (first | exact Drawn0.refl _ | apply Drawn0.step)⟩

/-! ### spec_validOp: function 19 -/
def spec_validOp.f (a0_0 : Int) (a0_1 : Int) : Option (Bool) := (spec_argOf.f a0_0).bind fun t102 => ((spec_inRange.f a0_0 0 19).bind fun t103 => (if t103 = true then (if t102 < 0 then (if a0_1 = 0 then (some true) else (if t102 ≥ 0 then ((spec_inRange.f a0_1 0 t102).bind fun t104 => (some t104)) else (some false))) else (if t102 ≥ 0 then ((spec_inRange.f a0_1 0 t102).bind fun t105 => (some t105)) else (some false))) else (some false)))
set_option maxHeartbeats 8000000 in
set_option maxRecDepth 100000 in
theorem spec_validOp.calls (a0_0 : Int) (a0_1 : Int) (r : Bool) (w : World) (h : spec_validOp.f a0_0 a0_1 = some r) :
  Calls Tryd.prog 19 #[.agg #[.int .i64 a0_0,.int .i64 a0_1]] w fun e w' => e = .returned (.bool r) ∧ Below w.heap.size w w' := by
 have hu32 := Tryd.underlying32
 have HB := As_ (Below.refl w.heap.size w)
 have H : ((spec_argOf.f a0_0).bind fun t102 => ((spec_inRange.f a0_0 0 19).bind fun t103 => (if t103 = true then (if t102 < 0 then (if a0_1 = 0 then (some true) else (if t102 ≥ 0 then ((spec_inRange.f a0_1 0 t102).bind fun t104 => (some t104)) else (some false))) else (if t102 ≥ 0 then ((spec_inRange.f a0_1 0 t102).bind fun t105 => (some t105)) else (some false))) else (some false)))) = some r := h
 clear h
 replace H := obS H
 obtain ⟨t102,A20,H⟩ := H
 replace H : ((spec_inRange.f a0_0 0 19).bind fun t103 => (if t103 = true then (if t102 < 0 then (if a0_1 = 0 then (some true) else (if t102 ≥ 0 then ((spec_inRange.f a0_1 0 t102).bind fun t104 => (some t104)) else (some false))) else (if t102 ≥ 0 then ((spec_inRange.f a0_1 0 t102).bind fun t105 => (some t105)) else (some false))) else (some false))) = some r := H
 have A2 := As_ A20
 clear A20
 replace H := obS H
 obtain ⟨t103,A30,H⟩ := H
 replace H : (if t103 = true then (if t102 < 0 then (if a0_1 = 0 then (some true) else (if t102 ≥ 0 then ((spec_inRange.f a0_1 0 t102).bind fun t104 => (some t104)) else (some false))) else (if t102 ≥ 0 then ((spec_inRange.f a0_1 0 t102).bind fun t105 => (some t105)) else (some false))) else (some false)) = some r := H
 have A3 := As_ A30
 clear A30
 by_cases c4 : t103 = true
 rotate_left
 ·replace c4 := Bool.eq_false_iff.mpr c4
  subst c4
  have H1 : (some false) = some r := by rw [if_neg (show ¬ (false = true) by decide)] at H;exact H
  clear H
  have H := H1
  clear H1
  obtain rfl := Option.some.inj H
  go_enter Tryd.func19,Tryd.ntmps19
  go_wp2_with (first|((with_reducible refine gate_dst (N := 1) rfl ?_);refine box_event ?hg (N := 1) ?hd (cs := #[.int .i64 a0_0,.int .i64 a0_1]) (t := 32) ?hr ?_;(case hd => rfl);(case hg => rfl);(case hr => go_simp <;> rfl);intro gb101 hg w21 hbox hb;have n0_ := As_ (bwT (zb0 HB.out) hb);have n1_ := As_ (hbox);have n2_ := As_ ((by rw [hg];exact (bwZ (zb0 HB.out)) : w.heap.size ≤ gb101));have n3_ := As_ ((by rw [hg];exact (bwZ (zb0 HB.out)) : w.heap.size ≤ gb101));clear HB;revert n0_ n1_ n2_ n3_;intro HB BK101 GW101 GE101;clear hb hbox hg;obtain ⟨hcz22_0,hcz22_1,hfz22_0,hfz22_1⟩ := bk2 BK101.out)|((with_reducible refine gate_callee (f := 20) rfl ?_);refine goesL_ (some 6) rfl rfl Tryd.func20 (by kernel_rfl) rfl #[.int .i64 a0_0] rfl zM_ ?_;(with_reducible refine (spec_argOf.calls a0_0 t102 _ A2.out).mono ?_);rintro e w' ⟨rfl,⟨nd,rfl⟩⟩;refine ⟨_,rfl,?_⟩)|((with_reducible refine gate_callee (f := 26) rfl ?_);refine goesL_ (some 9) rfl rfl Tryd.func26 (by kernel_rfl) rfl #[.int .i64 a0_0,.int .i64 0,.int .i64 19] rfl zM_ ?_;(with_reducible refine (spec_inRange.calls a0_0 0 19 false _ A3.out).mono ?_);rintro e w' ⟨rfl,⟨nd,rfl⟩⟩;refine ⟨_,rfl,?_⟩))
  go_ret
  exact ⟨zE_,zb1 HB.out GE101.out⟩

 subst c4
 have H1 : (if t102 < 0 then (if a0_1 = 0 then (some true) else (if t102 ≥ 0 then ((spec_inRange.f a0_1 0 t102).bind fun t104 => (some t104)) else (some false))) else (if t102 ≥ 0 then ((spec_inRange.f a0_1 0 t102).bind fun t105 => (some t105)) else (some false))) = some r := by rw [if_pos rfl] at H;exact H
 clear H
 have H := H1
 clear H1
 by_cases c5 : t102 < 0
 rotate_left
 ·rw [if_neg c5] at H
  have c5b0 : decide (t102 < 0) = false := deF c5
  clear c5
  by_cases c15 : t102 ≥ 0
  rotate_left
  ·rw [if_neg c15] at H
   have c15b0 : decide (0 ≤ t102) = false := deF c15
   clear c15
   obtain rfl := Option.some.inj H
   go_enter Tryd.func19,Tryd.ntmps19
   go_wp2_with (first|((with_reducible refine gate_dst (N := 1) rfl ?_);refine box_event ?hg (N := 1) ?hd (cs := #[.int .i64 a0_0,.int .i64 a0_1]) (t := 32) ?hr ?_;(case hd => rfl);(case hg => rfl);(case hr => go_simp <;> rfl);intro gb101 hg w19 hbox hb;have n0_ := As_ (bwT (zb0 HB.out) hb);have n1_ := As_ (hbox);have n2_ := As_ ((by rw [hg];exact (bwZ (zb0 HB.out)) : w.heap.size ≤ gb101));have n3_ := As_ ((by rw [hg];exact (bwZ (zb0 HB.out)) : w.heap.size ≤ gb101));clear HB;revert n0_ n1_ n2_ n3_;intro HB BK101 GW101 GE101;clear hb hbox hg;obtain ⟨hcz20_0,hcz20_1,hfz20_0,hfz20_1⟩ := bk2 BK101.out)|((with_reducible refine gate_callee (f := 20) rfl ?_);refine goesL_ (some 6) rfl rfl Tryd.func20 (by kernel_rfl) rfl #[.int .i64 a0_0] rfl zM_ ?_;(with_reducible refine (spec_argOf.calls a0_0 t102 _ A2.out).mono ?_);rintro e w' ⟨rfl,⟨nd,rfl⟩⟩;refine ⟨_,rfl,?_⟩)|((with_reducible refine gate_callee (f := 26) rfl ?_);refine goesL_ (some 9) rfl rfl Tryd.func26 (by kernel_rfl) rfl #[.int .i64 a0_0,.int .i64 0,.int .i64 19] rfl zM_ ?_;(with_reducible refine (spec_inRange.calls a0_0 0 19 true _ A3.out).mono ?_);rintro e w' ⟨rfl,⟨nd,rfl⟩⟩;refine ⟨_,rfl,?_⟩))
   go_ret
   exact ⟨zE_,zb1 HB.out GE101.out⟩
  rw [if_pos c15] at H
  have c15b0 : decide (0 ≤ t102) = true := deT c15
  clear c15
  replace H := obS H
  obtain ⟨t105,A160,H⟩ := H
  replace H : (some t105) = some r := H
  have A16 := As_ A160
  clear A160
  obtain rfl := Option.some.inj H
  go_enter Tryd.func19,Tryd.ntmps19
  go_wp2_with (first|((with_reducible refine gate_dst (N := 1) rfl ?_);refine box_event ?hg (N := 1) ?hd (cs := #[.int .i64 a0_0,.int .i64 a0_1]) (t := 32) ?hr ?_;(case hd => rfl);(case hg => rfl);(case hr => go_simp <;> rfl);intro gb101 hg w17 hbox hb;have n0_ := As_ (bwT (zb0 HB.out) hb);have n1_ := As_ (hbox);have n2_ := As_ ((by rw [hg];exact (bwZ (zb0 HB.out)) : w.heap.size ≤ gb101));have n3_ := As_ ((by rw [hg];exact (bwZ (zb0 HB.out)) : w.heap.size ≤ gb101));clear HB;revert n0_ n1_ n2_ n3_;intro HB BK101 GW101 GE101;clear hb hbox hg;obtain ⟨hcz18_0,hcz18_1,hfz18_0,hfz18_1⟩ := bk2 BK101.out)|((with_reducible refine gate_callee (f := 20) rfl ?_);refine goesL_ (some 6) rfl rfl Tryd.func20 (by kernel_rfl) rfl #[.int .i64 a0_0] rfl zM_ ?_;(with_reducible refine (spec_argOf.calls a0_0 t102 _ A2.out).mono ?_);rintro e w' ⟨rfl,⟨nd,rfl⟩⟩;refine ⟨_,rfl,?_⟩)|((with_reducible refine gate_callee (f := 26) rfl ?_);refine goesL_ (some 9) rfl rfl Tryd.func26 (by kernel_rfl) rfl #[.int .i64 a0_0,.int .i64 0,.int .i64 19] rfl zM_ ?_;(with_reducible refine (spec_inRange.calls a0_0 0 19 true _ A3.out).mono ?_);rintro e w' ⟨rfl,⟨nd,rfl⟩⟩;refine ⟨_,rfl,?_⟩)|(go_at_call 26;(with_reducible refine (spec_inRange.calls a0_1 0 t102 t105 _ A16.out).mono ?_);rintro e w' ⟨rfl,⟨nd,rfl⟩⟩))
  go_ret
  exact ⟨zE_,zb1 HB.out GE101.out⟩
 rw [if_pos c5] at H
 have c5b0 : decide (t102 < 0) = true := deT c5
 clear c5
 by_cases c6 : a0_1 = 0
 ·rw [if_pos c6] at H
  have c6b0 : (a0_1 == 0) = true := beq_iff_eq.mpr c6
  have c6b1 : (a0_1 != 0) = false := bne_eq_false_iff_eq.mpr c6
  clear c6
  obtain rfl := Option.some.inj H
  go_enter Tryd.func19,Tryd.ntmps19
  go_wp2_with (first|((with_reducible refine gate_dst (N := 1) rfl ?_);refine box_event ?hg (N := 1) ?hd (cs := #[.int .i64 a0_0,.int .i64 a0_1]) (t := 32) ?hr ?_;(case hd => rfl);(case hg => rfl);(case hr => go_simp <;> rfl);intro gb101 hg w7 hbox hb;have n0_ := As_ (bwT (zb0 HB.out) hb);have n1_ := As_ (hbox);have n2_ := As_ ((by rw [hg];exact (bwZ (zb0 HB.out)) : w.heap.size ≤ gb101));have n3_ := As_ ((by rw [hg];exact (bwZ (zb0 HB.out)) : w.heap.size ≤ gb101));clear HB;revert n0_ n1_ n2_ n3_;intro HB BK101 GW101 GE101;clear hb hbox hg;obtain ⟨hcz8_0,hcz8_1,hfz8_0,hfz8_1⟩ := bk2 BK101.out)|((with_reducible refine gate_callee (f := 20) rfl ?_);refine goesL_ (some 6) rfl rfl Tryd.func20 (by kernel_rfl) rfl #[.int .i64 a0_0] rfl zM_ ?_;(with_reducible refine (spec_argOf.calls a0_0 t102 _ A2.out).mono ?_);rintro e w' ⟨rfl,⟨nd,rfl⟩⟩;refine ⟨_,rfl,?_⟩)|((with_reducible refine gate_callee (f := 26) rfl ?_);refine goesL_ (some 9) rfl rfl Tryd.func26 (by kernel_rfl) rfl #[.int .i64 a0_0,.int .i64 0,.int .i64 19] rfl zM_ ?_;(with_reducible refine (spec_inRange.calls a0_0 0 19 true _ A3.out).mono ?_);rintro e w' ⟨rfl,⟨nd,rfl⟩⟩;refine ⟨_,rfl,?_⟩))
  go_ret
  exact ⟨zE_,zb1 HB.out GE101.out⟩
 rw [if_neg c6] at H
 have c6b0 : (a0_1 == 0) = false := beq_eq_false_iff_ne.mpr c6
 have c6b1 : (a0_1 != 0) = true := bne_iff_ne.mpr c6
 by_cases c9 : t102 ≥ 0
 rotate_left
 ·rw [if_neg c9] at H
  have c9b0 : decide (0 ≤ t102) = false := deF c9
  clear c9
  obtain rfl := Option.some.inj H
  go_enter Tryd.func19,Tryd.ntmps19
  go_wp2_with (first|((with_reducible refine gate_dst (N := 1) rfl ?_);refine box_event ?hg (N := 1) ?hd (cs := #[.int .i64 a0_0,.int .i64 a0_1]) (t := 32) ?hr ?_;(case hd => rfl);(case hg => rfl);(case hr => go_simp <;> rfl);intro gb101 hg w13 hbox hb;have n0_ := As_ (bwT (zb0 HB.out) hb);have n1_ := As_ (hbox);have n2_ := As_ ((by rw [hg];exact (bwZ (zb0 HB.out)) : w.heap.size ≤ gb101));have n3_ := As_ ((by rw [hg];exact (bwZ (zb0 HB.out)) : w.heap.size ≤ gb101));clear HB;revert n0_ n1_ n2_ n3_;intro HB BK101 GW101 GE101;clear hb hbox hg;obtain ⟨hcz14_0,hcz14_1,hfz14_0,hfz14_1⟩ := bk2 BK101.out)|((with_reducible refine gate_callee (f := 20) rfl ?_);refine goesL_ (some 6) rfl rfl Tryd.func20 (by kernel_rfl) rfl #[.int .i64 a0_0] rfl zM_ ?_;(with_reducible refine (spec_argOf.calls a0_0 t102 _ A2.out).mono ?_);rintro e w' ⟨rfl,⟨nd,rfl⟩⟩;refine ⟨_,rfl,?_⟩)|((with_reducible refine gate_callee (f := 26) rfl ?_);refine goesL_ (some 9) rfl rfl Tryd.func26 (by kernel_rfl) rfl #[.int .i64 a0_0,.int .i64 0,.int .i64 19] rfl zM_ ?_;(with_reducible refine (spec_inRange.calls a0_0 0 19 true _ A3.out).mono ?_);rintro e w' ⟨rfl,⟨nd,rfl⟩⟩;refine ⟨_,rfl,?_⟩))
  go_ret
  exact ⟨zE_,zb1 HB.out GE101.out⟩
 rw [if_pos c9] at H
 have c9b0 : decide (0 ≤ t102) = true := deT c9
 clear c9
 replace H := obS H
 obtain ⟨t104,A100,H⟩ := H
 replace H : (some t104) = some r := H
 have A10 := As_ A100
 clear A100
 obtain rfl := Option.some.inj H
 go_enter Tryd.func19,Tryd.ntmps19
 go_wp2_with (first|((with_reducible refine gate_dst (N := 1) rfl ?_);refine box_event ?hg (N := 1) ?hd (cs := #[.int .i64 a0_0,.int .i64 a0_1]) (t := 32) ?hr ?_;(case hd => rfl);(case hg => rfl);(case hr => go_simp <;> rfl);intro gb101 hg w11 hbox hb;have n0_ := As_ (bwT (zb0 HB.out) hb);have n1_ := As_ (hbox);have n2_ := As_ ((by rw [hg];exact (bwZ (zb0 HB.out)) : w.heap.size ≤ gb101));have n3_ := As_ ((by rw [hg];exact (bwZ (zb0 HB.out)) : w.heap.size ≤ gb101));clear HB;revert n0_ n1_ n2_ n3_;intro HB BK101 GW101 GE101;clear hb hbox hg;obtain ⟨hcz12_0,hcz12_1,hfz12_0,hfz12_1⟩ := bk2 BK101.out)|((with_reducible refine gate_callee (f := 20) rfl ?_);refine goesL_ (some 6) rfl rfl Tryd.func20 (by kernel_rfl) rfl #[.int .i64 a0_0] rfl zM_ ?_;(with_reducible refine (spec_argOf.calls a0_0 t102 _ A2.out).mono ?_);rintro e w' ⟨rfl,⟨nd,rfl⟩⟩;refine ⟨_,rfl,?_⟩)|((with_reducible refine gate_callee (f := 26) rfl ?_);refine goesL_ (some 9) rfl rfl Tryd.func26 (by kernel_rfl) rfl #[.int .i64 a0_0,.int .i64 0,.int .i64 19] rfl zM_ ?_;(with_reducible refine (spec_inRange.calls a0_0 0 19 true _ A3.out).mono ?_);rintro e w' ⟨rfl,⟨nd,rfl⟩⟩;refine ⟨_,rfl,?_⟩)|(go_at_call 26;(with_reducible refine (spec_inRange.calls a0_1 0 t102 t104 _ A10.out).mono ?_);rintro e w' ⟨rfl,⟨nd,rfl⟩⟩))
 go_ret
 exact ⟨zE_,zb1 HB.out GE101.out⟩
/-! ### spec_validOps: function 9 -/
def spec_validOps.l0 : Nat → List (S32) → Int → Option (Bool)
 | 0,_,_ => none
 | k + 1,x0,x3 => if x3 < (x0.length : Int) then (if 0 ≤ x3 then ((spec_validOp.f ((rd_T32 x0 x3).f0) ((rd_T32 x0 x3).f1)).bind fun t107 => (if t107 = true then (spec_validOps.l0 k x0 (wrap64 (x3 + 1))) else (some false))) else (none)) else (some (decide ((x0.length : Int) ≤ 300)))
def spec_validOps.f (k : Nat) (l0 : List (S32)) : Option (Bool) := spec_validOps.l0 k l0 0
set_option maxRecDepth 100000 in
theorem spec_validOps.mono_l : ∀ k,(∀ y0 y1,LeO (spec_validOps.l0 k y0 y1) (spec_validOps.l0 (k + 1) y0 y1))
 | 0 => fun _ _ r h => (by cases h)
 | k + 1 => by
  have ih0 := spec_validOps.mono_l k
  ·intro y0 y1
   unfold spec_validOps.l0
   repeat' first
   | (with_reducible exact ih0 _ _)
   | (with_reducible exact LeO.refl _)
   | (with_reducible exact LeO.none _)
   | (with_reducible refine LeO.ite ?_ ?_)
   | (with_reducible refine LeO.bind ?_ (fun _ => ?_))
   | exact ih0 _ _
   | exact LeO.none _
   | refine LeO.ite ?_ ?_
   | refine LeO.bind ?_ (fun _ => ?_)
set_option maxRecDepth 100000 in
theorem spec_validOps.mono : ∀ a0 k,LeO (spec_validOps.f k a0) (spec_validOps.f (k + 1) a0) := by
 intro a0 k
 have ih0 := spec_validOps.mono_l k
 unfold spec_validOps.f
 repeat' first
   | (with_reducible exact ih0 _ _)
   | (with_reducible exact LeO.refl _)
   | (with_reducible exact LeO.none _)
   | (with_reducible refine LeO.ite ?_ ?_)
   | (with_reducible refine LeO.bind ?_ (fun _ => ?_))
   | exact ih0 _ _
   | exact LeO.none _
   | refine LeO.ite ?_ ?_
   | refine LeO.bind ?_ (fun _ => ?_)
set_option maxHeartbeats 8000000 in
set_option maxRecDepth 100000 in
theorem spec_validOps.calls (k : Nat) (A0 : Option Addr) (c0 : Nat) (l0 : List (S32)) (r : Bool) (w : World) (hr0 : Kd.C k32 w A0 l0.length l0) (hc0 : l0.length ≤ c0) (h : spec_validOps.f k l0 = some r) :
  Calls Tryd.prog 9 #[.slice A0 l0.length c0] w fun e w' => e = .returned (.bool r) ∧ Below w.heap.size w w' := by
 have hu32 := Tryd.underlying32
 have HR0 := As_ hr0
 have HC0 := As_ hc0
 clear hr0 hc0
 have HB := As_ (Below.refl w.heap.size w)
 have H : (spec_validOps.l0 k l0 0) = some r := h
 clear h
 have H' := As_ H
 clear H
 go_enter Tryd.func9,Tryd.ntmps9
 go_wp2
 go_loopg [3] k (fun kq v3 w' => ∃ (x3_1 : Int),v3 = .int .i64 x3_1 ∧ Aside0 (spec_validOps.l0 kq l0 x3_1 = some r) ∧ Aside0 (kq ≤ k) ∧ Aside0 (Below w.heap.size w w'))
 case atStart => exact ⟨(0),zT_,H',⟨Nat.le_refl _⟩,⟨zb0 HB.out⟩⟩
 case round =>
  clear H'
  obtain ⟨x3_1,rfl,HA,HK1,HB⟩ := hrel
  cases gk with
  | zero => exact absurd HA.out (fun h_ => (by cases h_))
  | succ k1 =>
   have H := HA.out
   clear HA
   simp only [spec_validOps.l0] at H
   by_cases c2 : x3_1 < (l0.length : Int)
   rotate_left
   ·rw [if_neg c2] at H
    have c2b0 : decide (x3_1 < (l0.length : Int)) = false := deF c2
    clear c2
    obtain rfl := Option.some.inj H
    go_wp2
    go_ret
    exact ⟨zE_,zb0 HB.out⟩

   rw [if_pos c2] at H
   have c2b0 : decide (x3_1 < (l0.length : Int)) = true := deT c2
   clear c2
   by_cases c3 : 0 ≤ x3_1
   rotate_left
   ·rw [if_neg c3] at H
    exact absurd H (by simp)
   rw [if_pos c3] at H
   have c3b0 : decide (0 ≤ x3_1) = true := deT c3
   clear c3
   replace H := obS H
   obtain ⟨t107,A40,H⟩ := H
   replace H : (if t107 = true then (spec_validOps.l0 k1 l0 (wrap64 (x3_1 + 1))) else (some false)) = some r := H
   have A4 := As_ A40
   clear A40
   by_cases c5 : t107 = true
   rotate_left
   ·replace c5 := Bool.eq_false_iff.mpr c5
    subst c5
    have H1 : (some false) = some r := by rw [if_neg (show ¬ (false = true) by decide)] at H;exact H
    clear H
    have H := H1
    clear H1
    obtain rfl := Option.some.inj H
    have p106 : 0 ≤ (x3_1 : Int) := odT zA_
    have q106 : x3_1 < (l0.length : Int) := odT zA_
    obtain ⟨ad106,e106,hx106_0,hx106_1⟩ := at_T32 HR0.out x3_1 p106 q106
    cases e106
    replace hx106_0 := bwC HB.out hx106_0
    replace hx106_1 := bwC HB.out hx106_1
    replace p106 := eq_true p106
    replace q106 := eq_true q106
    go_wp2_with (first|((with_reducible refine gate_callee (f := 19) rfl ?_);refine goesL_ (some 14) rfl rfl Tryd.func19 (by kernel_rfl) rfl #[.agg #[.int .i64 ((rd_T32 l0 x3_1).f0),.int .i64 ((rd_T32 l0 x3_1).f1)]] rfl zM_ ?_;(with_reducible refine (spec_validOp.calls ((rd_T32 l0 x3_1).f0) ((rd_T32 l0 x3_1).f1) false _ A4.out).mono ?_);rintro e w7 ⟨rfl,hb⟩;refine ⟨_,rfl,?_⟩;have n0_ := As_ (bwT (zb0 HB.out) hb);clear HB;revert n0_;intro HB))
    go_ret
    exact ⟨zE_,zb0 HB.out⟩
   subst c5
   have H1 : (spec_validOps.l0 k1 l0 (wrap64 (x3_1 + 1))) = some r := by rw [if_pos rfl] at H;exact H
   clear H
   have H := H1
   clear H1
   have H' := As_ H
   clear H
   have p106 : 0 ≤ (x3_1 : Int) := odT zA_
   have q106 : x3_1 < (l0.length : Int) := odT zA_
   obtain ⟨ad106,e106,hx106_0,hx106_1⟩ := at_T32 HR0.out x3_1 p106 q106
   cases e106
   replace hx106_0 := bwC HB.out hx106_0
   replace hx106_1 := bwC HB.out hx106_1
   replace p106 := eq_true p106
   replace q106 := eq_true q106
   go_wp2_with (first|((with_reducible refine gate_callee (f := 19) rfl ?_);refine goesL_ (some 14) rfl rfl Tryd.func19 (by kernel_rfl) rfl #[.agg #[.int .i64 ((rd_T32 l0 x3_1).f0),.int .i64 ((rd_T32 l0 x3_1).f1)]] rfl zM_ ?_;(with_reducible refine (spec_validOp.calls ((rd_T32 l0 x3_1).f0) ((rd_T32 l0 x3_1).f1) true _ A4.out).mono ?_);rintro e w6 ⟨rfl,hb⟩;refine ⟨_,rfl,?_⟩;have n0_ := As_ (bwT (zb0 HB.out) hb);clear HB;revert n0_;intro HB))
   go_roundg k1
   case measure => have := HK1.out;omega
   case rel => exact ⟨(wrap64 (x3_1 + 1)),zT_,H',⟨by have := HK1.out;omega⟩,⟨zb0 HB.out⟩⟩
/-! ### spec_codeWords: function 21 -/
def spec_codeWords.f  : Option (List ByteArray) := some (([(⟨#[105,110,116]⟩ : ByteArray),(⟨#[116,101,120,116]⟩ : ByteArray),(⟨#[109,97,114,107]⟩ : ByteArray),(⟨#[116,117,112,108,101]⟩ : ByteArray),(⟨#[116,117,112,108,101,48]⟩ : ByteArray),(⟨#[116,117,112,108,101,49]⟩ : ByteArray),(⟨#[116,117,112,108,101,50]⟩ : ByteArray),(⟨#[108,105,115,116]⟩ : ByteArray),(⟨#[97,112,112,101,110,100]⟩ : ByteArray),(⟨#[97,112,112,101,110,100,115]⟩ : ByteArray),(⟨#[100,105,99,116]⟩ : ByteArray),(⟨#[115,101,116,105,116,101,109]⟩ : ByteArray),(⟨#[115,101,116,105,116,101,109,115]⟩ : ByteArray),(⟨#[110,101,119]⟩ : ByteArray),(⟨#[115,116,97,116,101]⟩ : ByteArray),(⟨#[112,117,116]⟩ : ByteArray),(⟨#[103,101,116]⟩ : ByteArray),(⟨#[112,111,112]⟩ : ByteArray),(⟨#[112,111,112,109,97,114,107]⟩ : ByteArray),(⟨#[115,116,111,112]⟩ : ByteArray)] : List ByteArray))
set_option maxHeartbeats 8000000 in
set_option maxRecDepth 100000 in
theorem spec_codeWords.calls  (r : List ByteArray) (w : World) (h : spec_codeWords.f  = some r) :
  Calls Tryd.prog 21 #[] w fun e w' => ∃ v0_ : Value,e = .returned (v0_) ∧ Kd.R Kd.string 9 w' w.heap.size (fun _ => True) v0_ r ∧ Below w.heap.size w w' := by
 have HB := As_ (Below.refl w.heap.size w)
 have H : (some (([(⟨#[105,110,116]⟩ : ByteArray),(⟨#[116,101,120,116]⟩ : ByteArray),(⟨#[109,97,114,107]⟩ : ByteArray),(⟨#[116,117,112,108,101]⟩ : ByteArray),(⟨#[116,117,112,108,101,48]⟩ : ByteArray),(⟨#[116,117,112,108,101,49]⟩ : ByteArray),(⟨#[116,117,112,108,101,50]⟩ : ByteArray),(⟨#[108,105,115,116]⟩ : ByteArray),(⟨#[97,112,112,101,110,100]⟩ : ByteArray),(⟨#[97,112,112,101,110,100,115]⟩ : ByteArray),(⟨#[100,105,99,116]⟩ : ByteArray),(⟨#[115,101,116,105,116,101,109]⟩ : ByteArray),(⟨#[115,101,116,105,116,101,109,115]⟩ : ByteArray),(⟨#[110,101,119]⟩ : ByteArray),(⟨#[115,116,97,116,101]⟩ : ByteArray),(⟨#[112,117,116]⟩ : ByteArray),(⟨#[103,101,116]⟩ : ByteArray),(⟨#[112,111,112]⟩ : ByteArray),(⟨#[112,111,112,109,97,114,107]⟩ : ByteArray),(⟨#[115,116,111,112]⟩ : ByteArray)] : List ByteArray))) = some r := h
 clear h
 obtain ⟨y108,hy108⟩ : ∃ y_ : List ByteArray,y_ = (([(⟨#[105,110,116]⟩ : ByteArray),(⟨#[116,101,120,116]⟩ : ByteArray),(⟨#[109,97,114,107]⟩ : ByteArray),(⟨#[116,117,112,108,101]⟩ : ByteArray),(⟨#[116,117,112,108,101,48]⟩ : ByteArray),(⟨#[116,117,112,108,101,49]⟩ : ByteArray),(⟨#[116,117,112,108,101,50]⟩ : ByteArray),(⟨#[108,105,115,116]⟩ : ByteArray),(⟨#[97,112,112,101,110,100]⟩ : ByteArray),(⟨#[97,112,112,101,110,100,115]⟩ : ByteArray),(⟨#[100,105,99,116]⟩ : ByteArray),(⟨#[115,101,116,105,116,101,109]⟩ : ByteArray),(⟨#[115,101,116,105,116,101,109,115]⟩ : ByteArray),(⟨#[110,101,119]⟩ : ByteArray),(⟨#[115,116,97,116,101]⟩ : ByteArray),(⟨#[112,117,116]⟩ : ByteArray),(⟨#[103,101,116]⟩ : ByteArray),(⟨#[112,111,112]⟩ : ByteArray),(⟨#[112,111,112,109,97,114,107]⟩ : ByteArray),(⟨#[115,116,111,112]⟩ : ByteArray)] : List ByteArray)) := ⟨_,rfl⟩
 replace H : (some y108) = some r := zH_ H hy108
 have Ny108 := As_ hy108
 clear hy108
 obtain rfl := Option.some.inj H
 go_enter Tryd.func21,Tryd.ntmps21
 go_wp2_with (first|((with_reducible refine gate_dst (N := 1) rfl ?_);refine Kd.R_lit Kd.string _ 9 ?hg (N := 1) ?hd (xs := ([(⟨#[105,110,116]⟩ : ByteArray),(⟨#[116,101,120,116]⟩ : ByteArray),(⟨#[109,97,114,107]⟩ : ByteArray),(⟨#[116,117,112,108,101]⟩ : ByteArray),(⟨#[116,117,112,108,101,48]⟩ : ByteArray),(⟨#[116,117,112,108,101,49]⟩ : ByteArray),(⟨#[116,117,112,108,101,50]⟩ : ByteArray),(⟨#[108,105,115,116]⟩ : ByteArray),(⟨#[97,112,112,101,110,100]⟩ : ByteArray),(⟨#[97,112,112,101,110,100,115]⟩ : ByteArray),(⟨#[100,105,99,116]⟩ : ByteArray),(⟨#[115,101,116,105,116,101,109]⟩ : ByteArray),(⟨#[115,101,116,105,116,101,109,115]⟩ : ByteArray),(⟨#[110,101,119]⟩ : ByteArray),(⟨#[115,116,97,116,101]⟩ : ByteArray),(⟨#[112,117,116]⟩ : ByteArray),(⟨#[103,101,116]⟩ : ByteArray),(⟨#[112,111,112]⟩ : ByteArray),(⟨#[112,111,112,109,97,114,107]⟩ : ByteArray),(⟨#[115,116,111,112]⟩ : ByteArray)] : List ByteArray)) (inner := [.string (⟨#[105,110,116]⟩ : ByteArray),.string (⟨#[116,101,120,116]⟩ : ByteArray),.string (⟨#[109,97,114,107]⟩ : ByteArray),.string (⟨#[116,117,112,108,101]⟩ : ByteArray),.string (⟨#[116,117,112,108,101,48]⟩ : ByteArray),.string (⟨#[116,117,112,108,101,49]⟩ : ByteArray),.string (⟨#[116,117,112,108,101,50]⟩ : ByteArray),.string (⟨#[108,105,115,116]⟩ : ByteArray),.string (⟨#[97,112,112,101,110,100]⟩ : ByteArray),.string (⟨#[97,112,112,101,110,100,115]⟩ : ByteArray),.string (⟨#[100,105,99,116]⟩ : ByteArray),.string (⟨#[115,101,116,105,116,101,109]⟩ : ByteArray),.string (⟨#[115,101,116,105,116,101,109,115]⟩ : ByteArray),.string (⟨#[110,101,119]⟩ : ByteArray),.string (⟨#[115,116,97,116,101]⟩ : ByteArray),.string (⟨#[112,117,116]⟩ : ByteArray),.string (⟨#[103,101,116]⟩ : ByteArray),.string (⟨#[112,111,112]⟩ : ByteArray),.string (⟨#[112,111,112,109,97,114,107]⟩ : ByteArray),.string (⟨#[115,116,111,112]⟩ : ByteArray)]) (ok := fun _ => True) (okp := fun _ => True) ?hr ?hp (fun _ hk => hk) trivial (Below.refl _ _) (Nat.le_refl _) (by simp) ?_;(case hd => rfl);(case hg => rfl);(case hr => go_simp <;> rfl);(case hp => exact (Reps.one (show Kd.M Kd.string _ _ _ (⟨#[105,110,116]⟩ : ByteArray) [.string (⟨#[105,110,116]⟩ : ByteArray)] from rfl) (Reps.one (show Kd.M Kd.string _ _ _ (⟨#[116,101,120,116]⟩ : ByteArray) [.string (⟨#[116,101,120,116]⟩ : ByteArray)] from rfl) (Reps.one (show Kd.M Kd.string _ _ _ (⟨#[109,97,114,107]⟩ : ByteArray) [.string (⟨#[109,97,114,107]⟩ : ByteArray)] from rfl) (Reps.one (show Kd.M Kd.string _ _ _ (⟨#[116,117,112,108,101]⟩ : ByteArray) [.string (⟨#[116,117,112,108,101]⟩ : ByteArray)] from rfl) (Reps.one (show Kd.M Kd.string _ _ _ (⟨#[116,117,112,108,101,48]⟩ : ByteArray) [.string (⟨#[116,117,112,108,101,48]⟩ : ByteArray)] from rfl) (Reps.one (show Kd.M Kd.string _ _ _ (⟨#[116,117,112,108,101,49]⟩ : ByteArray) [.string (⟨#[116,117,112,108,101,49]⟩ : ByteArray)] from rfl) (Reps.one (show Kd.M Kd.string _ _ _ (⟨#[116,117,112,108,101,50]⟩ : ByteArray) [.string (⟨#[116,117,112,108,101,50]⟩ : ByteArray)] from rfl) (Reps.one (show Kd.M Kd.string _ _ _ (⟨#[108,105,115,116]⟩ : ByteArray) [.string (⟨#[108,105,115,116]⟩ : ByteArray)] from rfl) (Reps.one (show Kd.M Kd.string _ _ _ (⟨#[97,112,112,101,110,100]⟩ : ByteArray) [.string (⟨#[97,112,112,101,110,100]⟩ : ByteArray)] from rfl) (Reps.one (show Kd.M Kd.string _ _ _ (⟨#[97,112,112,101,110,100,115]⟩ : ByteArray) [.string (⟨#[97,112,112,101,110,100,115]⟩ : ByteArray)] from rfl) (Reps.one (show Kd.M Kd.string _ _ _ (⟨#[100,105,99,116]⟩ : ByteArray) [.string (⟨#[100,105,99,116]⟩ : ByteArray)] from rfl) (Reps.one (show Kd.M Kd.string _ _ _ (⟨#[115,101,116,105,116,101,109]⟩ : ByteArray) [.string (⟨#[115,101,116,105,116,101,109]⟩ : ByteArray)] from rfl) (Reps.one (show Kd.M Kd.string _ _ _ (⟨#[115,101,116,105,116,101,109,115]⟩ : ByteArray) [.string (⟨#[115,101,116,105,116,101,109,115]⟩ : ByteArray)] from rfl) (Reps.one (show Kd.M Kd.string _ _ _ (⟨#[110,101,119]⟩ : ByteArray) [.string (⟨#[110,101,119]⟩ : ByteArray)] from rfl) (Reps.one (show Kd.M Kd.string _ _ _ (⟨#[115,116,97,116,101]⟩ : ByteArray) [.string (⟨#[115,116,97,116,101]⟩ : ByteArray)] from rfl) (Reps.one (show Kd.M Kd.string _ _ _ (⟨#[112,117,116]⟩ : ByteArray) [.string (⟨#[112,117,116]⟩ : ByteArray)] from rfl) (Reps.one (show Kd.M Kd.string _ _ _ (⟨#[103,101,116]⟩ : ByteArray) [.string (⟨#[103,101,116]⟩ : ByteArray)] from rfl) (Reps.one (show Kd.M Kd.string _ _ _ (⟨#[112,111,112]⟩ : ByteArray) [.string (⟨#[112,111,112]⟩ : ByteArray)] from rfl) (Reps.one (show Kd.M Kd.string _ _ _ (⟨#[112,111,112,109,97,114,107]⟩ : ByteArray) [.string (⟨#[112,111,112,109,97,114,107]⟩ : ByteArray)] from rfl) (Reps.one (show Kd.M Kd.string _ _ _ (⟨#[115,116,111,112]⟩ : ByteArray) [.string (⟨#[115,116,111,112]⟩ : ByteArray)] from rfl) (Reps.none _ _))))))))))))))))))))));intro v109 w1 ho2 hb hg_ hnew_;clear hg_ hnew_;(first|rw [← Ny108.out] at ho2|(simp only [Int.reduceToNat] at ho2;rw [← Ny108.out] at ho2));have n0_ := As_ (Kd.R_lower ho2 (bwZ (zb0 HB.out)));have n1_ := As_ (bwT (zb0 HB.out) hb);clear HB;revert n0_ n1_;intro HO110 HB;clear hb ho2))
 go_ret
 exact ⟨_,zE_,by (with_reducible repeat (first|apply Kd.R_alloc|apply Kd.R_drewN|apply Kd.R_drew));exact HO110.out,zb0 HB.out⟩

/-! ### spec_number: function 22 -/
def spec_number.f : Nat → Int → Option (ByteArray)
 | 0,_ => none
 | k + 1,a0 => if a0 < 10 then (if 0 ≤ a0 then (if a0 ≤ (wrap64 (a0 + 1)) then (if (wrap64 (a0 + 1)) ≤ 10 then (some ((⟨#[48,49,50,51,52,53,54,55,56,57]⟩ : ByteArray).extract (a0 : Int).toNat ((wrap64 (a0 + 1)) : Int).toNat)) else (none)) else (none)) else (none)) else ((spec_number.f k (wrap64 (Int.tdiv a0 10))).bind fun t111 => ((spec_number.f k (Int.tmod a0 10)).bind fun t112 => (if t111.size + t112.size ≤ 9223372036854775807 then (some (t111 ++ t112)) else (none))))
set_option maxRecDepth 100000 in
theorem spec_number.mono_l : ∀ k,(∀ y0,LeO (spec_number.f k y0) (spec_number.f (k + 1) y0))
 | 0 => fun _ r h => (by cases h)
 | k + 1 => by
  have ih0 := spec_number.mono_l k
  ·intro y0
   unfold spec_number.f
   repeat' first
   | (with_reducible exact ih0 _)
   | (with_reducible exact LeO.refl _)
   | (with_reducible exact LeO.none _)
   | (with_reducible refine LeO.ite ?_ ?_)
   | (with_reducible refine LeO.bind ?_ (fun _ => ?_))
   | exact ih0 _
   | exact LeO.none _
   | refine LeO.ite ?_ ?_
   | refine LeO.bind ?_ (fun _ => ?_)
set_option maxRecDepth 100000 in
theorem spec_number.mono : ∀ a0 k,LeO (spec_number.f k a0) (spec_number.f (k + 1) a0) := by
 intro a0 k
 have ih0 := spec_number.mono_l k
 exact ih0 a0
set_option maxHeartbeats 8000000 in
set_option maxRecDepth 100000 in
theorem spec_number.calls (k : Nat) : ∀ (a0 : Int) (r : ByteArray) (w : World) (h : spec_number.f k a0 = some r),
  Calls Tryd.prog 22 #[.int .i64 a0] w fun e w' => e = .returned (.string r) ∧ Drawn0 w w' := by
 induction k using Nat.strongRecOn with
 | _ k ih =>
 intro a0 r w h
 cases k with
 | zero => exact absurd h (by simp [spec_number.f])
 | succ k =>
 simp only [spec_number.f] at h
 have H : (if a0 < 10 then (if 0 ≤ a0 then (if a0 ≤ (wrap64 (a0 + 1)) then (if (wrap64 (a0 + 1)) ≤ 10 then (some ((⟨#[48,49,50,51,52,53,54,55,56,57]⟩ : ByteArray).extract (a0 : Int).toNat ((wrap64 (a0 + 1)) : Int).toNat)) else (none)) else (none)) else (none)) else ((spec_number.f k (wrap64 (Int.tdiv a0 10))).bind fun t111 => ((spec_number.f k (Int.tmod a0 10)).bind fun t112 => (if t111.size + t112.size ≤ 9223372036854775807 then (some (t111 ++ t112)) else (none))))) = some r := h
 clear h
 by_cases c2 : a0 < 10
 rotate_left
 ·rw [if_neg c2] at H
  have c2b0 : decide (a0 < 10) = false := deF c2
  clear c2
  replace H := obS H
  obtain ⟨t111,A60,H⟩ := H
  replace H : ((spec_number.f k (Int.tmod a0 10)).bind fun t112 => (if t111.size + t112.size ≤ 9223372036854775807 then (some (t111 ++ t112)) else (none))) = some r := H
  have A6 := As_ A60
  clear A60
  replace H := obS H
  obtain ⟨t112,A70,H⟩ := H
  replace H : (if t111.size + t112.size ≤ 9223372036854775807 then (some (t111 ++ t112)) else (none)) = some r := H
  have A7 := As_ A70
  clear A70
  by_cases c8 : t111.size + t112.size ≤ 9223372036854775807
  rotate_left
  ·rw [if_neg c8] at H
   exact absurd H (by simp)
  rw [if_pos c8] at H
  have c8b0 := eq_true c8
  have c8b1 : decide (t111.size + t112.size ≤ 9223372036854775807) = true := deT c8
  try have c8b2 : (9223372036854775807 < t111.size + t112.size) = False := eq_false (Nat.not_lt.2 c8)
  obtain rfl := Option.some.inj H
  go_enter Tryd.func22,Tryd.ntmps22
  go_wp2_with (first|((with_reducible refine gate_callee (f := 22) rfl ?_);refine goesL_ (some 11) rfl rfl Tryd.func22 (by kernel_rfl) rfl #[.int .i64 (wrap64 (Int.tdiv a0 10))] rfl zM_ ?_;(with_reducible refine (ih k (by omega) (wrap64 (Int.tdiv a0 10)) t111 _ A6.out).mono ?_);rintro e w' ⟨rfl,⟨nd,rfl⟩⟩;refine ⟨_,rfl,?_⟩)|((with_reducible refine gate_callee (f := 22) rfl ?_);refine goesL_ (some 14) rfl rfl Tryd.func22 (by kernel_rfl) rfl #[.int .i64 (Int.tmod a0 10)] rfl zM_ ?_;(with_reducible refine (ih k (by omega) (Int.tmod a0 10) t112 _ A7.out).mono ?_);rintro e w' ⟨rfl,⟨nd,rfl⟩⟩;refine ⟨_,rfl,?_⟩))
  go_ret
  exact ⟨by first|rfl|(simp;done)|(simp [*];done),by repeat (first|exact Drawn0.refl _|apply Drawn0.step)⟩

 rw [if_pos c2] at H
 have c2b0 : decide (a0 < 10) = true := deT c2
 clear c2
 by_cases c3 : 0 ≤ a0
 rotate_left
 ·rw [if_neg c3] at H
  exact absurd H (by simp)
 rw [if_pos c3] at H
 have c3b0 := eq_true c3
 have c3b1 : decide (0 ≤ a0) = true := deT c3
 clear c3
 by_cases c4 : a0 ≤ (wrap64 (a0 + 1))
 rotate_left
 ·rw [if_neg c4] at H
  exact absurd H (by simp)
 rw [if_pos c4] at H
 have c4b0 := eq_true c4
 have c4b1 : decide (a0 ≤ (wrap64 (a0 + 1))) = true := deT c4
 by_cases c5 : (wrap64 (a0 + 1)) ≤ 10
 rotate_left
 ·rw [if_neg c5] at H
  exact absurd H (by simp)
 rw [if_pos c5] at H
 have c5b0 := eq_true c5
 have c5b1 : decide ((wrap64 (a0 + 1)) ≤ 10) = true := deT c5
 obtain rfl := Option.some.inj H
 go_enter Tryd.func22,Tryd.ntmps22
 go_wp2
 go_ret
 exact ⟨by first|rfl|(simp;done)|(simp [*];done),by repeat (first|exact Drawn0.refl _|apply Drawn0.step)⟩
/-! ### spec_showOp: function 10 -/
def spec_showOp.f (k : Nat) (a0_0 : Int) (a0_1 : Int) : Option (ByteArray) := (spec_argOf.f a0_0).bind fun t114 => (if t114 < 0 then ((spec_codeWords.f).bind fun t115 => (if 0 ≤ a0_0 then (if a0_0 < (t115.length : Int) then (some (rdOf ByteArray.empty t115 a0_0)) else (none)) else (none))) else ((spec_codeWords.f).bind fun t119 => (if 0 ≤ a0_0 then (if a0_0 < (t119.length : Int) then (if (rdOf ByteArray.empty t119 a0_0).size + 1 ≤ 9223372036854775807 then ((spec_number.f k a0_1).bind fun t123 => (if ((rdOf ByteArray.empty t119 a0_0) ++ (⟨#[32]⟩ : ByteArray)).size + t123.size ≤ 9223372036854775807 then (some (((rdOf ByteArray.empty t119 a0_0) ++ (⟨#[32]⟩ : ByteArray)) ++ t123)) else (none))) else (none)) else (none)) else (none))))
set_option maxRecDepth 100000 in
theorem spec_showOp.mono : ∀ a0 a1 k,LeO (spec_showOp.f k a0 a1) (spec_showOp.f (k + 1) a0 a1) := by
 intro a0 a1 k
 unfold spec_showOp.f
 repeat' first
   | (with_reducible exact spec_number.mono _ _)
   | (with_reducible exact LeO.refl _)
   | (with_reducible exact LeO.none _)
   | (with_reducible refine LeO.ite ?_ ?_)
   | (with_reducible refine LeO.bind ?_ (fun _ => ?_))
   | exact spec_number.mono _ _
   | exact LeO.none _
   | refine LeO.ite ?_ ?_
   | refine LeO.bind ?_ (fun _ => ?_)
def spec_showOp.T3 : Bool × List (List Nat × List Nat) := (true,[([],[]),([],[]),([1],[1]),([0,2],[0,2]),([3],[3]),([4],[4]),([],[]),([6],[6]),([7,0],[7]),([5,8],[5,8]),([9,8,0,1,2,3,4,5,6,7,8,9],[9])])
def spec_showOp.B3 : List Nat := [0,0,2,7,15,31,0,64,193,511,1023]
theorem spec_showOp.tab3 : rtab .any (opsOf Tryd.f10 3) = spec_showOp.T3 := by kernel_rfl
theorem spec_showOp.bits3 : waitsOk spec_showOp.T3.2 spec_showOp.B3 = true := by kernel_rfl
theorem spec_showOp.more_ {P : Program} {md : Region.Mode} {ops : Array Oper} {Q : Exit → Act → World → Prop} {S S' : World → Prop} (hS : ∀ w,S' w → S w) : ∀ (fuel : Nat) (l : Array Bool) (a : Act) (w : World),S' w → wpAnyLast P md ops Q S' [] fuel l a w → wpAnyLast P md ops Q S [] fuel l a w
 | 0,_,_,_,_,h => h
 | fuel + 1,l,a,w,h0,h => ⟨h.1,fun i hi => wpOp_mono (fun a' w' h' => ⟨fun _ _ => hS _ (h'.1 (by simp) h0),spec_showOp.more_ hS fuel _ a' w' (h'.1 (by simp) h0) h'.2⟩) (h.2 i hi)⟩
set_option maxHeartbeats 8000000 in
set_option maxRecDepth 100000 in
theorem spec_showOp.calls (k : Nat) (a0_0 : Int) (a0_1 : Int) (r : ByteArray) (w : World) (h : spec_showOp.f k a0_0 a0_1 = some r) :
  Calls Tryd.prog 10 #[.agg #[.int .i64 a0_0,.int .i64 a0_1]] w fun e w' => e = .returned (.string r) ∧ Below w.heap.size w w' := by
 have hu32 := Tryd.underlying32
 have HB := As_ (Below.refl w.heap.size w)
 have H : ((spec_argOf.f a0_0).bind fun t114 => (if t114 < 0 then ((spec_codeWords.f).bind fun t115 => (if 0 ≤ a0_0 then (if a0_0 < (t115.length : Int) then (some (rdOf ByteArray.empty t115 a0_0)) else (none)) else (none))) else ((spec_codeWords.f).bind fun t119 => (if 0 ≤ a0_0 then (if a0_0 < (t119.length : Int) then (if (rdOf ByteArray.empty t119 a0_0).size + 1 ≤ 9223372036854775807 then ((spec_number.f k a0_1).bind fun t123 => (if ((rdOf ByteArray.empty t119 a0_0) ++ (⟨#[32]⟩ : ByteArray)).size + t123.size ≤ 9223372036854775807 then (some (((rdOf ByteArray.empty t119 a0_0) ++ (⟨#[32]⟩ : ByteArray)) ++ t123)) else (none))) else (none)) else (none)) else (none))))) = some r := h
 clear h
 replace H := obS H
 obtain ⟨t114,A20,H⟩ := H
 replace H : (if t114 < 0 then ((spec_codeWords.f).bind fun t115 => (if 0 ≤ a0_0 then (if a0_0 < (t115.length : Int) then (some (rdOf ByteArray.empty t115 a0_0)) else (none)) else (none))) else ((spec_codeWords.f).bind fun t119 => (if 0 ≤ a0_0 then (if a0_0 < (t119.length : Int) then (if (rdOf ByteArray.empty t119 a0_0).size + 1 ≤ 9223372036854775807 then ((spec_number.f k a0_1).bind fun t123 => (if ((rdOf ByteArray.empty t119 a0_0) ++ (⟨#[32]⟩ : ByteArray)).size + t123.size ≤ 9223372036854775807 then (some (((rdOf ByteArray.empty t119 a0_0) ++ (⟨#[32]⟩ : ByteArray)) ++ t123)) else (none))) else (none)) else (none)) else (none)))) = some r := H
 have A2 := As_ A20
 clear A20
 by_cases c3 : t114 < 0
 ·rw [if_pos c3] at H
  have c3b0 : decide (t114 < 0) = true := deT c3
  clear c3
  replace H := obS H
  obtain ⟨t115,A40,H⟩ := H
  replace H : (if 0 ≤ a0_0 then (if a0_0 < (t115.length : Int) then (some (rdOf ByteArray.empty t115 a0_0)) else (none)) else (none)) = some r := H
  have A4 := As_ A40
  clear A40
  by_cases c5 : 0 ≤ a0_0
  rotate_left
  ·rw [if_neg c5] at H
   exact absurd H (by simp)
  rw [if_pos c5] at H
  have c5b0 : decide (0 ≤ a0_0) = true := deT c5
  clear c5
  by_cases c6 : a0_0 < (t115.length : Int)
  rotate_left
  ·rw [if_neg c6] at H
   exact absurd H (by simp)
  rw [if_pos c6] at H
  have c6b0 : decide (a0_0 < (t115.length : Int)) = true := deT c6
  clear c6
  obtain rfl := Option.some.inj H
  go_enter Tryd.func10,Tryd.ntmps10
  try go_wp2_with (first|((with_reducible refine gate_dst (N := 1) rfl ?_);refine box_event ?hg (N := 1) ?hd (cs := #[.int .i64 a0_0,.int .i64 a0_1]) (t := 32) ?hr ?_;(case hd => rfl);(case hg => rfl);(case hr => go_simp <;> rfl);intro gb113 hg w7 hbox hb;have n0_ := As_ (bwT (zb0 HB.out) hb);have n1_ := As_ (hbox);have n2_ := As_ ((by rw [hg];exact (bwZ (zb0 HB.out)) : w.heap.size ≤ gb113));have n3_ := As_ ((by rw [hg];exact (bwZ (zb0 HB.out)) : w.heap.size ≤ gb113));clear HB;revert n0_ n1_ n2_ n3_;intro HB BK113 GW113 GE113;clear hb hbox hg;obtain ⟨hcz8_0,hcz8_1,hfz8_0,hfz8_1⟩ := bk2 BK113.out)|((with_reducible refine gate_callee (f := 20) rfl ?_);refine goesL_ (some 5) rfl rfl Tryd.func20 (by kernel_rfl) rfl #[.int .i64 a0_0] rfl zM_ ?_;(with_reducible refine (spec_argOf.calls a0_0 t114 _ A2.out).mono ?_);rintro e w' ⟨rfl,⟨nd,rfl⟩⟩;refine ⟨_,rfl,?_⟩))
  (try (rw [drewN_self w7];generalize hq_ : World.drewN w7 _ = w7;have n0_ : Aside0 (w7.heap[gb113]? = some (.cells #[.int .i64 a0_0,.int .i64 a0_1] 32 (0,0))) := ⟨by rw [← hq_];exact (zk_ BK113.out)⟩;have n1_ : Aside0 (Below w.heap.size w w7) := ⟨by rw [← hq_];exact (zb1 HB.out GE113.out)⟩;clear BK113 HB hq_;revert n0_ n1_;intro BK113 HB))
  have n0_ := As_ (bkD BK113.out)
  have n1_ := As_ (bwD HB.out)
  clear BK113 HB
  revert n0_ n1_;intro BK113 HB
  refine start_ (n := 6) (S := fun w' => w'.cell? ⟨gb113,0,none⟩ = some (.int .i64 a0_0) ∧ w'.cell? ⟨gb113,1,none⟩ = some (.int .i64 a0_1)) (ds := []) (bl_ 0 6) (by kernel_rfl) rfl rfl ⟨(bkC BK113.out 0).trans rfl,(bkC BK113.out 1).trans rfl⟩ (fun hHeld => ?_)
  generalize w7.drew = w9 at BK113 HB hHeld ⊢
  refine pure_ (i := 1) (N := some 8) (v := ?_) (a' := ?_) (bl_ 2 6) rfl rfl (by kernel_rfl) (fun _ _ _ h => h) (Or.inl ⟨by rfl,?_⟩) ?_ ?_;rotate_left;(intro w';go_simp;with_reducible rfl);rotate_left;(simp only [Act.put,sq_];rfl)
  refine take_ (i := 2) (N := some 9) (v := ?_) (a' := ?_) (bl_ 6 6) rfl rfl (by kernel_rfl) (fun _ _ _ h => h) (Or.inl ⟨by rfl,?_⟩) hHeld ?_ ?_;rotate_left;(rintro w' ⟨s0,s1⟩;go_simp;with_reducible rfl);rotate_left;(simp only [Act.put,sq_];rfl)
  refine one_ (i := 0) (N := some 7) (bl_ 7 6) rfl rfl (by kernel_rfl) (by decide) (fun K hK => ?_)
  refine goes_ Tryd.func21 (by kernel_rfl) rfl #[] (by rfl) rfl rfl zM_ ?_
  with_reducible refine (spec_codeWords.calls  t115 _ A4.out).mono ?_
  rintro e w10 ⟨v116,rfl,ho0,hb⟩
  refine ⟨_,rfl,?_⟩
  have n0_ := As_ (Kd.R_lower ho0 (bwZ (zb1 HB.out GE113.out)))
  have n1_ := As_ (zkb BK113.out hb)
  have n2_ := As_ (bwT (zb1 HB.out GE113.out) hb)
  clear BK113 HB
  revert n0_ n1_ n2_;intro HO117 BK113 HB
  obtain ⟨Ao11,co11,eo11⟩ := Kd.R_slice HO117.out
  (first|subst eo11|(injection eo11 with f1_ f2_ f3_;have f4_ := f1_.symm;have f5_ := f3_.symm;clear f1_ f2_ f3_;subst f4_;subst f5_))
  have p118 : 0 ≤ (a0_0 : Int) := odT zA_
  have q118 : a0_0 < (t115.length : Int) := odT zA_
  obtain ⟨ad118,e118,hx118_0⟩ := Kd.at_string (Kd.R_reads' HO117.out).2.2 a0_0 p118 q118
  cases e118
  replace p118 := eq_true p118
  replace q118 := eq_true q118
  refine hK.out _ _ ⟨(bkC BK113.out 0).trans rfl,(bkC BK113.out 1).trans rfl⟩ (fun hHeld => ?_)
  refine spec_showOp.more_ (S' := fun w' => w'.cell? ⟨gb113,0,none⟩ = some (.int .i64 a0_0) ∧ w'.cell? ⟨gb113,1,none⟩ = some (.int .i64 a0_1) ∧ w'.cell? (ad118.add (a0_0).toNat) = some (.string (rdOf ByteArray.empty t115 a0_0))) (fun _ h => ⟨h.1,h.2.1⟩) _ _ _ _ ⟨hHeld.1,hHeld.2,hx118_0⟩ ?_
  replace hHeld := And.intro hHeld.1 (And.intro hHeld.2 hx118_0)
  clear hK K
  refine norm_ (a' := ?_) ?_ ?_
  rotate_left
  ·show Act.put _ (some 7) _ = _
   simp only [Act.put,sq_]
   rfl
  refine pure_ (i := 3) (N := some 10) (v := ?_) (a' := ?_) (bl_ 15 6) rfl rfl (by kernel_rfl) (fun _ _ _ h => h) (Or.inl ⟨by rfl,?_⟩) ?_ ?_;rotate_left;(intro w';go_simp;with_reducible rfl);rotate_left;(simp only [Act.put,sq_];rfl)
  refine take_ (i := 4) (N := some 11) (v := ?_) (a' := ?_) (bl_ 31 6) rfl rfl (by kernel_rfl) (fun _ _ _ h => h) (Or.inl ⟨by rfl,?_⟩) hHeld ?_ ?_;rotate_left;(rintro w' ⟨s0,s1,s2⟩;go_simp;with_reducible rfl);rotate_left;(simp only [Act.put,sq_];rfl)
  refine pure_ (i := 5) (N := some 2) (v := ?_) (a' := ?_) (bl_ 63 6) rfl rfl (by kernel_rfl) (fun _ _ _ h => h) (Or.inl ⟨by rfl,?_⟩) ?_ ?_;rotate_left;(intro w';go_simp;with_reducible rfl);rotate_left;(simp only [Act.put,sq_];rfl)
  refine done_ (by kernel_rfl) ?_
  try go_wp2
  go_ret
  exact ⟨zE_,zb1 HB.out GE113.out⟩
 rw [if_neg c3] at H
 have c3b0 : decide (t114 < 0) = false := deF c3
 clear c3
 replace H := obS H
 obtain ⟨t119,A120,H⟩ := H
 replace H : (if 0 ≤ a0_0 then (if a0_0 < (t119.length : Int) then (if (rdOf ByteArray.empty t119 a0_0).size + 1 ≤ 9223372036854775807 then ((spec_number.f k a0_1).bind fun t123 => (if ((rdOf ByteArray.empty t119 a0_0) ++ (⟨#[32]⟩ : ByteArray)).size + t123.size ≤ 9223372036854775807 then (some (((rdOf ByteArray.empty t119 a0_0) ++ (⟨#[32]⟩ : ByteArray)) ++ t123)) else (none))) else (none)) else (none)) else (none)) = some r := H
 have A12 := As_ A120
 clear A120
 by_cases c13 : 0 ≤ a0_0
 rotate_left
 ·rw [if_neg c13] at H
  exact absurd H (by simp)
 rw [if_pos c13] at H
 have c13b0 : decide (0 ≤ a0_0) = true := deT c13
 clear c13
 by_cases c14 : a0_0 < (t119.length : Int)
 rotate_left
 ·rw [if_neg c14] at H
  exact absurd H (by simp)
 rw [if_pos c14] at H
 have c14b0 : decide (a0_0 < (t119.length : Int)) = true := deT c14
 clear c14
 by_cases c15 : (rdOf ByteArray.empty t119 a0_0).size + 1 ≤ 9223372036854775807
 rotate_left
 ·rw [if_neg c15] at H
  exact absurd H (by simp)
 rw [if_pos c15] at H
 have c15b0 := eq_true c15
 have c15b1 : decide ((rdOf ByteArray.empty t119 a0_0).size + 1 ≤ 9223372036854775807) = true := deT c15
 try have c15b2 : (9223372036854775807 < (rdOf ByteArray.empty t119 a0_0).size + 1) = False := eq_false (Nat.not_lt.2 c15)
 replace H := obS H
 obtain ⟨t123,A160,H⟩ := H
 replace H : (if ((rdOf ByteArray.empty t119 a0_0) ++ (⟨#[32]⟩ : ByteArray)).size + t123.size ≤ 9223372036854775807 then (some (((rdOf ByteArray.empty t119 a0_0) ++ (⟨#[32]⟩ : ByteArray)) ++ t123)) else (none)) = some r := H
 have A16 := As_ A160
 clear A160
 by_cases c17 : ((rdOf ByteArray.empty t119 a0_0) ++ (⟨#[32]⟩ : ByteArray)).size + t123.size ≤ 9223372036854775807
 rotate_left
 ·rw [if_neg c17] at H
  exact absurd H (by simp)
 rw [if_pos c17] at H
 have c17b0 := eq_true c17
 have c17b1 : decide (((rdOf ByteArray.empty t119 a0_0) ++ (⟨#[32]⟩ : ByteArray)).size + t123.size ≤ 9223372036854775807) = true := deT c17
 try have c17b2 : (9223372036854775807 < ((rdOf ByteArray.empty t119 a0_0) ++ (⟨#[32]⟩ : ByteArray)).size + t123.size) = False := eq_false (Nat.not_lt.2 c17)
 have c17b3 : (9223372036854775807 < (rdOf ByteArray.empty t119 a0_0).size + 1 + t123.size) = False := eq_false (Nat.not_lt.2 (by have h_ := c17;rw [ByteArray.size_append] at h_;exact h_))
 obtain rfl := Option.some.inj H
 go_enter Tryd.func10,Tryd.ntmps10
 try go_wp2_with (first|((with_reducible refine gate_dst (N := 1) rfl ?_);refine box_event ?hg (N := 1) ?hd (cs := #[.int .i64 a0_0,.int .i64 a0_1]) (t := 32) ?hr ?_;(case hd => rfl);(case hg => rfl);(case hr => go_simp <;> rfl);intro gb113 hg w18 hbox hb;have n0_ := As_ (bwT (zb0 HB.out) hb);have n1_ := As_ (hbox);have n2_ := As_ ((by rw [hg];exact (bwZ (zb0 HB.out)) : w.heap.size ≤ gb113));have n3_ := As_ ((by rw [hg];exact (bwZ (zb0 HB.out)) : w.heap.size ≤ gb113));clear HB;revert n0_ n1_ n2_ n3_;intro HB BK113 GW113 GE113;clear hb hbox hg;obtain ⟨hcz19_0,hcz19_1,hfz19_0,hfz19_1⟩ := bk2 BK113.out)|((with_reducible refine gate_callee (f := 20) rfl ?_);refine goesL_ (some 5) rfl rfl Tryd.func20 (by kernel_rfl) rfl #[.int .i64 a0_0] rfl zM_ ?_;(with_reducible refine (spec_argOf.calls a0_0 t114 _ A2.out).mono ?_);rintro e w' ⟨rfl,⟨nd,rfl⟩⟩;refine ⟨_,rfl,?_⟩))
 (try (rw [drewN_self w18];generalize hq_ : World.drewN w18 _ = w18;have n0_ : Aside0 (w18.heap[gb113]? = some (.cells #[.int .i64 a0_0,.int .i64 a0_1] 32 (0,0))) := ⟨by rw [← hq_];exact (zk_ BK113.out)⟩;have n1_ : Aside0 (Below w.heap.size w w18) := ⟨by rw [← hq_];exact (zb1 HB.out GE113.out)⟩;clear BK113 HB hq_;revert n0_ n1_;intro BK113 HB))
 have n0_ := As_ (bkD BK113.out)
 have n1_ := As_ (bwD HB.out)
 clear BK113 HB
 revert n0_ n1_;intro BK113 HB
 refine start_ (n := 11) (S := fun w' => w'.cell? ⟨gb113,0,none⟩ = some (.int .i64 a0_0) ∧ w'.cell? ⟨gb113,1,none⟩ = some (.int .i64 a0_1)) (ds := []) (bl_ 0 11) (by kernel_rfl) rfl rfl ⟨(bkC BK113.out 0).trans rfl,(bkC BK113.out 1).trans rfl⟩ (fun hHeld => ?_);refine with_tabW spec_showOp.tab3 spec_showOp.bits3 (fun HT_ HW_ => ?_)
 generalize w18.drew = w20 at BK113 HB hHeld ⊢
 refine pQ 1 13 (bl_ 2 11) HT_ rfl ?_
 refine pQ 6 18 (bl_ 66 11) HT_ rfl ?_
 refine tP 2 14 (bl_ 70 11) ?_ HT_ HW_ rfl (.inl ⟨by rfl,?_⟩) hHeld ?_ ?_ ?_;rotate_left;(rintro w' ⟨s0,s1⟩;go_simp;with_reducible rfl);rotate_left;(simp only [Act.put,sq_];rfl)
 refine tP 7 19 (bl_ 198 11) ?_ HT_ HW_ rfl (.inl ⟨by rfl,?_⟩) hHeld ?_ ?_ ?_;rotate_left;(rintro w' ⟨s0,s1⟩;go_simp;with_reducible rfl);rotate_left;(simp only [Act.put,sq_];rfl)
 refine one_ (i := 0) (N := some 12) (bl_ 199 11) rfl rfl (one_of HT_.out (by kernel_rfl)) (by decide) (fun K hK => ?_)
 refine goes_ Tryd.func21 (by kernel_rfl) rfl #[] (by rfl) rfl rfl zM_ ?_
 with_reducible refine (spec_codeWords.calls  t119 _ A12.out).mono ?_
 rintro e w21 ⟨v120,rfl,ho0,hb⟩
 refine ⟨_,rfl,?_⟩
 have n0_ := As_ (Kd.R_lower ho0 (bwZ (zb1 HB.out GE113.out)))
 have n1_ := As_ (zkb BK113.out hb)
 have n2_ := As_ (bwT (zb1 HB.out GE113.out) hb)
 clear BK113 HB
 revert n0_ n1_ n2_;intro HO121 BK113 HB
 obtain ⟨Ao22,co22,eo22⟩ := Kd.R_slice HO121.out
 (first|subst eo22|(injection eo22 with f1_ f2_ f3_;have f4_ := f1_.symm;have f5_ := f3_.symm;clear f1_ f2_ f3_;subst f4_;subst f5_))
 have p122 : 0 ≤ (a0_0 : Int) := odT zA_
 have q122 : a0_0 < (t119.length : Int) := odT zA_
 obtain ⟨ad122,e122,hx122_0⟩ := Kd.at_string (Kd.R_reads' HO121.out).2.2 a0_0 p122 q122
 cases e122
 replace p122 := eq_true p122
 replace q122 := eq_true q122
 refine hK.out _ _ ⟨(bkC BK113.out 0).trans rfl,(bkC BK113.out 1).trans rfl⟩ (fun hHeld => ?_)
 refine spec_showOp.more_ (S' := fun w' => w'.cell? ⟨gb113,0,none⟩ = some (.int .i64 a0_0) ∧ w'.cell? ⟨gb113,1,none⟩ = some (.int .i64 a0_1) ∧ w'.cell? (ad122.add (a0_0).toNat) = some (.string (rdOf ByteArray.empty t119 a0_0))) (fun _ h => ⟨h.1,h.2.1⟩) _ _ _ _ ⟨hHeld.1,hHeld.2,hx122_0⟩ ?_
 replace hHeld := And.intro hHeld.1 (And.intro hHeld.2 hx122_0)
 clear hK K
 refine norm_ (a' := ?_) ?_ ?_
 rotate_left
 ·show Act.put _ (some 12) _ = _
  simp only [Act.put,sq_]
  rfl
 refine pQ 3 15 (bl_ 207 11) HT_ rfl ?_
 refine tP 4 16 (bl_ 223 11) ?_ HT_ HW_ rfl (.inl ⟨by rfl,?_⟩) hHeld ?_ ?_ ?_;rotate_left;(rintro w' ⟨s0,s1,s2⟩;go_simp;with_reducible rfl);rotate_left;(simp only [Act.put,sq_];rfl)
 refine pQ 5 17 (bl_ 255 11) HT_ rfl ?_
 refine one_ (i := 8) (N := some 20) (bl_ 511 11) rfl rfl (one_of HT_.out (by kernel_rfl)) (by decide) (fun K hK => ?_)
 refine goes_ Tryd.func22 (by kernel_rfl) rfl #[.int .i64 a0_1] (by rfl) rfl rfl zM_ ?_
 with_reducible refine (spec_number.calls k a0_1 t123 _ A16.out).mono ?_
 rintro e w' ⟨rfl,⟨nd,rfl⟩⟩
 refine ⟨_,rfl,?_⟩
 refine hK.out _ _ ⟨(bkC BK113.out 0).trans rfl,(bkC BK113.out 1).trans rfl,hHeld.2.2⟩ (fun hHeld => ?_)
 clear hK K
 refine norm_ (a' := ?_) ?_ ?_
 rotate_left
 ·show Act.put _ (some 20) _ = _
  simp only [Act.put,sq_]
  rfl
 refine pQ 9 21 (bl_ 1023 11) HT_ rfl ?_
 refine pQ 10 2 (bl_ 2047 11) HT_ rfl ?_
 refine done_ (done_of HT_.out (by kernel_rfl)) ?_
 try go_wp2
 go_ret
 exact ⟨zE_,zb1 HB.out GE113.out⟩

end Go.Proofs.YtbokjhdhpmmpfaaDoor.Q
