-- Written by wip/tools/qprint.py (a program of this claim's author) by means of the kit's printer.
import Derived.Test.YtfhakhbmbnbneaaQ0
import Derived.Test.YtfhakhbmbnbneaaQ31
import Derived.Test.YtfhakhbmbnbneaaQ32
import Derived.Test.YtfhakhbmbnbneaaQ38
import Derived.Test.YtfhakhbmbnbneaaQ99
namespace Go.Proofs.Ytfhakhbmbnbneaa.Q
open Go.RowKit Go.Proofs.YtfhakhbmbnbneaaW.PrintWords Go.Proofs.YtfhakhbmbnbneaaW.PrintLast Go.Proofs.YtfhakhbmbnbneaaW.PrintMore
attribute [local go_sem] max2_int min2_int max_two min_two max_three min_three max_four min_four   -- for this text's walks alone
set_option linter.unusedVariables false
set_option linter.unusedSimpArgs false

/-! ### laws_FnExactEqualTo: function 8 -/
def laws_FnExactEqualTo.f (k : Nat) (l0_0 : List (S74)) (a0_1 : Int) (l1_0 : List (S74)) (a1_1 : Int) (a2 : Int) : Option (Bool) := (laws_szGraph.f k l0_0 a0_1 1048576).bind fun t774 => (if t774 < 0 then (some true) else ((laws_szGraph.f k l1_0 a1_1 t774).bind fun t775 => (if t775 < 0 then (some true) else ((laws_toGraph.f k l0_0 a0_1).bind fun bt776 => ((laws_toGraph.f k l1_0 a1_1).bind fun bt780 => ((spec_EqualTo.f k bt776.1 bt776.2 bt780.1 bt780.2 a2).bind fun t784 => ((laws_toGraph.f k l0_0 a0_1).bind fun bt785 => ((laws_toGraph.f k l1_0 a1_1).bind fun bt790 => ((impl_EqualTo.f k bt785.1 bt785.2 bt790.1 bt790.2 a2).bind fun t795 => (if (t795 != t784) = true then (none) else ((laws_toGraph.f k l0_0 a0_1).bind fun bt796 => ((laws_eqGraph.f k bt785.1 bt785.2 bt796.1 bt796.2).bind fun t800 => (if t800 = true then ((laws_toGraph.f k l1_0 a1_1).bind fun bt801 => ((laws_eqGraph.f k bt790.1 bt790.2 bt801.1 bt801.2).bind fun t805 => (if t805 = true then (some true) else (none)))) else (none))))))))))))))
set_option maxHeartbeats 8000000 in
set_option maxRecDepth 100000 in
theorem laws_FnExactEqualTo.calls (k : Nat) (A0_0 : Option Addr) (c0_0 : Nat) (l0_0 : List (S74)) (a0_1 : Int) (A1_0 : Option Addr) (c1_0 : Nat) (l1_0 : List (S74)) (a1_1 : Int) (a2 : Int) (r : Bool) (w : World) (hr0_0 : Kd.C k74 w A0_0 l0_0.length l0_0) (hc0_0 : l0_0.length ≤ c0_0) (hr1_0 : Kd.C k74 w A1_0 l1_0.length l1_0) (hc1_0 : l1_0.length ≤ c1_0) (h : laws_FnExactEqualTo.f k l0_0 a0_1 l1_0 a1_1 a2 = some r) :
  Calls Try.prog 8 #[.agg #[.slice A0_0 l0_0.length c0_0,.int .i64 a0_1],.agg #[.slice A1_0 l1_0.length c1_0,.int .i64 a1_1],.int .i64 a2] w fun e w' => e = .returned (.bool r) ∧ Below w.heap.size w w' := by
 have hu24 := Try.underlying24
 have hu29 := Try.underlying29
 have HR0_0 := As_ hr0_0
 have HC0_0 := As_ hc0_0
 clear hr0_0 hc0_0
 have HR1_0 := As_ hr1_0
 have HC1_0 := As_ hc1_0
 clear hr1_0 hc1_0
 have HB := As_ (Below.refl w.heap.size w)
 have H : ((laws_szGraph.f k l0_0 a0_1 1048576).bind fun t774 => (if t774 < 0 then (some true) else ((laws_szGraph.f k l1_0 a1_1 t774).bind fun t775 => (if t775 < 0 then (some true) else ((laws_toGraph.f k l0_0 a0_1).bind fun bt776 => ((laws_toGraph.f k l1_0 a1_1).bind fun bt780 => ((spec_EqualTo.f k bt776.1 bt776.2 bt780.1 bt780.2 a2).bind fun t784 => ((laws_toGraph.f k l0_0 a0_1).bind fun bt785 => ((laws_toGraph.f k l1_0 a1_1).bind fun bt790 => ((impl_EqualTo.f k bt785.1 bt785.2 bt790.1 bt790.2 a2).bind fun t795 => (if (t795 != t784) = true then (none) else ((laws_toGraph.f k l0_0 a0_1).bind fun bt796 => ((laws_eqGraph.f k bt785.1 bt785.2 bt796.1 bt796.2).bind fun t800 => (if t800 = true then ((laws_toGraph.f k l1_0 a1_1).bind fun bt801 => ((laws_eqGraph.f k bt790.1 bt790.2 bt801.1 bt801.2).bind fun t805 => (if t805 = true then (some true) else (none)))) else (none))))))))))))))) = some r := h
 clear h
 replace H := obS H
 obtain ⟨t774,A40,H⟩ := H
 replace H : (if t774 < 0 then (some true) else ((laws_szGraph.f k l1_0 a1_1 t774).bind fun t775 => (if t775 < 0 then (some true) else ((laws_toGraph.f k l0_0 a0_1).bind fun bt776 => ((laws_toGraph.f k l1_0 a1_1).bind fun bt780 => ((spec_EqualTo.f k bt776.1 bt776.2 bt780.1 bt780.2 a2).bind fun t784 => ((laws_toGraph.f k l0_0 a0_1).bind fun bt785 => ((laws_toGraph.f k l1_0 a1_1).bind fun bt790 => ((impl_EqualTo.f k bt785.1 bt785.2 bt790.1 bt790.2 a2).bind fun t795 => (if (t795 != t784) = true then (none) else ((laws_toGraph.f k l0_0 a0_1).bind fun bt796 => ((laws_eqGraph.f k bt785.1 bt785.2 bt796.1 bt796.2).bind fun t800 => (if t800 = true then ((laws_toGraph.f k l1_0 a1_1).bind fun bt801 => ((laws_eqGraph.f k bt790.1 bt790.2 bt801.1 bt801.2).bind fun t805 => (if t805 = true then (some true) else (none)))) else (none)))))))))))))) = some r := H
 have A4 := As_ A40
 clear A40
 by_cases c5 : t774 < 0
 ·rw [if_pos c5] at H
  have c5b0 : decide (t774 < 0) = true := deT c5
  clear c5
  obtain rfl := Option.some.inj H
  go_enter Try.func8,Try.ntmps8
  go_wp2_with (first|((with_reducible refine gate_dst (N := 3) rfl ?_);refine box_event ?hg (N := 3) ?hd (cs := #[.slice A0_0 l0_0.length c0_0,.int .i64 a0_1]) (t := 24) ?hr ?_;(case hd => rfl);(case hg => rfl);(case hr => go_simp <;> rfl);intro gb772 hg w6 hbox hb;have n0_ := As_ (bwT (zb0 HB.out) hb);have n1_ := As_ (hbox);have n2_ := As_ ((by rw [hg];exact (bwZ (zb0 HB.out)) : w.heap.size ≤ gb772));have n3_ := As_ ((by rw [hg];exact (bwZ (zb0 HB.out)) : w.heap.size ≤ gb772));clear HB;revert n0_ n1_ n2_ n3_;intro HB BK772 GW772 GE772;clear hb hbox hg)|((with_reducible refine gate_dst (N := 4) rfl ?_);refine box_event ?hg (N := 4) ?hd (cs := #[.slice A1_0 l1_0.length c1_0,.int .i64 a1_1]) (t := 24) ?hr ?_;(case hd => rfl);(case hg => rfl);(case hr => go_simp <;> rfl);intro gb773 hg w7 hbox hb;have n0_ := As_ (zkb BK772.out hb);have n1_ := As_ (bwT (zb1 HB.out GE772.out) hb);have n2_ := As_ (hbox);have n3_ := As_ ((by rw [hg];exact (bwZ (zb1 HB.out GE772.out)) : w.heap.size ≤ gb773));have n4_ := As_ ((by rw [hg];exact (bwZ (zb1 HB.out GE772.out)) : w.heap.size ≤ gb773));have n5_ := As_ ((by rw [hg];exact Nat.ne_of_lt (zkl BK772.out) : gb772 ≠ gb773));have n6_ := As_ ((by rw [hg];exact Nat.ne_of_gt (zkl BK772.out) : gb773 ≠ gb772));clear BK772 HB;revert n0_ n1_ n2_ n3_ n4_ n5_ n6_;intro BK772 HB BK773 GW773 GE773 NB772_773 NB773_772;clear hb hbox hg;have hnb8 := NB772_773.out;have hnc8 := NB773_772.out;obtain ⟨hcz9_0,hcz9_1,hfz9_0,hfz9_1⟩ := bk2 BK772.out)|((with_reducible refine gate_callee (f := 15) rfl ?_);refine goesL_ (some 14) rfl rfl Try.func15 (by kernel_rfl) rfl #[.agg #[.slice A0_0 l0_0.length c0_0,.int .i64 a0_1],.int .i64 1048576] rfl zM_ ?_;(with_reducible refine (laws_szGraph.calls k _ _ l0_0 a0_1 1048576 t774 _ ?side1 ?side2 A4.out).mono ?_);(case side1 => exact zC_ (Kd.C_below HR0_0.out HB.out));(case side2 => exact HC0_0.out);rintro e w10 ⟨rfl,hb⟩;refine ⟨_,rfl,?_⟩;have n0_ := As_ (zkb BK772.out hb);have n1_ := As_ (zkb BK773.out hb);have n2_ := As_ (bwT (zb2 HB.out GE772.out GE773.out) hb);clear BK772 BK773 HB;revert n0_ n1_ n2_;intro BK772 BK773 HB))
  go_ret
  exact ⟨zE_,zb2 HB.out GE772.out GE773.out⟩
 rw [if_neg c5] at H
 have c5b0 : decide (t774 < 0) = false := deF c5
 clear c5
 replace H := obS H
 obtain ⟨t775,A110,H⟩ := H
 replace H : (if t775 < 0 then (some true) else ((laws_toGraph.f k l0_0 a0_1).bind fun bt776 => ((laws_toGraph.f k l1_0 a1_1).bind fun bt780 => ((spec_EqualTo.f k bt776.1 bt776.2 bt780.1 bt780.2 a2).bind fun t784 => ((laws_toGraph.f k l0_0 a0_1).bind fun bt785 => ((laws_toGraph.f k l1_0 a1_1).bind fun bt790 => ((impl_EqualTo.f k bt785.1 bt785.2 bt790.1 bt790.2 a2).bind fun t795 => (if (t795 != t784) = true then (none) else ((laws_toGraph.f k l0_0 a0_1).bind fun bt796 => ((laws_eqGraph.f k bt785.1 bt785.2 bt796.1 bt796.2).bind fun t800 => (if t800 = true then ((laws_toGraph.f k l1_0 a1_1).bind fun bt801 => ((laws_eqGraph.f k bt790.1 bt790.2 bt801.1 bt801.2).bind fun t805 => (if t805 = true then (some true) else (none)))) else (none)))))))))))) = some r := H
 have A11 := As_ A110
 clear A110
 by_cases c12 : t775 < 0
 ·rw [if_pos c12] at H
  have c12b0 : decide (t775 < 0) = true := deT c12
  clear c12
  obtain rfl := Option.some.inj H
  go_enter Try.func8,Try.ntmps8
  go_wp2_with (first|((with_reducible refine gate_dst (N := 3) rfl ?_);refine box_event ?hg (N := 3) ?hd (cs := #[.slice A0_0 l0_0.length c0_0,.int .i64 a0_1]) (t := 24) ?hr ?_;(case hd => rfl);(case hg => rfl);(case hr => go_simp <;> rfl);intro gb772 hg w13 hbox hb;have n0_ := As_ (bwT (zb0 HB.out) hb);have n1_ := As_ (hbox);have n2_ := As_ ((by rw [hg];exact (bwZ (zb0 HB.out)) : w.heap.size ≤ gb772));have n3_ := As_ ((by rw [hg];exact (bwZ (zb0 HB.out)) : w.heap.size ≤ gb772));clear HB;revert n0_ n1_ n2_ n3_;intro HB BK772 GW772 GE772;clear hb hbox hg)|((with_reducible refine gate_dst (N := 4) rfl ?_);refine box_event ?hg (N := 4) ?hd (cs := #[.slice A1_0 l1_0.length c1_0,.int .i64 a1_1]) (t := 24) ?hr ?_;(case hd => rfl);(case hg => rfl);(case hr => go_simp <;> rfl);intro gb773 hg w14 hbox hb;have n0_ := As_ (zkb BK772.out hb);have n1_ := As_ (bwT (zb1 HB.out GE772.out) hb);have n2_ := As_ (hbox);have n3_ := As_ ((by rw [hg];exact (bwZ (zb1 HB.out GE772.out)) : w.heap.size ≤ gb773));have n4_ := As_ ((by rw [hg];exact (bwZ (zb1 HB.out GE772.out)) : w.heap.size ≤ gb773));have n5_ := As_ ((by rw [hg];exact Nat.ne_of_lt (zkl BK772.out) : gb772 ≠ gb773));have n6_ := As_ ((by rw [hg];exact Nat.ne_of_gt (zkl BK772.out) : gb773 ≠ gb772));clear BK772 HB;revert n0_ n1_ n2_ n3_ n4_ n5_ n6_;intro BK772 HB BK773 GW773 GE773 NB772_773 NB773_772;clear hb hbox hg;have hnb15 := NB772_773.out;have hnc15 := NB773_772.out;obtain ⟨hcz16_0,hcz16_1,hfz16_0,hfz16_1⟩ := bk2 BK772.out)|((with_reducible refine gate_callee (f := 15) rfl ?_);refine goesL_ (some 14) rfl rfl Try.func15 (by kernel_rfl) rfl #[.agg #[.slice A0_0 l0_0.length c0_0,.int .i64 a0_1],.int .i64 1048576] rfl zM_ ?_;(with_reducible refine (laws_szGraph.calls k _ _ l0_0 a0_1 1048576 t774 _ ?side1 ?side2 A4.out).mono ?_);(case side1 => exact zC_ (Kd.C_below HR0_0.out HB.out));(case side2 => exact HC0_0.out);rintro e w17 ⟨rfl,hb⟩;refine ⟨_,rfl,?_⟩;have n0_ := As_ (zkb BK772.out hb);have n1_ := As_ (zkb BK773.out hb);have n2_ := As_ (bwT (zb2 HB.out GE772.out GE773.out) hb);clear BK772 BK773 HB;revert n0_ n1_ n2_;intro BK772 BK773 HB;obtain ⟨hcz18_0,hcz18_1,hfz18_0,hfz18_1⟩ := bk2 BK773.out)|((with_reducible refine gate_callee (f := 15) rfl ?_);refine goesL_ (some 19) rfl rfl Try.func15 (by kernel_rfl) rfl #[.agg #[.slice A1_0 l1_0.length c1_0,.int .i64 a1_1],.int .i64 t774] rfl zM_ ?_;(with_reducible refine (laws_szGraph.calls k _ _ l1_0 a1_1 t774 t775 _ ?side1 ?side2 A11.out).mono ?_);(case side1 => exact zC_ (Kd.C_below HR1_0.out HB.out));(case side2 => exact HC1_0.out);rintro e w19 ⟨rfl,hb⟩;refine ⟨_,rfl,?_⟩;have n0_ := As_ (zkb BK772.out hb);have n1_ := As_ (zkb BK773.out hb);have n2_ := As_ (bwT (zb2 HB.out GE772.out GE773.out) hb);clear BK772 BK773 HB;revert n0_ n1_ n2_;intro BK772 BK773 HB))
  go_ret
  exact ⟨zE_,zb2 HB.out GE772.out GE773.out⟩
 rw [if_neg c12] at H
 have c12b0 : decide (t775 < 0) = false := deF c12
 clear c12
 replace H := obS H
 obtain ⟨⟨t776,t779⟩,A200,H⟩ := H
 replace H : ((laws_toGraph.f k l1_0 a1_1).bind fun bt780 => ((spec_EqualTo.f k t776 t779 bt780.1 bt780.2 a2).bind fun t784 => ((laws_toGraph.f k l0_0 a0_1).bind fun bt785 => ((laws_toGraph.f k l1_0 a1_1).bind fun bt790 => ((impl_EqualTo.f k bt785.1 bt785.2 bt790.1 bt790.2 a2).bind fun t795 => (if (t795 != t784) = true then (none) else ((laws_toGraph.f k l0_0 a0_1).bind fun bt796 => ((laws_eqGraph.f k bt785.1 bt785.2 bt796.1 bt796.2).bind fun t800 => (if t800 = true then ((laws_toGraph.f k l1_0 a1_1).bind fun bt801 => ((laws_eqGraph.f k bt790.1 bt790.2 bt801.1 bt801.2).bind fun t805 => (if t805 = true then (some true) else (none)))) else (none)))))))))) = some r := H
 have A20 := As_ A200
 clear A200
 replace H := obS H
 obtain ⟨⟨t780,t783⟩,A210,H⟩ := H
 replace H : ((spec_EqualTo.f k t776 t779 t780 t783 a2).bind fun t784 => ((laws_toGraph.f k l0_0 a0_1).bind fun bt785 => ((laws_toGraph.f k l1_0 a1_1).bind fun bt790 => ((impl_EqualTo.f k bt785.1 bt785.2 bt790.1 bt790.2 a2).bind fun t795 => (if (t795 != t784) = true then (none) else ((laws_toGraph.f k l0_0 a0_1).bind fun bt796 => ((laws_eqGraph.f k bt785.1 bt785.2 bt796.1 bt796.2).bind fun t800 => (if t800 = true then ((laws_toGraph.f k l1_0 a1_1).bind fun bt801 => ((laws_eqGraph.f k bt790.1 bt790.2 bt801.1 bt801.2).bind fun t805 => (if t805 = true then (some true) else (none)))) else (none))))))))) = some r := H
 have A21 := As_ A210
 clear A210
 replace H := obS H
 obtain ⟨t784,A220,H⟩ := H
 replace H : ((laws_toGraph.f k l0_0 a0_1).bind fun bt785 => ((laws_toGraph.f k l1_0 a1_1).bind fun bt790 => ((impl_EqualTo.f k bt785.1 bt785.2 bt790.1 bt790.2 a2).bind fun t795 => (if (t795 != t784) = true then (none) else ((laws_toGraph.f k l0_0 a0_1).bind fun bt796 => ((laws_eqGraph.f k bt785.1 bt785.2 bt796.1 bt796.2).bind fun t800 => (if t800 = true then ((laws_toGraph.f k l1_0 a1_1).bind fun bt801 => ((laws_eqGraph.f k bt790.1 bt790.2 bt801.1 bt801.2).bind fun t805 => (if t805 = true then (some true) else (none)))) else (none)))))))) = some r := H
 have A22 := As_ A220
 clear A220
 replace H := obS H
 obtain ⟨⟨t785,t788⟩,A230,H⟩ := H
 replace H : ((laws_toGraph.f k l1_0 a1_1).bind fun bt790 => ((impl_EqualTo.f k t785 t788 bt790.1 bt790.2 a2).bind fun t795 => (if (t795 != t784) = true then (none) else ((laws_toGraph.f k l0_0 a0_1).bind fun bt796 => ((laws_eqGraph.f k t785 t788 bt796.1 bt796.2).bind fun t800 => (if t800 = true then ((laws_toGraph.f k l1_0 a1_1).bind fun bt801 => ((laws_eqGraph.f k bt790.1 bt790.2 bt801.1 bt801.2).bind fun t805 => (if t805 = true then (some true) else (none)))) else (none))))))) = some r := H
 have A23 := As_ A230
 clear A230
 replace H := obS H
 obtain ⟨⟨t790,t793⟩,A240,H⟩ := H
 replace H : ((impl_EqualTo.f k t785 t788 t790 t793 a2).bind fun t795 => (if (t795 != t784) = true then (none) else ((laws_toGraph.f k l0_0 a0_1).bind fun bt796 => ((laws_eqGraph.f k t785 t788 bt796.1 bt796.2).bind fun t800 => (if t800 = true then ((laws_toGraph.f k l1_0 a1_1).bind fun bt801 => ((laws_eqGraph.f k t790 t793 bt801.1 bt801.2).bind fun t805 => (if t805 = true then (some true) else (none)))) else (none)))))) = some r := H
 have A24 := As_ A240
 clear A240
 replace H := obS H
 obtain ⟨t795,A250,H⟩ := H
 replace H : (if (t795 != t784) = true then (none) else ((laws_toGraph.f k l0_0 a0_1).bind fun bt796 => ((laws_eqGraph.f k t785 t788 bt796.1 bt796.2).bind fun t800 => (if t800 = true then ((laws_toGraph.f k l1_0 a1_1).bind fun bt801 => ((laws_eqGraph.f k t790 t793 bt801.1 bt801.2).bind fun t805 => (if t805 = true then (some true) else (none)))) else (none))))) = some r := H
 have A25 := As_ A250
 clear A250
 by_cases c26 : (t795 != t784) = true
 ·rw [if_pos c26] at H
  have c26b0 : (t795 != t784) = true := c26
  (try (have c26b1 : decide (t795 = t784) = false := by simpa using c26))
  (try (have c26b2 : (t795 == t784) = false := by simpa using c26))
  (try (have c26b3 : ¬ (t795 = t784) := by simpa using c26))
  clear c26
  exact absurd H (by simp)
 rw [if_neg c26] at H
 have c26b0 : (t795 != t784) = false := by simpa using c26
 (try (have c26b1 : decide (t795 = t784) = true := by simpa using c26))
 (try (have c26b2 : (t795 == t784) = true := by simpa using c26))
 clear c26
 replace H := obS H
 obtain ⟨⟨t796,t799⟩,A570,H⟩ := H
 replace H : ((laws_eqGraph.f k t785 t788 t796 t799).bind fun t800 => (if t800 = true then ((laws_toGraph.f k l1_0 a1_1).bind fun bt801 => ((laws_eqGraph.f k t790 t793 bt801.1 bt801.2).bind fun t805 => (if t805 = true then (some true) else (none)))) else (none))) = some r := H
 have A57 := As_ A570
 clear A570
 replace H := obS H
 obtain ⟨t800,A580,H⟩ := H
 replace H : (if t800 = true then ((laws_toGraph.f k l1_0 a1_1).bind fun bt801 => ((laws_eqGraph.f k t790 t793 bt801.1 bt801.2).bind fun t805 => (if t805 = true then (some true) else (none)))) else (none)) = some r := H
 have A58 := As_ A580
 clear A580
 by_cases c59 : t800 = true
 rotate_left
 ·replace c59 := Bool.eq_false_iff.mpr c59
  subst c59
  have H1 : (none) = some r := by rw [if_neg (show ¬ (false = true) by decide)] at H;exact H
  clear H
  have H := H1
  clear H1
  exact absurd H (by simp)

 subst c59
 have H1 : ((laws_toGraph.f k l1_0 a1_1).bind fun bt801 => ((laws_eqGraph.f k t790 t793 bt801.1 bt801.2).bind fun t805 => (if t805 = true then (some true) else (none)))) = some r := by rw [if_pos rfl] at H;exact H
 clear H
 have H := H1
 clear H1
 replace H := obS H
 obtain ⟨⟨t801,t804⟩,A600,H⟩ := H
 replace H : ((laws_eqGraph.f k t790 t793 t801 t804).bind fun t805 => (if t805 = true then (some true) else (none))) = some r := H
 have A60 := As_ A600
 clear A600
 replace H := obS H
 obtain ⟨t805,A610,H⟩ := H
 replace H : (if t805 = true then (some true) else (none)) = some r := H
 have A61 := As_ A610
 clear A610
 by_cases c62 : t805 = true
 rotate_left
 ·replace c62 := Bool.eq_false_iff.mpr c62
  subst c62
  have H1 : (none) = some r := by rw [if_neg (show ¬ (false = true) by decide)] at H;exact H
  clear H
  have H := H1
  clear H1
  exact absurd H (by simp)
 subst c62
 have H1 : (some true) = some r := by rw [if_pos rfl] at H;exact H
 clear H
 have H := H1
 clear H1
 obtain rfl := Option.some.inj H
 go_enter Try.func8,Try.ntmps8
 try go_wp2_with (first|((with_reducible refine gate_dst (N := 3) rfl ?_);refine box_event ?hg (N := 3) ?hd (cs := #[.slice A0_0 l0_0.length c0_0,.int .i64 a0_1]) (t := 24) ?hr ?_;(case hd => rfl);(case hg => rfl);(case hr => go_simp <;> rfl);intro gb772 hg w63 hbox hb;have n0_ := As_ (bwT (zb0 HB.out) hb);have n1_ := As_ (hbox);have n2_ := As_ ((by rw [hg];exact (bwZ (zb0 HB.out)) : w.heap.size ≤ gb772));have n3_ := As_ ((by rw [hg];exact (bwZ (zb0 HB.out)) : w.heap.size ≤ gb772));clear HB;revert n0_ n1_ n2_ n3_;intro HB BK772 GW772 GE772;clear hb hbox hg)|((with_reducible refine gate_dst (N := 4) rfl ?_);refine box_event ?hg (N := 4) ?hd (cs := #[.slice A1_0 l1_0.length c1_0,.int .i64 a1_1]) (t := 24) ?hr ?_;(case hd => rfl);(case hg => rfl);(case hr => go_simp <;> rfl);intro gb773 hg w64 hbox hb;have n0_ := As_ (zkb BK772.out hb);have n1_ := As_ (bwT (zb1 HB.out GE772.out) hb);have n2_ := As_ (hbox);have n3_ := As_ ((by rw [hg];exact (bwZ (zb1 HB.out GE772.out)) : w.heap.size ≤ gb773));have n4_ := As_ ((by rw [hg];exact (bwZ (zb1 HB.out GE772.out)) : w.heap.size ≤ gb773));have n5_ := As_ ((by rw [hg];exact Nat.ne_of_lt (zkl BK772.out) : gb772 ≠ gb773));have n6_ := As_ ((by rw [hg];exact Nat.ne_of_gt (zkl BK772.out) : gb773 ≠ gb772));clear BK772 HB;revert n0_ n1_ n2_ n3_ n4_ n5_ n6_;intro BK772 HB BK773 GW773 GE773 NB772_773 NB773_772;clear hb hbox hg;have hnb65 := NB772_773.out;have hnc65 := NB773_772.out;obtain ⟨hcz66_0,hcz66_1,hfz66_0,hfz66_1⟩ := bk2 BK772.out)|((with_reducible refine gate_callee (f := 15) rfl ?_);refine goesL_ (some 14) rfl rfl Try.func15 (by kernel_rfl) rfl #[.agg #[.slice A0_0 l0_0.length c0_0,.int .i64 a0_1],.int .i64 1048576] rfl zM_ ?_;(with_reducible refine (laws_szGraph.calls k _ _ l0_0 a0_1 1048576 t774 _ ?side1 ?side2 A4.out).mono ?_);(case side1 => exact zC_ (Kd.C_below HR0_0.out HB.out));(case side2 => exact HC0_0.out);rintro e w67 ⟨rfl,hb⟩;refine ⟨_,rfl,?_⟩;have n0_ := As_ (zkb BK772.out hb);have n1_ := As_ (zkb BK773.out hb);have n2_ := As_ (bwT (zb2 HB.out GE772.out GE773.out) hb);clear BK772 BK773 HB;revert n0_ n1_ n2_;intro BK772 BK773 HB;obtain ⟨hcz68_0,hcz68_1,hfz68_0,hfz68_1⟩ := bk2 BK773.out)|((with_reducible refine gate_callee (f := 15) rfl ?_);refine goesL_ (some 19) rfl rfl Try.func15 (by kernel_rfl) rfl #[.agg #[.slice A1_0 l1_0.length c1_0,.int .i64 a1_1],.int .i64 t774] rfl zM_ ?_;(with_reducible refine (laws_szGraph.calls k _ _ l1_0 a1_1 t774 t775 _ ?side1 ?side2 A11.out).mono ?_);(case side1 => exact zC_ (Kd.C_below HR1_0.out HB.out));(case side2 => exact HC1_0.out);rintro e w69 ⟨rfl,hb⟩;refine ⟨_,rfl,?_⟩;have n0_ := As_ (zkb BK772.out hb);have n1_ := As_ (zkb BK773.out hb);have n2_ := As_ (bwT (zb2 HB.out GE772.out GE773.out) hb);clear BK772 BK773 HB;revert n0_ n1_ n2_;intro BK772 BK773 HB))
 have n0_ := As_ (bkD BK772.out)
 have n1_ := As_ (bkD BK773.out)
 have n2_ := As_ (bwD HB.out)
 clear BK772 BK773 HB
 revert n0_ n1_ n2_;intro BK772 BK773 HB
 refine start_ (n := 7) (S := fun w' => w'.cell? ⟨gb772,0,none⟩ = some (.slice A0_0 l0_0.length c0_0) ∧ w'.cell? ⟨gb772,1,none⟩ = some (.int .i64 a0_1) ∧ w'.cell? ⟨gb773,0,none⟩ = some (.slice A1_0 l1_0.length c1_0) ∧ w'.cell? ⟨gb773,1,none⟩ = some (.int .i64 a1_1)) (ds := []) (bl_ 0 7) (by kernel_rfl) rfl rfl ⟨(bkC BK772.out 0).trans rfl,(bkC BK772.out 1).trans rfl,(bkC BK773.out 0).trans rfl,(bkC BK773.out 1).trans rfl⟩ (fun hHeld => ?_)
 generalize w69.drew = w70 at BK772 BK773 HB hHeld ⊢
 refine pure_ (i := 4) (N := some 26) (v := ?_) (a' := ?_) (bl_ 16 7) rfl rfl (by kernel_rfl) (fun _ _ _ h => h) (Or.inl ⟨by rfl,?_⟩) ?_ ?_;rotate_left;(intro w';go_simp;with_reducible rfl);rotate_left;(simp only [Act.put,sq_];rfl)
 refine take_ (i := 0) (N := some 22) (v := ?_) (a' := ?_) (bl_ 17 7) rfl rfl (by kernel_rfl) (fun _ _ _ h => h) (Or.inl ⟨by rfl,?_⟩) hHeld ?_ ?_;rotate_left;(rintro w' ⟨s0,s1,s2,s3⟩;go_simp;with_reducible rfl);rotate_left;(simp only [Act.put,sq_];rfl)
 refine take_ (i := 2) (N := some 24) (v := ?_) (a' := ?_) (bl_ 21 7) rfl rfl (by kernel_rfl) (fun _ _ _ h => h) (Or.inl ⟨by rfl,?_⟩) hHeld ?_ ?_;rotate_left;(rintro w' ⟨s0,s1,s2,s3⟩;go_simp;with_reducible rfl);rotate_left;(simp only [Act.put,sq_];rfl)
 refine one_ (i := 1) (N := some 23) (bl_ 23 7) rfl rfl (by kernel_rfl) (by decide) (fun K hK => ?_)
 refine goes_ Try.func17 (by kernel_rfl) rfl #[.agg #[.slice A0_0 l0_0.length c0_0,.int .i64 a0_1]] (by rfl) rfl rfl zM_ ?_
 with_reducible refine (laws_toGraph.calls k _ _ l0_0 a0_1 t776 t779 _ ?side1 ?side2 A20.out).mono ?_
 (case side1 => exact zC_ (Kd.C_below HR0_0.out HB.out))
 (case side2 => exact HC0_0.out)
 rintro e w71 ⟨v777,rfl,ho0,hb⟩
 refine ⟨_,rfl,?_⟩
 have n0_ := As_ (Kd.S_lower ho0 (bwZ (zb2 HB.out GE772.out GE773.out)))
 have n1_ := As_ (zkb BK772.out hb)
 have n2_ := As_ (zkb BK773.out hb)
 have n3_ := As_ (bwT (zb2 HB.out GE772.out GE773.out) hb)
 clear BK772 BK773 HB
 revert n0_ n1_ n2_ n3_;intro HO778 BK772 BK773 HB
 refine hK.out _ _ ⟨(bkC BK772.out 0).trans rfl,(bkC BK772.out 1).trans rfl,(bkC BK773.out 0).trans rfl,(bkC BK773.out 1).trans rfl⟩ (fun hHeld => ?_)
 clear hK K
 refine norm_ (a' := ?_) ?_ ?_
 rotate_left
 ·show Act.put _ (some 23) _ = _
  simp only [Act.put,sq_]
  rfl
 refine one_ (i := 3) (N := some 25) (bl_ 31 7) rfl rfl (by kernel_rfl) (by decide) (fun K hK => ?_)
 refine goes_ Try.func17 (by kernel_rfl) rfl #[.agg #[.slice A1_0 l1_0.length c1_0,.int .i64 a1_1]] (by rfl) rfl rfl zM_ ?_
 with_reducible refine (laws_toGraph.calls k _ _ l1_0 a1_1 t780 t783 _ ?side1 ?side2 A21.out).mono ?_
 (case side1 => exact zC_ (Kd.C_below HR1_0.out HB.out))
 (case side2 => exact HC1_0.out)
 rintro e w72 ⟨v781,rfl,ho0,hb⟩
 refine ⟨_,rfl,?_⟩
 have n0_ := As_ (Kd.S_elder' (zS_ HO778.out) (Kd.S_base ho0) hb)
 have n1_ := As_ (Kd.S_lower (Kd.S_new' ho0 (Kd.S_lt (zS_ HO778.out))) (bwZ (zb2 HB.out GE772.out GE773.out)))
 have n2_ := As_ (zkb BK772.out hb)
 have n3_ := As_ (zkb BK773.out hb)
 have n4_ := As_ (bwT (zb2 HB.out GE772.out GE773.out) hb)
 clear HO778 BK772 BK773 HB
 revert n0_ n1_ n2_ n3_ n4_;intro HO778 HO782 BK772 BK773 HB
 obtain ⟨Ao73,co73,eo73⟩ := Kd.S_slice HO778.out
 (first|subst eo73|(injection eo73 with f1_ f2_ f3_;have f4_ := f1_.symm;have f5_ := f3_.symm;clear f1_ f2_ f3_;subst f4_;subst f5_))
 obtain ⟨Ao74,co74,eo74⟩ := Kd.S_slice HO782.out
 (first|subst eo74|(injection eo74 with f1_ f2_ f3_;have f4_ := f1_.symm;have f5_ := f3_.symm;clear f1_ f2_ f3_;subst f4_;subst f5_))
 refine hK.out _ _ ⟨(bkC BK772.out 0).trans rfl,(bkC BK772.out 1).trans rfl,(bkC BK773.out 0).trans rfl,(bkC BK773.out 1).trans rfl⟩ (fun hHeld => ?_)
 clear hK K
 refine norm_ (a' := ?_) ?_ ?_
 rotate_left
 ·show Act.put _ (some 25) _ = _
  simp only [Act.put,sq_]
  rfl
 refine one_ (i := 5) (N := some 27) (bl_ 63 7) rfl rfl (by kernel_rfl) (by decide) (fun K hK => ?_)
 refine goes_ Try.func31 (by kernel_rfl) rfl #[.agg #[.slice Ao73 t776.length co73,.int .i64 t779],.agg #[.slice Ao74 t780.length co74,.int .i64 t783],.int .i64 a2] (by rfl) rfl rfl zM_ ?_
 with_reducible refine (spec_EqualTo.calls k _ _ t776 t779 _ _ t780 t783 a2 t784 _ ?side1 ?side2 ?side3 ?side4 A22.out).mono ?_
 (case side1 => exact zC_ (Kd.S_reads' HO778.out).2.2)
 (case side2 => exact (Kd.S_reads' HO778.out).2.1)
 (case side3 => exact zC_ (Kd.S_reads' HO782.out).2.2)
 (case side4 => exact (Kd.S_reads' HO782.out).2.1)
 rintro e w75 ⟨rfl,hb⟩
 refine ⟨_,rfl,?_⟩
 have n0_ := As_ (Kd.S_below (zS_ HO778.out) hb)
 have n1_ := As_ (Kd.S_below (zS_ HO782.out) hb)
 have n2_ := As_ (zkb BK772.out hb)
 have n3_ := As_ (zkb BK773.out hb)
 have n4_ := As_ (bwT (zb2 HB.out GE772.out GE773.out) hb)
 clear HO778 HO782 BK772 BK773 HB
 revert n0_ n1_ n2_ n3_ n4_;intro HO778 HO782 BK772 BK773 HB
 refine hK.out _ _ ⟨(bkC BK772.out 0).trans rfl,(bkC BK772.out 1).trans rfl,(bkC BK773.out 0).trans rfl,(bkC BK773.out 1).trans rfl⟩ (fun hHeld => ?_)
 clear hK K
 refine norm_ (a' := ?_) ?_ ?_
 rotate_left
 ·show Act.put _ (some 27) _ = _
  simp only [Act.put,sq_]
  rfl
 refine pure_ (i := 6) (N := some 8) (v := ?_) (a' := ?_) (bl_ 127 7) rfl rfl (by kernel_rfl) (fun _ _ _ h => h) (Or.inl ⟨by rfl,?_⟩) ?_ ?_;rotate_left;(intro w';go_simp;with_reducible rfl);rotate_left;(simp only [Act.put,sq_];rfl)
 refine done_ (by kernel_rfl) ?_
 obtain ⟨hcz76_0,hcz76_1,hfz76_0,hfz76_1⟩ := bk2 BK772.out
 try go_wp2_with (first|((with_reducible refine gate_callee (f := 17) rfl ?_);refine goesL_ (some 29) rfl rfl Try.func17 (by kernel_rfl) rfl #[.agg #[.slice A0_0 l0_0.length c0_0,.int .i64 a0_1]] rfl zM_ ?_;(with_reducible refine (laws_toGraph.calls k _ _ l0_0 a0_1 t785 t788 _ ?side1 ?side2 A23.out).mono ?_);(case side1 => exact zC_ (Kd.C_below HR0_0.out HB.out));(case side2 => exact HC0_0.out);rintro e w77 ⟨v786,rfl,ho0,hb⟩;refine ⟨_,rfl,?_⟩;have n0_ := As_ (Kd.S_elder' (zS_ HO778.out) (Kd.S_base ho0) hb);have n1_ := As_ (Kd.S_elder' (zS_ HO782.out) (Kd.S_base ho0) hb);have n2_ := As_ (Kd.S_lower (Kd.S_new' (Kd.S_new' ho0 (Kd.S_lt (zS_ HO778.out))) (Kd.S_lt (zS_ HO782.out))) (bwZ (zb2 HB.out GE772.out GE773.out)));have n3_ := As_ (zkb BK772.out hb);have n4_ := As_ (zkb BK773.out hb);have n5_ := As_ (bwT (zb2 HB.out GE772.out GE773.out) hb);clear HO778 HO782 BK772 BK773 HB;revert n0_ n1_ n2_ n3_ n4_ n5_;intro HO778 HO782 HO787 BK772 BK773 HB)|((with_reducible refine gate_dst (N := 9) rfl ?_);refine box_event ?hg (N := 9) ?hd (cs := #[.slice none 0 0,.int .i64 0]) (t := 29) ?hr ?_;(case hd => rfl);(case hg => rfl);(case hr => go_simp <;> rfl);intro gb789 hg w78 hbox hb;have n0_ := As_ (Kd.S_below (zS_ HO778.out) hb);have n1_ := As_ (Kd.S_below (zS_ HO782.out) hb);have n2_ := As_ (Kd.S_below (zS_ HO787.out) hb);have n3_ := As_ (zkb BK772.out hb);have n4_ := As_ (zkb BK773.out hb);have n5_ := As_ (bwT (zb2 HB.out GE772.out GE773.out) hb);have n6_ := As_ (hbox);have n7_ := As_ ((by rw [hg];exact (bwZ (zb2 HB.out GE772.out GE773.out)) : w.heap.size ≤ gb789));have n8_ := As_ ((by rw [hg];exact (bwZ (zb2 HB.out GE772.out GE773.out)) : w.heap.size ≤ gb789));have n9_ := As_ ((by rw [hg];exact Nat.ne_of_lt (zkl BK772.out) : gb772 ≠ gb789));have n10_ := As_ ((by rw [hg];exact Nat.ne_of_gt (zkl BK772.out) : gb789 ≠ gb772));have n11_ := As_ ((by rw [hg];exact Nat.ne_of_lt (zkl BK773.out) : gb773 ≠ gb789));have n12_ := As_ ((by rw [hg];exact Nat.ne_of_gt (zkl BK773.out) : gb789 ≠ gb773));clear HO778 HO782 HO787 BK772 BK773 HB;revert n0_ n1_ n2_ n3_ n4_ n5_ n6_ n7_ n8_ n9_ n10_ n11_ n12_;intro HO778 HO782 HO787 BK772 BK773 HB BK789 GW789 GE789 NB772_789 NB789_772 NB773_789 NB789_773;clear hb hbox hg;obtain ⟨Ao79,co79,eo79⟩ := Kd.S_slice HO787.out;subst eo79;have hnb80 := NB789_772.out;have hnc80 := NB772_789.out;have hnb81 := NB789_773.out;have hnc81 := NB773_789.out;obtain ⟨hcz82_0,hcz82_1,hfz82_0,hfz82_1⟩ := bk2 BK789.out;obtain ⟨hcz83_0,hcz83_1,hfz83_0,hfz83_1⟩ := bk2 BK773.out)|((with_reducible refine gate_callee (f := 17) rfl ?_);refine goesL_ (some 31) rfl rfl Try.func17 (by kernel_rfl) rfl #[.agg #[.slice A1_0 l1_0.length c1_0,.int .i64 a1_1]] rfl zM_ ?_;(with_reducible refine (laws_toGraph.calls k _ _ l1_0 a1_1 t790 t793 _ ?side1 ?side2 A24.out).mono ?_);(case side1 => exact Kd.C_below HR1_0.out (zb3 HB.out GE772.out GE773.out GE789.out));(case side2 => exact HC1_0.out);rintro e w84 ⟨v791,rfl,ho0,hb⟩;refine ⟨_,rfl,?_⟩;have n0_ := As_ (Kd.S_elder' (by (with_reducible repeat (first|apply Kd.S_alloc|apply Kd.S_drewN|apply Kd.S_drew));exact (Kd.S_mono (Kd.S_far (p := ⟨gb789,1,none⟩) (Kd.S_far (p := ⟨gb789,0,none⟩) (Kd.S_types HO778.out BK789.out (by decide)) (fun _ hk => hk.2) (.slice Ao79 t785.length co79)) (fun _ hk => hk.2) (.int .i64 t788)) (fun _ h_ => h_.1))) (Kd.S_base ho0) hb);have n1_ := As_ (Kd.S_elder' (by (with_reducible repeat (first|apply Kd.S_alloc|apply Kd.S_drewN|apply Kd.S_drew));exact (Kd.S_mono (Kd.S_far (p := ⟨gb789,1,none⟩) (Kd.S_far (p := ⟨gb789,0,none⟩) (Kd.S_types HO782.out BK789.out (by decide)) (fun _ hk => hk.2) (.slice Ao79 t785.length co79)) (fun _ hk => hk.2) (.int .i64 t788)) (fun _ h_ => h_.1))) (Kd.S_base ho0) hb);have n2_ := As_ (Kd.S_elder' (by (with_reducible repeat (first|apply Kd.S_alloc|apply Kd.S_drewN|apply Kd.S_drew));exact (Kd.S_mono (Kd.S_far (p := ⟨gb789,1,none⟩) (Kd.S_far (p := ⟨gb789,0,none⟩) (Kd.S_types HO787.out BK789.out (by decide)) (fun _ hk => hk.2) (.slice Ao79 t785.length co79)) (fun _ hk => hk.2) (.int .i64 t788)) (fun _ h_ => h_.1))) (Kd.S_base ho0) hb);have n3_ := As_ (Kd.S_lower (Kd.S_new' (Kd.S_new' (Kd.S_new' ho0 (Kd.S_lt (by (with_reducible repeat (first|apply Kd.S_alloc|apply Kd.S_drewN|apply Kd.S_drew));exact (Kd.S_mono (Kd.S_far (p := ⟨gb789,1,none⟩) (Kd.S_far (p := ⟨gb789,0,none⟩) (Kd.S_types HO778.out BK789.out (by decide)) (fun _ hk => hk.2) (.slice Ao79 t785.length co79)) (fun _ hk => hk.2) (.int .i64 t788)) (fun _ h_ => h_.1))))) (Kd.S_lt (by (with_reducible repeat (first|apply Kd.S_alloc|apply Kd.S_drewN|apply Kd.S_drew));exact (Kd.S_mono (Kd.S_far (p := ⟨gb789,1,none⟩) (Kd.S_far (p := ⟨gb789,0,none⟩) (Kd.S_types HO782.out BK789.out (by decide)) (fun _ hk => hk.2) (.slice Ao79 t785.length co79)) (fun _ hk => hk.2) (.int .i64 t788)) (fun _ h_ => h_.1))))) (Kd.S_lt (by (with_reducible repeat (first|apply Kd.S_alloc|apply Kd.S_drewN|apply Kd.S_drew));exact (Kd.S_mono (Kd.S_far (p := ⟨gb789,1,none⟩) (Kd.S_far (p := ⟨gb789,0,none⟩) (Kd.S_types HO787.out BK789.out (by decide)) (fun _ hk => hk.2) (.slice Ao79 t785.length co79)) (fun _ hk => hk.2) (.int .i64 t788)) (fun _ h_ => h_.1))))) (bwZ (zb3 HB.out GE772.out GE773.out GE789.out)));have n4_ := As_ (blk_below (g := gb772) (o := .cells #[.slice A0_0 l0_0.length c0_0,.int .i64 a0_1] 24 (0,0)) (by (with_reducible repeat first|apply bkN|apply bkD|apply bkA);refine blk_far ?_ NB772_789.out _;(with_reducible repeat first|apply bkN|apply bkD|apply bkA);refine blk_far ?_ NB772_789.out _;(with_reducible repeat first|apply bkN|apply bkD|apply bkA);exact BK772.out) hb);have n5_ := As_ (blk_below (g := gb773) (o := .cells #[.slice A1_0 l1_0.length c1_0,.int .i64 a1_1] 24 (0,0)) (by (with_reducible repeat first|apply bkN|apply bkD|apply bkA);refine blk_far ?_ NB773_789.out _;(with_reducible repeat first|apply bkN|apply bkD|apply bkA);refine blk_far ?_ NB773_789.out _;(with_reducible repeat first|apply bkN|apply bkD|apply bkA);exact BK773.out) hb);have n6_ := As_ (blk_below (g := gb789) (o := .cells #[.slice Ao79 t785.length co79,.int .i64 t788] 29 (0,0)) (by (with_reducible repeat first|apply bkN|apply bkD|apply bkA);refine blk_put (cs := #[.slice Ao79 t785.length co79,.int .i64 0]) ?_ 1 _ rfl;(with_reducible repeat first|apply bkN|apply bkD|apply bkA);refine blk_put (cs := #[.slice none 0 0,.int .i64 0]) ?_ 0 _ rfl;(with_reducible repeat first|apply bkN|apply bkD|apply bkA);exact BK789.out) hb);have n7_ := As_ (bwT (zb3 HB.out GE772.out GE773.out GE789.out) hb);clear HO778 HO782 HO787 BK772 BK773 BK789 HB;revert n0_ n1_ n2_ n3_ n4_ n5_ n6_ n7_;intro HO778 HO782 HO787 HO792 BK772 BK773 BK789 HB)|((with_reducible refine gate_dst (N := 10) rfl ?_);refine box_event ?hg (N := 10) ?hd (cs := #[.slice none 0 0,.int .i64 0]) (t := 29) ?hr ?_;(case hd => rfl);(case hg => rfl);(case hr => go_simp <;> rfl);intro gb794 hg w85 hbox hb;have n0_ := As_ (Kd.S_below (zS_ HO778.out) hb);have n1_ := As_ (Kd.S_below (zS_ HO782.out) hb);have n2_ := As_ (Kd.S_below (zS_ HO787.out) hb);have n3_ := As_ (Kd.S_below (zS_ HO792.out) hb);have n4_ := As_ (zkb BK772.out hb);have n5_ := As_ (zkb BK773.out hb);have n6_ := As_ (zkb BK789.out hb);have n7_ := As_ (bwT (zb3 HB.out GE772.out GE773.out GE789.out) hb);have n8_ := As_ (hbox);have n9_ := As_ ((by rw [hg];exact (bwZ (zb3 HB.out GE772.out GE773.out GE789.out)) : w.heap.size ≤ gb794));have n10_ := As_ ((by rw [hg];exact (bwZ (zb3 HB.out GE772.out GE773.out GE789.out)) : w.heap.size ≤ gb794));have n11_ := As_ ((by rw [hg];exact Nat.ne_of_lt (zkl BK772.out) : gb772 ≠ gb794));have n12_ := As_ ((by rw [hg];exact Nat.ne_of_gt (zkl BK772.out) : gb794 ≠ gb772));have n13_ := As_ ((by rw [hg];exact Nat.ne_of_lt (zkl BK773.out) : gb773 ≠ gb794));have n14_ := As_ ((by rw [hg];exact Nat.ne_of_gt (zkl BK773.out) : gb794 ≠ gb773));have n15_ := As_ ((by rw [hg];exact Nat.ne_of_lt (zkl BK789.out) : gb789 ≠ gb794));have n16_ := As_ ((by rw [hg];exact Nat.ne_of_gt (zkl BK789.out) : gb794 ≠ gb789));clear HO778 HO782 HO787 HO792 BK772 BK773 BK789 HB;revert n0_ n1_ n2_ n3_ n4_ n5_ n6_ n7_ n8_ n9_ n10_ n11_ n12_ n13_ n14_ n15_ n16_;intro HO778 HO782 HO787 HO792 BK772 BK773 BK789 HB BK794 GW794 GE794 NB772_794 NB794_772 NB773_794 NB794_773 NB789_794 NB794_789;clear hb hbox hg;obtain ⟨Ao86,co86,eo86⟩ := Kd.S_slice HO792.out;subst eo86;have hnb87 := NB794_772.out;have hnc87 := NB772_794.out;have hnb88 := NB794_773.out;have hnc88 := NB773_794.out;have hnb89 := NB794_789.out;have hnc89 := NB789_794.out;obtain ⟨hcz90_0,hcz90_1,hfz90_0,hfz90_1⟩ := bk2 BK794.out;obtain ⟨hcz91_0,hcz91_1,hfz91_0,hfz91_1⟩ := bk2 BK789.out)|((with_reducible refine gate_callee (f := 32) rfl ?_);refine goesL_ (some 35) rfl rfl Try.func32 (by kernel_rfl) rfl #[.agg #[.slice Ao79 t785.length co79,.int .i64 t788],.agg #[.slice Ao86 t790.length co86,.int .i64 t793],.int .i64 a2] rfl zM_ ?_;(with_reducible refine (impl_EqualTo.calls k _ _ t785 t788 _ _ t790 t793 a2 t795 _ ?side1 ?side2 ?side3 ?side4 A25.out).mono ?_);(case side1 => refine (Kd.S_reads' (e := 45) (base := w.heap.size) (ok := fun k_ => (((True ∧ some k_ ≠ (.slice Ao73 t776.length co73 : Value).ownBlock) ∧ some k_ ≠ (.slice Ao74 t780.length co74 : Value).ownBlock) ∧ some k_ ≠ (.slice Ao86 t790.length co86 : Value).ownBlock)) (n := t785.length) (c := co79) ?_).2.2;exact (by (with_reducible repeat (first|apply Kd.S_alloc|apply Kd.S_drewN|apply Kd.S_drew));exact (Kd.S_mono (Kd.S_far (p := ⟨gb794,1,none⟩) (Kd.S_far (p := ⟨gb794,0,none⟩) (Kd.S_types HO787.out BK794.out (by decide)) (fun _ hk => hk.2) (.slice Ao86 t790.length co86)) (fun _ hk => hk.2) (.int .i64 t793)) (fun _ h_ => h_.1))));(case side2 => exact (Kd.S_reads' HO787.out).2.1);(case side3 => refine (Kd.S_reads' (e := 45) (base := w.heap.size) (ok := fun k_ => (((True ∧ some k_ ≠ (.slice Ao73 t776.length co73 : Value).ownBlock) ∧ some k_ ≠ (.slice Ao74 t780.length co74 : Value).ownBlock) ∧ some k_ ≠ (.slice Ao79 t785.length co79 : Value).ownBlock)) (n := t790.length) (c := co86) ?_).2.2;exact (by (with_reducible repeat (first|apply Kd.S_alloc|apply Kd.S_drewN|apply Kd.S_drew));exact (Kd.S_mono (Kd.S_far (p := ⟨gb794,1,none⟩) (Kd.S_far (p := ⟨gb794,0,none⟩) (Kd.S_types HO792.out BK794.out (by decide)) (fun _ hk => hk.2) (.slice Ao86 t790.length co86)) (fun _ hk => hk.2) (.int .i64 t793)) (fun _ h_ => h_.1))));(case side4 => exact (Kd.S_reads' HO792.out).2.1);rintro e w92 ⟨rfl,hb⟩;refine ⟨_,rfl,?_⟩;have n0_ := As_ (Kd.S_below (by (with_reducible repeat (first|apply Kd.S_alloc|apply Kd.S_drewN|apply Kd.S_drew));exact (Kd.S_mono (Kd.S_far (p := ⟨gb794,1,none⟩) (Kd.S_far (p := ⟨gb794,0,none⟩) (Kd.S_types HO778.out BK794.out (by decide)) (fun _ hk => hk.2) (.slice Ao86 t790.length co86)) (fun _ hk => hk.2) (.int .i64 t793)) (fun _ h_ => h_.1))) hb);have n1_ := As_ (Kd.S_below (by (with_reducible repeat (first|apply Kd.S_alloc|apply Kd.S_drewN|apply Kd.S_drew));exact (Kd.S_mono (Kd.S_far (p := ⟨gb794,1,none⟩) (Kd.S_far (p := ⟨gb794,0,none⟩) (Kd.S_types HO782.out BK794.out (by decide)) (fun _ hk => hk.2) (.slice Ao86 t790.length co86)) (fun _ hk => hk.2) (.int .i64 t793)) (fun _ h_ => h_.1))) hb);have n2_ := As_ (Kd.S_below (by (with_reducible repeat (first|apply Kd.S_alloc|apply Kd.S_drewN|apply Kd.S_drew));exact (Kd.S_mono (Kd.S_far (p := ⟨gb794,1,none⟩) (Kd.S_far (p := ⟨gb794,0,none⟩) (Kd.S_types HO787.out BK794.out (by decide)) (fun _ hk => hk.2) (.slice Ao86 t790.length co86)) (fun _ hk => hk.2) (.int .i64 t793)) (fun _ h_ => h_.1))) hb);have n3_ := As_ (Kd.S_below (by (with_reducible repeat (first|apply Kd.S_alloc|apply Kd.S_drewN|apply Kd.S_drew));exact (Kd.S_mono (Kd.S_far (p := ⟨gb794,1,none⟩) (Kd.S_far (p := ⟨gb794,0,none⟩) (Kd.S_types HO792.out BK794.out (by decide)) (fun _ hk => hk.2) (.slice Ao86 t790.length co86)) (fun _ hk => hk.2) (.int .i64 t793)) (fun _ h_ => h_.1))) hb);have n4_ := As_ (blk_below (g := gb772) (o := .cells #[.slice A0_0 l0_0.length c0_0,.int .i64 a0_1] 24 (0,0)) (by (with_reducible repeat first|apply bkN|apply bkD|apply bkA);refine blk_far ?_ NB772_794.out _;(with_reducible repeat first|apply bkN|apply bkD|apply bkA);refine blk_far ?_ NB772_794.out _;(with_reducible repeat first|apply bkN|apply bkD|apply bkA);exact BK772.out) hb);have n5_ := As_ (blk_below (g := gb773) (o := .cells #[.slice A1_0 l1_0.length c1_0,.int .i64 a1_1] 24 (0,0)) (by (with_reducible repeat first|apply bkN|apply bkD|apply bkA);refine blk_far ?_ NB773_794.out _;(with_reducible repeat first|apply bkN|apply bkD|apply bkA);refine blk_far ?_ NB773_794.out _;(with_reducible repeat first|apply bkN|apply bkD|apply bkA);exact BK773.out) hb);have n6_ := As_ (blk_below (g := gb789) (o := .cells #[.slice Ao79 t785.length co79,.int .i64 t788] 29 (0,0)) (by (with_reducible repeat first|apply bkN|apply bkD|apply bkA);refine blk_far ?_ NB789_794.out _;(with_reducible repeat first|apply bkN|apply bkD|apply bkA);refine blk_far ?_ NB789_794.out _;(with_reducible repeat first|apply bkN|apply bkD|apply bkA);exact BK789.out) hb);have n7_ := As_ (blk_below (g := gb794) (o := .cells #[.slice Ao86 t790.length co86,.int .i64 t793] 29 (0,0)) (by (with_reducible repeat first|apply bkN|apply bkD|apply bkA);refine blk_put (cs := #[.slice Ao86 t790.length co86,.int .i64 0]) ?_ 1 _ rfl;(with_reducible repeat first|apply bkN|apply bkD|apply bkA);refine blk_put (cs := #[.slice none 0 0,.int .i64 0]) ?_ 0 _ rfl;(with_reducible repeat first|apply bkN|apply bkD|apply bkA);exact BK794.out) hb);have n8_ := As_ (bwT (zb4 HB.out GE772.out GE773.out GE789.out GE794.out) hb);clear HO778 HO782 HO787 HO792 BK772 BK773 BK789 BK794 HB;revert n0_ n1_ n2_ n3_ n4_ n5_ n6_ n7_ n8_;intro HO778 HO782 HO787 HO792 BK772 BK773 BK789 BK794 HB))
 have n0_ := As_ (Kd.S_drew HO778.out)
 have n1_ := As_ (Kd.S_drew HO782.out)
 have n2_ := As_ (Kd.S_drew HO787.out)
 have n3_ := As_ (Kd.S_drew HO792.out)
 have n4_ := As_ (bkD BK772.out)
 have n5_ := As_ (bkD BK773.out)
 have n6_ := As_ (bkD BK789.out)
 have n7_ := As_ (bkD BK794.out)
 have n8_ := As_ (bwD HB.out)
 clear HO778 HO782 HO787 HO792 BK772 BK773 BK789 BK794 HB
 revert n0_ n1_ n2_ n3_ n4_ n5_ n6_ n7_ n8_;intro HO778 HO782 HO787 HO792 BK772 BK773 BK789 BK794 HB
 refine start_ (n := 5) (S := fun w' => w'.cell? ⟨gb789,0,none⟩ = some (.slice Ao79 t785.length co79) ∧ w'.cell? ⟨gb789,1,none⟩ = some (.int .i64 t788) ∧ w'.cell? ⟨gb772,0,none⟩ = some (.slice A0_0 l0_0.length c0_0) ∧ w'.cell? ⟨gb772,1,none⟩ = some (.int .i64 a0_1)) (ds := []) (bl_ 0 5) (by kernel_rfl) rfl rfl ⟨(bkC BK789.out 0).trans rfl,(bkC BK789.out 1).trans rfl,(bkC BK772.out 0).trans rfl,(bkC BK772.out 1).trans rfl⟩ (fun hHeld => ?_)
 generalize w92.drew = w93 at HO778 HO782 HO787 HO792 BK772 BK773 BK789 BK794 HB hHeld ⊢
 refine take_ (i := 0) (N := some 39) (v := ?_) (a' := ?_) (bl_ 1 5) rfl rfl (by kernel_rfl) (fun _ _ _ h => h) (Or.inl ⟨by rfl,?_⟩) hHeld ?_ ?_;rotate_left;(rintro w' ⟨s0,s1,s2,s3⟩;go_simp;with_reducible rfl);rotate_left;(simp only [Act.put,sq_];rfl)
 refine take_ (i := 1) (N := some 40) (v := ?_) (a' := ?_) (bl_ 3 5) rfl rfl (by kernel_rfl) (fun _ _ _ h => h) (Or.inl ⟨by rfl,?_⟩) hHeld ?_ ?_;rotate_left;(rintro w' ⟨s0,s1,s2,s3⟩;go_simp;with_reducible rfl);rotate_left;(simp only [Act.put,sq_];rfl)
 refine one_ (i := 2) (N := some 41) (bl_ 7 5) rfl rfl (by kernel_rfl) (by decide) (fun K hK => ?_)
 refine goes_ Try.func17 (by kernel_rfl) rfl #[.agg #[.slice A0_0 l0_0.length c0_0,.int .i64 a0_1]] (by rfl) rfl rfl zM_ ?_
 with_reducible refine (laws_toGraph.calls k _ _ l0_0 a0_1 t796 t799 _ ?side1 ?side2 A57.out).mono ?_
 (case side1 => exact zC_ (Kd.C_below HR0_0.out HB.out))
 (case side2 => exact HC0_0.out)
 rintro e w94 ⟨v797,rfl,ho0,hb⟩
 refine ⟨_,rfl,?_⟩
 have n0_ := As_ (Kd.S_elder' (zS_ HO778.out) (Kd.S_base ho0) hb)
 have n1_ := As_ (Kd.S_elder' (zS_ HO782.out) (Kd.S_base ho0) hb)
 have n2_ := As_ (Kd.S_elder' (zS_ HO787.out) (Kd.S_base ho0) hb)
 have n3_ := As_ (Kd.S_elder' (zS_ HO792.out) (Kd.S_base ho0) hb)
 have n4_ := As_ (Kd.S_lower (Kd.S_new' (Kd.S_new' (Kd.S_new' (Kd.S_new' ho0 (Kd.S_lt (zS_ HO778.out))) (Kd.S_lt (zS_ HO782.out))) (Kd.S_lt (zS_ HO787.out))) (Kd.S_lt (zS_ HO792.out))) (bwZ (zb4 HB.out GE772.out GE773.out GE789.out GE794.out)))
 have n5_ := As_ (zkb BK772.out hb)
 have n6_ := As_ (zkb BK773.out hb)
 have n7_ := As_ (zkb BK789.out hb)
 have n8_ := As_ (zkb BK794.out hb)
 have n9_ := As_ (bwT (zb4 HB.out GE772.out GE773.out GE789.out GE794.out) hb)
 clear HO778 HO782 HO787 HO792 BK772 BK773 BK789 BK794 HB
 revert n0_ n1_ n2_ n3_ n4_ n5_ n6_ n7_ n8_ n9_;intro HO778 HO782 HO787 HO792 HO798 BK772 BK773 BK789 BK794 HB
 obtain ⟨Ao95,co95,eo95⟩ := Kd.S_slice HO798.out
 (first|subst eo95|(injection eo95 with f1_ f2_ f3_;have f4_ := f1_.symm;have f5_ := f3_.symm;clear f1_ f2_ f3_;subst f4_;subst f5_))
 refine hK.out _ _ ⟨(bkC BK789.out 0).trans rfl,(bkC BK789.out 1).trans rfl,(bkC BK772.out 0).trans rfl,(bkC BK772.out 1).trans rfl⟩ (fun hHeld => ?_)
 clear hK K
 refine norm_ (a' := ?_) ?_ ?_
 rotate_left
 ·show Act.put _ (some 41) _ = _
  simp only [Act.put,sq_]
  rfl
 refine one_ (i := 3) (N := some 42) (bl_ 15 5) rfl rfl (by kernel_rfl) (by decide) (fun K hK => ?_)
 refine goes_ Try.func19 (by kernel_rfl) rfl #[.agg #[.slice Ao79 t785.length co79,.int .i64 t788],.agg #[.slice Ao95 t796.length co95,.int .i64 t799]] (by rfl) rfl rfl zM_ ?_
 with_reducible refine (laws_eqGraph.calls k _ _ t785 t788 _ _ t796 t799 true _ ?side1 ?side2 ?side3 ?side4 A58.out).mono ?_
 (case side1 => exact zC_ (Kd.S_reads' HO787.out).2.2)
 (case side2 => exact (Kd.S_reads' HO787.out).2.1)
 (case side3 => exact zC_ (Kd.S_reads' HO798.out).2.2)
 (case side4 => exact (Kd.S_reads' HO798.out).2.1)
 rintro e w96 ⟨rfl,hb⟩
 refine ⟨_,rfl,?_⟩
 have n0_ := As_ (Kd.S_below (zS_ HO778.out) hb)
 have n1_ := As_ (Kd.S_below (zS_ HO782.out) hb)
 have n2_ := As_ (Kd.S_below (zS_ HO787.out) hb)
 have n3_ := As_ (Kd.S_below (zS_ HO792.out) hb)
 have n4_ := As_ (Kd.S_below (zS_ HO798.out) hb)
 have n5_ := As_ (zkb BK772.out hb)
 have n6_ := As_ (zkb BK773.out hb)
 have n7_ := As_ (zkb BK789.out hb)
 have n8_ := As_ (zkb BK794.out hb)
 have n9_ := As_ (bwT (zb4 HB.out GE772.out GE773.out GE789.out GE794.out) hb)
 clear HO778 HO782 HO787 HO792 HO798 BK772 BK773 BK789 BK794 HB
 revert n0_ n1_ n2_ n3_ n4_ n5_ n6_ n7_ n8_ n9_;intro HO778 HO782 HO787 HO792 HO798 BK772 BK773 BK789 BK794 HB
 refine hK.out _ _ ⟨(bkC BK789.out 0).trans rfl,(bkC BK789.out 1).trans rfl,(bkC BK772.out 0).trans rfl,(bkC BK772.out 1).trans rfl⟩ (fun hHeld => ?_)
 clear hK K
 refine norm_ (a' := ?_) ?_ ?_
 rotate_left
 ·show Act.put _ (some 42) _ = _
  simp only [Act.put,sq_]
  rfl
 refine pure_ (i := 4) (N := some 43) (v := ?_) (a' := ?_) (bl_ 31 5) rfl rfl (by kernel_rfl) (fun _ _ _ h => h) (Or.inl ⟨by rfl,?_⟩) ?_ ?_;rotate_left;(intro w';go_simp;with_reducible rfl);rotate_left;(simp only [Act.put,sq_];rfl)
 refine done_ (by kernel_rfl) ?_
 try go_wp2
 have n0_ := As_ (Kd.S_drew HO778.out)
 have n1_ := As_ (Kd.S_drew HO782.out)
 have n2_ := As_ (Kd.S_drew HO787.out)
 have n3_ := As_ (Kd.S_drew HO792.out)
 have n4_ := As_ (Kd.S_drew HO798.out)
 have n5_ := As_ (bkD BK772.out)
 have n6_ := As_ (bkD BK773.out)
 have n7_ := As_ (bkD BK789.out)
 have n8_ := As_ (bkD BK794.out)
 have n9_ := As_ (bwD HB.out)
 clear HO778 HO782 HO787 HO792 HO798 BK772 BK773 BK789 BK794 HB
 revert n0_ n1_ n2_ n3_ n4_ n5_ n6_ n7_ n8_ n9_;intro HO778 HO782 HO787 HO792 HO798 BK772 BK773 BK789 BK794 HB
 refine start_ (n := 5) (S := fun w' => w'.cell? ⟨gb794,0,none⟩ = some (.slice Ao86 t790.length co86) ∧ w'.cell? ⟨gb794,1,none⟩ = some (.int .i64 t793) ∧ w'.cell? ⟨gb773,0,none⟩ = some (.slice A1_0 l1_0.length c1_0) ∧ w'.cell? ⟨gb773,1,none⟩ = some (.int .i64 a1_1)) (ds := []) (bl_ 0 5) (by kernel_rfl) rfl rfl ⟨(bkC BK794.out 0).trans rfl,(bkC BK794.out 1).trans rfl,(bkC BK773.out 0).trans rfl,(bkC BK773.out 1).trans rfl⟩ (fun hHeld => ?_)
 generalize w96.drew = w97 at HO778 HO782 HO787 HO792 HO798 BK772 BK773 BK789 BK794 HB hHeld ⊢
 refine take_ (i := 0) (N := some 44) (v := ?_) (a' := ?_) (bl_ 1 5) rfl rfl (by kernel_rfl) (fun _ _ _ h => h) (Or.inl ⟨by rfl,?_⟩) hHeld ?_ ?_;rotate_left;(rintro w' ⟨s0,s1,s2,s3⟩;go_simp;with_reducible rfl);rotate_left;(simp only [Act.put,sq_];rfl)
 refine take_ (i := 1) (N := some 45) (v := ?_) (a' := ?_) (bl_ 3 5) rfl rfl (by kernel_rfl) (fun _ _ _ h => h) (Or.inl ⟨by rfl,?_⟩) hHeld ?_ ?_;rotate_left;(rintro w' ⟨s0,s1,s2,s3⟩;go_simp;with_reducible rfl);rotate_left;(simp only [Act.put,sq_];rfl)
 refine one_ (i := 2) (N := some 46) (bl_ 7 5) rfl rfl (by kernel_rfl) (by decide) (fun K hK => ?_)
 refine goes_ Try.func17 (by kernel_rfl) rfl #[.agg #[.slice A1_0 l1_0.length c1_0,.int .i64 a1_1]] (by rfl) rfl rfl zM_ ?_
 with_reducible refine (laws_toGraph.calls k _ _ l1_0 a1_1 t801 t804 _ ?side1 ?side2 A60.out).mono ?_
 (case side1 => exact zC_ (Kd.C_below HR1_0.out HB.out))
 (case side2 => exact HC1_0.out)
 rintro e w98 ⟨v802,rfl,ho0,hb⟩
 refine ⟨_,rfl,?_⟩
 have n0_ := As_ (Kd.S_elder' (zS_ HO778.out) (Kd.S_base ho0) hb)
 have n1_ := As_ (Kd.S_elder' (zS_ HO782.out) (Kd.S_base ho0) hb)
 have n2_ := As_ (Kd.S_elder' (zS_ HO787.out) (Kd.S_base ho0) hb)
 have n3_ := As_ (Kd.S_elder' (zS_ HO792.out) (Kd.S_base ho0) hb)
 have n4_ := As_ (Kd.S_elder' (zS_ HO798.out) (Kd.S_base ho0) hb)
 have n5_ := As_ (Kd.S_lower (Kd.S_new' (Kd.S_new' (Kd.S_new' (Kd.S_new' (Kd.S_new' ho0 (Kd.S_lt (zS_ HO778.out))) (Kd.S_lt (zS_ HO782.out))) (Kd.S_lt (zS_ HO787.out))) (Kd.S_lt (zS_ HO792.out))) (Kd.S_lt (zS_ HO798.out))) (bwZ (zb4 HB.out GE772.out GE773.out GE789.out GE794.out)))
 have n6_ := As_ (zkb BK772.out hb)
 have n7_ := As_ (zkb BK773.out hb)
 have n8_ := As_ (zkb BK789.out hb)
 have n9_ := As_ (zkb BK794.out hb)
 have n10_ := As_ (bwT (zb4 HB.out GE772.out GE773.out GE789.out GE794.out) hb)
 clear HO778 HO782 HO787 HO792 HO798 BK772 BK773 BK789 BK794 HB
 revert n0_ n1_ n2_ n3_ n4_ n5_ n6_ n7_ n8_ n9_ n10_;intro HO778 HO782 HO787 HO792 HO798 HO803 BK772 BK773 BK789 BK794 HB
 obtain ⟨Ao99,co99,eo99⟩ := Kd.S_slice HO803.out
 (first|subst eo99|(injection eo99 with f1_ f2_ f3_;have f4_ := f1_.symm;have f5_ := f3_.symm;clear f1_ f2_ f3_;subst f4_;subst f5_))
 refine hK.out _ _ ⟨(bkC BK794.out 0).trans rfl,(bkC BK794.out 1).trans rfl,(bkC BK773.out 0).trans rfl,(bkC BK773.out 1).trans rfl⟩ (fun hHeld => ?_)
 clear hK K
 refine norm_ (a' := ?_) ?_ ?_
 rotate_left
 ·show Act.put _ (some 46) _ = _
  simp only [Act.put,sq_]
  rfl
 refine one_ (i := 3) (N := some 47) (bl_ 15 5) rfl rfl (by kernel_rfl) (by decide) (fun K hK => ?_)
 refine goes_ Try.func19 (by kernel_rfl) rfl #[.agg #[.slice Ao86 t790.length co86,.int .i64 t793],.agg #[.slice Ao99 t801.length co99,.int .i64 t804]] (by rfl) rfl rfl zM_ ?_
 with_reducible refine (laws_eqGraph.calls k _ _ t790 t793 _ _ t801 t804 true _ ?side1 ?side2 ?side3 ?side4 A61.out).mono ?_
 (case side1 => exact zC_ (Kd.S_reads' HO792.out).2.2)
 (case side2 => exact (Kd.S_reads' HO792.out).2.1)
 (case side3 => exact zC_ (Kd.S_reads' HO803.out).2.2)
 (case side4 => exact (Kd.S_reads' HO803.out).2.1)
 rintro e w100 ⟨rfl,hb⟩
 refine ⟨_,rfl,?_⟩
 have n0_ := As_ (Kd.S_below (zS_ HO778.out) hb)
 have n1_ := As_ (Kd.S_below (zS_ HO782.out) hb)
 have n2_ := As_ (Kd.S_below (zS_ HO787.out) hb)
 have n3_ := As_ (Kd.S_below (zS_ HO792.out) hb)
 have n4_ := As_ (Kd.S_below (zS_ HO798.out) hb)
 have n5_ := As_ (Kd.S_below (zS_ HO803.out) hb)
 have n6_ := As_ (zkb BK772.out hb)
 have n7_ := As_ (zkb BK773.out hb)
 have n8_ := As_ (zkb BK789.out hb)
 have n9_ := As_ (zkb BK794.out hb)
 have n10_ := As_ (bwT (zb4 HB.out GE772.out GE773.out GE789.out GE794.out) hb)
 clear HO778 HO782 HO787 HO792 HO798 HO803 BK772 BK773 BK789 BK794 HB
 revert n0_ n1_ n2_ n3_ n4_ n5_ n6_ n7_ n8_ n9_ n10_;intro HO778 HO782 HO787 HO792 HO798 HO803 BK772 BK773 BK789 BK794 HB
 refine hK.out _ _ ⟨(bkC BK794.out 0).trans rfl,(bkC BK794.out 1).trans rfl,(bkC BK773.out 0).trans rfl,(bkC BK773.out 1).trans rfl⟩ (fun hHeld => ?_)
 clear hK K
 refine norm_ (a' := ?_) ?_ ?_
 rotate_left
 ·show Act.put _ (some 47) _ = _
  simp only [Act.put,sq_]
  rfl
 refine pure_ (i := 4) (N := some 48) (v := ?_) (a' := ?_) (bl_ 31 5) rfl rfl (by kernel_rfl) (fun _ _ _ h => h) (Or.inl ⟨by rfl,?_⟩) ?_ ?_;rotate_left;(intro w';go_simp;with_reducible rfl);rotate_left;(simp only [Act.put,sq_];rfl)
 refine done_ (by kernel_rfl) ?_
 try go_wp2
 go_ret
 exact ⟨zE_,zb4 HB.out GE772.out GE773.out GE789.out GE794.out⟩
/-- THE ONE PURE STATEMENT of laws_FnExactEqualTo. -/
def laws_FnExactEqualTo.Pure : Prop := ∀ (l0_0 : List (S74)) (a0_1 : Int) (l1_0 : List (S74)) (a1_1 : Int) (a2 : Int),(l0_0.length ≤ maxLen ∧ (∀ x_ ∈ l0_0,(Lit.int .i64 x_.f0).wf = true ∧ (Lit.int .i64 x_.f1).wf = true ∧ x_.f2.length ≤ maxLen ∧ (∀ xx_ ∈ x_.f2,(Lit.int .i64 xx_).wf = true))) → ((Lit.int .i64 a0_1).wf = true) → (l1_0.length ≤ maxLen ∧ (∀ x_ ∈ l1_0,(Lit.int .i64 x_.f0).wf = true ∧ (Lit.int .i64 x_.f1).wf = true ∧ x_.f2.length ≤ maxLen ∧ (∀ xx_ ∈ x_.f2,(Lit.int .i64 xx_).wf = true))) → ((Lit.int .i64 a1_1).wf = true) → ((Lit.int .i64 a2).wf = true) → ∃ k,laws_FnExactEqualTo.f k l0_0 a0_1 l1_0 a1_1 a2 = some true
theorem laws_FnExactEqualTo.walk (P : laws_FnExactEqualTo.Pure) (A0_0 : Option Addr) (c0_0 : Nat) (l0_0 : List (S74)) (a0_1 : Int) (A1_0 : Option Addr) (c1_0 : Nat) (l1_0 : List (S74)) (a1_1 : Int) (a2 : Int) (w : World) (hr0_0 : Kd.C k74 w A0_0 l0_0.length l0_0) (hc0_0 : l0_0.length ≤ c0_0) (hr1_0 : Kd.C k74 w A1_0 l1_0.length l1_0) (hc1_0 : l1_0.length ≤ c1_0) (hg0 : l0_0.length ≤ maxLen ∧ (∀ x_ ∈ l0_0,(Lit.int .i64 x_.f0).wf = true ∧ (Lit.int .i64 x_.f1).wf = true ∧ x_.f2.length ≤ maxLen ∧ (∀ xx_ ∈ x_.f2,(Lit.int .i64 xx_).wf = true))) (hg1 : (Lit.int .i64 a0_1).wf = true) (hg2 : l1_0.length ≤ maxLen ∧ (∀ x_ ∈ l1_0,(Lit.int .i64 x_.f0).wf = true ∧ (Lit.int .i64 x_.f1).wf = true ∧ x_.f2.length ≤ maxLen ∧ (∀ xx_ ∈ x_.f2,(Lit.int .i64 xx_).wf = true))) (hg3 : (Lit.int .i64 a1_1).wf = true) (hg4 : (Lit.int .i64 a2).wf = true) :
  Calls Try.prog 8 #[.agg #[.slice A0_0 l0_0.length c0_0,.int .i64 a0_1],.agg #[.slice A1_0 l1_0.length c1_0,.int .i64 a1_1],.int .i64 a2] w fun e w' => e = .returned (.bool true) ∧ Below w.heap.size w w' := by
 obtain ⟨k,h⟩ := P l0_0 a0_1 l1_0 a1_1 a2 hg0 hg1 hg2 hg3 hg4
 refine (laws_FnExactEqualTo.calls k _ _ l0_0 a0_1 _ _ l1_0 a1_1 a2 true w hr0_0 hc0_0 hr1_0 hc1_0 h).mono ?_
 rintro e w' ⟨rfl,hd⟩
 exact ⟨rfl,hd⟩

end Go.Proofs.Ytfhakhbmbnbneaa.Q
