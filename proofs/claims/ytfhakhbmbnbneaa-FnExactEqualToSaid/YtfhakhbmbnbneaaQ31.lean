-- Written by wip/tools/qprint.py (a program of this claim's author) by means of the kit's printer.
import Derived.Test.YtfhakhbmbnbneaaQ0
import Derived.Test.YtfhakhbmbnbneaaQ48
import Derived.Test.YtfhakhbmbnbneaaQ70
import Derived.Test.YtfhakhbmbnbneaaQ71
namespace Go.Proofs.Ytfhakhbmbnbneaa.Q
open Go.RowKit Go.Proofs.YtfhakhbmbnbneaaW.PrintWords Go.Proofs.YtfhakhbmbnbneaaW.PrintLast Go.Proofs.YtfhakhbmbnbneaaW.PrintMore
attribute [local go_sem] max2_int min2_int max_two min_two max_three min_three max_four min_four   -- for this text's walks alone
set_option linter.unusedVariables false
set_option linter.unusedSimpArgs false

/-! ### spec_EqualTo: function 31 -/
def spec_EqualTo.f (k : Nat) (l0_0 : List (S45)) (a0_1 : Int) (l1_0 : List (S45)) (a1_1 : Int) (a2 : Int) : Option (Bool) := (spec_validGraph.f k l0_0 a0_1).bind fun t768 => (if t768 = true then ((spec_validGraph.f k l1_0 a1_1).bind fun t769 => (if t769 = true then ((spec_inRange.f a2 0 8).bind fun t770 => (if t770 = true then ((spec_equalTo.f k l0_0 a0_1 a0_1 l1_0 a1_1 a1_1 a2).bind fun t771 => (some t771)) else (some false))) else (some false))) else (some false))
set_option maxRecDepth 100000 in
theorem spec_EqualTo.mono : ∀ a0 a1 a2 a3 a4 k,LeO (spec_EqualTo.f k a0 a1 a2 a3 a4) (spec_EqualTo.f (k + 1) a0 a1 a2 a3 a4) := by
 intro a0 a1 a2 a3 a4 k
 unfold spec_EqualTo.f
 repeat' first
   | (with_reducible exact spec_equalTo.mono _ _ _ _ _ _ _ _)
   | (with_reducible exact spec_validGraph.mono _ _ _)
   | (with_reducible exact LeO.refl _)
   | (with_reducible exact LeO.none _)
   | (with_reducible refine LeO.ite ?_ ?_)
   | (with_reducible refine LeO.bind ?_ (fun _ => ?_))
   | exact spec_equalTo.mono _ _ _ _ _ _ _ _
   | exact spec_validGraph.mono _ _ _
   | exact LeO.none _
   | refine LeO.ite ?_ ?_
   | refine LeO.bind ?_ (fun _ => ?_)
set_option maxHeartbeats 8000000 in
set_option maxRecDepth 100000 in
theorem spec_EqualTo.calls (k : Nat) (A0_0 : Option Addr) (c0_0 : Nat) (l0_0 : List (S45)) (a0_1 : Int) (A1_0 : Option Addr) (c1_0 : Nat) (l1_0 : List (S45)) (a1_1 : Int) (a2 : Int) (r : Bool) (w : World) (hr0_0 : Kd.C k45 w A0_0 l0_0.length l0_0) (hc0_0 : l0_0.length ≤ c0_0) (hr1_0 : Kd.C k45 w A1_0 l1_0.length l1_0) (hc1_0 : l1_0.length ≤ c1_0) (h : spec_EqualTo.f k l0_0 a0_1 l1_0 a1_1 a2 = some r) :
  Calls Try.prog 31 #[.agg #[.slice A0_0 l0_0.length c0_0,.int .i64 a0_1],.agg #[.slice A1_0 l1_0.length c1_0,.int .i64 a1_1],.int .i64 a2] w fun e w' => e = .returned (.bool r) ∧ Below w.heap.size w w' := by
 have hu29 := Try.underlying29
 have HR0_0 := As_ hr0_0
 have HC0_0 := As_ hc0_0
 clear hr0_0 hc0_0
 have HR1_0 := As_ hr1_0
 have HC1_0 := As_ hc1_0
 clear hr1_0 hc1_0
 have HB := As_ (Below.refl w.heap.size w)
 have H : ((spec_validGraph.f k l0_0 a0_1).bind fun t768 => (if t768 = true then ((spec_validGraph.f k l1_0 a1_1).bind fun t769 => (if t769 = true then ((spec_inRange.f a2 0 8).bind fun t770 => (if t770 = true then ((spec_equalTo.f k l0_0 a0_1 a0_1 l1_0 a1_1 a1_1 a2).bind fun t771 => (some t771)) else (some false))) else (some false))) else (some false))) = some r := h
 clear h
 replace H := obS H
 obtain ⟨t768,A40,H⟩ := H
 replace H : (if t768 = true then ((spec_validGraph.f k l1_0 a1_1).bind fun t769 => (if t769 = true then ((spec_inRange.f a2 0 8).bind fun t770 => (if t770 = true then ((spec_equalTo.f k l0_0 a0_1 a0_1 l1_0 a1_1 a1_1 a2).bind fun t771 => (some t771)) else (some false))) else (some false))) else (some false)) = some r := H
 have A4 := As_ A40
 clear A40
 by_cases c5 : t768 = true
 rotate_left
 ·replace c5 := Bool.eq_false_iff.mpr c5
  subst c5
  have H1 : (some false) = some r := by rw [if_neg (show ¬ (false = true) by decide)] at H;exact H
  clear H
  have H := H1
  clear H1
  obtain rfl := Option.some.inj H
  go_enter Try.func31,Try.ntmps31
  go_wp2_with (first|((with_reducible refine gate_dst (N := 3) rfl ?_);refine box_event ?hg (N := 3) ?hd (cs := #[.slice A0_0 l0_0.length c0_0,.int .i64 a0_1]) (t := 29) ?hr ?_;(case hd => rfl);(case hg => rfl);(case hr => go_simp <;> rfl);intro gb766 hg w35 hbox hb;have n0_ := As_ (bwT (zb0 HB.out) hb);have n1_ := As_ (hbox);have n2_ := As_ ((by rw [hg];exact (bwZ (zb0 HB.out)) : w.heap.size ≤ gb766));have n3_ := As_ ((by rw [hg];exact (bwZ (zb0 HB.out)) : w.heap.size ≤ gb766));clear HB;revert n0_ n1_ n2_ n3_;intro HB BK766 GW766 GE766;clear hb hbox hg)|((with_reducible refine gate_dst (N := 4) rfl ?_);refine box_event ?hg (N := 4) ?hd (cs := #[.slice A1_0 l1_0.length c1_0,.int .i64 a1_1]) (t := 29) ?hr ?_;(case hd => rfl);(case hg => rfl);(case hr => go_simp <;> rfl);intro gb767 hg w36 hbox hb;have n0_ := As_ (zkb BK766.out hb);have n1_ := As_ (bwT (zb1 HB.out GE766.out) hb);have n2_ := As_ (hbox);have n3_ := As_ ((by rw [hg];exact (bwZ (zb1 HB.out GE766.out)) : w.heap.size ≤ gb767));have n4_ := As_ ((by rw [hg];exact (bwZ (zb1 HB.out GE766.out)) : w.heap.size ≤ gb767));have n5_ := As_ ((by rw [hg];exact Nat.ne_of_lt (zkl BK766.out) : gb766 ≠ gb767));have n6_ := As_ ((by rw [hg];exact Nat.ne_of_gt (zkl BK766.out) : gb767 ≠ gb766));clear BK766 HB;revert n0_ n1_ n2_ n3_ n4_ n5_ n6_;intro BK766 HB BK767 GW767 GE767 NB766_767 NB767_766;clear hb hbox hg;have hnb37 := NB766_767.out;have hnc37 := NB767_766.out;obtain ⟨hcz38_0,hcz38_1,hfz38_0,hfz38_1⟩ := bk2 BK766.out)|((with_reducible refine gate_callee (f := 48) rfl ?_);refine goesL_ (some 8) rfl rfl Try.func48 (by kernel_rfl) rfl #[.agg #[.slice A0_0 l0_0.length c0_0,.int .i64 a0_1]] rfl zM_ ?_;(with_reducible refine (spec_validGraph.calls k _ _ l0_0 a0_1 false _ ?side1 ?side2 A4.out).mono ?_);(case side1 => exact zC_ (Kd.C_below HR0_0.out HB.out));(case side2 => exact HC0_0.out);rintro e w39 ⟨rfl,hb⟩;refine ⟨_,rfl,?_⟩;have n0_ := As_ (zkb BK766.out hb);have n1_ := As_ (zkb BK767.out hb);have n2_ := As_ (bwT (zb2 HB.out GE766.out GE767.out) hb);clear BK766 BK767 HB;revert n0_ n1_ n2_;intro BK766 BK767 HB))
  go_ret
  exact ⟨zE_,zb2 HB.out GE766.out GE767.out⟩

 subst c5
 have H1 : ((spec_validGraph.f k l1_0 a1_1).bind fun t769 => (if t769 = true then ((spec_inRange.f a2 0 8).bind fun t770 => (if t770 = true then ((spec_equalTo.f k l0_0 a0_1 a0_1 l1_0 a1_1 a1_1 a2).bind fun t771 => (some t771)) else (some false))) else (some false))) = some r := by rw [if_pos rfl] at H;exact H
 clear H
 have H := H1
 clear H1
 replace H := obS H
 obtain ⟨t769,A60,H⟩ := H
 replace H : (if t769 = true then ((spec_inRange.f a2 0 8).bind fun t770 => (if t770 = true then ((spec_equalTo.f k l0_0 a0_1 a0_1 l1_0 a1_1 a1_1 a2).bind fun t771 => (some t771)) else (some false))) else (some false)) = some r := H
 have A6 := As_ A60
 clear A60
 by_cases c7 : t769 = true
 rotate_left
 ·replace c7 := Bool.eq_false_iff.mpr c7
  subst c7
  have H1 : (some false) = some r := by rw [if_neg (show ¬ (false = true) by decide)] at H;exact H
  clear H
  have H := H1
  clear H1
  obtain rfl := Option.some.inj H
  go_enter Try.func31,Try.ntmps31
  go_wp2_with (first|((with_reducible refine gate_dst (N := 3) rfl ?_);refine box_event ?hg (N := 3) ?hd (cs := #[.slice A0_0 l0_0.length c0_0,.int .i64 a0_1]) (t := 29) ?hr ?_;(case hd => rfl);(case hg => rfl);(case hr => go_simp <;> rfl);intro gb766 hg w28 hbox hb;have n0_ := As_ (bwT (zb0 HB.out) hb);have n1_ := As_ (hbox);have n2_ := As_ ((by rw [hg];exact (bwZ (zb0 HB.out)) : w.heap.size ≤ gb766));have n3_ := As_ ((by rw [hg];exact (bwZ (zb0 HB.out)) : w.heap.size ≤ gb766));clear HB;revert n0_ n1_ n2_ n3_;intro HB BK766 GW766 GE766;clear hb hbox hg)|((with_reducible refine gate_dst (N := 4) rfl ?_);refine box_event ?hg (N := 4) ?hd (cs := #[.slice A1_0 l1_0.length c1_0,.int .i64 a1_1]) (t := 29) ?hr ?_;(case hd => rfl);(case hg => rfl);(case hr => go_simp <;> rfl);intro gb767 hg w29 hbox hb;have n0_ := As_ (zkb BK766.out hb);have n1_ := As_ (bwT (zb1 HB.out GE766.out) hb);have n2_ := As_ (hbox);have n3_ := As_ ((by rw [hg];exact (bwZ (zb1 HB.out GE766.out)) : w.heap.size ≤ gb767));have n4_ := As_ ((by rw [hg];exact (bwZ (zb1 HB.out GE766.out)) : w.heap.size ≤ gb767));have n5_ := As_ ((by rw [hg];exact Nat.ne_of_lt (zkl BK766.out) : gb766 ≠ gb767));have n6_ := As_ ((by rw [hg];exact Nat.ne_of_gt (zkl BK766.out) : gb767 ≠ gb766));clear BK766 HB;revert n0_ n1_ n2_ n3_ n4_ n5_ n6_;intro BK766 HB BK767 GW767 GE767 NB766_767 NB767_766;clear hb hbox hg;have hnb30 := NB766_767.out;have hnc30 := NB767_766.out;obtain ⟨hcz31_0,hcz31_1,hfz31_0,hfz31_1⟩ := bk2 BK766.out)|((with_reducible refine gate_callee (f := 48) rfl ?_);refine goesL_ (some 8) rfl rfl Try.func48 (by kernel_rfl) rfl #[.agg #[.slice A0_0 l0_0.length c0_0,.int .i64 a0_1]] rfl zM_ ?_;(with_reducible refine (spec_validGraph.calls k _ _ l0_0 a0_1 true _ ?side1 ?side2 A4.out).mono ?_);(case side1 => exact zC_ (Kd.C_below HR0_0.out HB.out));(case side2 => exact HC0_0.out);rintro e w32 ⟨rfl,hb⟩;refine ⟨_,rfl,?_⟩;have n0_ := As_ (zkb BK766.out hb);have n1_ := As_ (zkb BK767.out hb);have n2_ := As_ (bwT (zb2 HB.out GE766.out GE767.out) hb);clear BK766 BK767 HB;revert n0_ n1_ n2_;intro BK766 BK767 HB;obtain ⟨hcz33_0,hcz33_1,hfz33_0,hfz33_1⟩ := bk2 BK767.out)|(go_at_call 48;(with_reducible refine (spec_validGraph.calls k _ _ l1_0 a1_1 false _ ?side1 ?side2 A6.out).mono ?_);(case side1 => exact zC_ (Kd.C_below HR1_0.out HB.out));(case side2 => exact HC1_0.out);rintro e w34 ⟨rfl,hb⟩;have n0_ := As_ (zkb BK766.out hb);have n1_ := As_ (zkb BK767.out hb);have n2_ := As_ (bwT (zb2 HB.out GE766.out GE767.out) hb);clear BK766 BK767 HB;revert n0_ n1_ n2_;intro BK766 BK767 HB))
  go_ret
  exact ⟨zE_,zb2 HB.out GE766.out GE767.out⟩
 subst c7
 have H1 : ((spec_inRange.f a2 0 8).bind fun t770 => (if t770 = true then ((spec_equalTo.f k l0_0 a0_1 a0_1 l1_0 a1_1 a1_1 a2).bind fun t771 => (some t771)) else (some false))) = some r := by rw [if_pos rfl] at H;exact H
 clear H
 have H := H1
 clear H1
 replace H := obS H
 obtain ⟨t770,A80,H⟩ := H
 replace H : (if t770 = true then ((spec_equalTo.f k l0_0 a0_1 a0_1 l1_0 a1_1 a1_1 a2).bind fun t771 => (some t771)) else (some false)) = some r := H
 have A8 := As_ A80
 clear A80
 by_cases c9 : t770 = true
 rotate_left
 ·replace c9 := Bool.eq_false_iff.mpr c9
  subst c9
  have H1 : (some false) = some r := by rw [if_neg (show ¬ (false = true) by decide)] at H;exact H
  clear H
  have H := H1
  clear H1
  obtain rfl := Option.some.inj H
  go_enter Try.func31,Try.ntmps31
  go_wp2_with (first|((with_reducible refine gate_dst (N := 3) rfl ?_);refine box_event ?hg (N := 3) ?hd (cs := #[.slice A0_0 l0_0.length c0_0,.int .i64 a0_1]) (t := 29) ?hr ?_;(case hd => rfl);(case hg => rfl);(case hr => go_simp <;> rfl);intro gb766 hg w21 hbox hb;have n0_ := As_ (bwT (zb0 HB.out) hb);have n1_ := As_ (hbox);have n2_ := As_ ((by rw [hg];exact (bwZ (zb0 HB.out)) : w.heap.size ≤ gb766));have n3_ := As_ ((by rw [hg];exact (bwZ (zb0 HB.out)) : w.heap.size ≤ gb766));clear HB;revert n0_ n1_ n2_ n3_;intro HB BK766 GW766 GE766;clear hb hbox hg)|((with_reducible refine gate_dst (N := 4) rfl ?_);refine box_event ?hg (N := 4) ?hd (cs := #[.slice A1_0 l1_0.length c1_0,.int .i64 a1_1]) (t := 29) ?hr ?_;(case hd => rfl);(case hg => rfl);(case hr => go_simp <;> rfl);intro gb767 hg w22 hbox hb;have n0_ := As_ (zkb BK766.out hb);have n1_ := As_ (bwT (zb1 HB.out GE766.out) hb);have n2_ := As_ (hbox);have n3_ := As_ ((by rw [hg];exact (bwZ (zb1 HB.out GE766.out)) : w.heap.size ≤ gb767));have n4_ := As_ ((by rw [hg];exact (bwZ (zb1 HB.out GE766.out)) : w.heap.size ≤ gb767));have n5_ := As_ ((by rw [hg];exact Nat.ne_of_lt (zkl BK766.out) : gb766 ≠ gb767));have n6_ := As_ ((by rw [hg];exact Nat.ne_of_gt (zkl BK766.out) : gb767 ≠ gb766));clear BK766 HB;revert n0_ n1_ n2_ n3_ n4_ n5_ n6_;intro BK766 HB BK767 GW767 GE767 NB766_767 NB767_766;clear hb hbox hg;have hnb23 := NB766_767.out;have hnc23 := NB767_766.out;obtain ⟨hcz24_0,hcz24_1,hfz24_0,hfz24_1⟩ := bk2 BK766.out)|((with_reducible refine gate_callee (f := 48) rfl ?_);refine goesL_ (some 8) rfl rfl Try.func48 (by kernel_rfl) rfl #[.agg #[.slice A0_0 l0_0.length c0_0,.int .i64 a0_1]] rfl zM_ ?_;(with_reducible refine (spec_validGraph.calls k _ _ l0_0 a0_1 true _ ?side1 ?side2 A4.out).mono ?_);(case side1 => exact zC_ (Kd.C_below HR0_0.out HB.out));(case side2 => exact HC0_0.out);rintro e w25 ⟨rfl,hb⟩;refine ⟨_,rfl,?_⟩;have n0_ := As_ (zkb BK766.out hb);have n1_ := As_ (zkb BK767.out hb);have n2_ := As_ (bwT (zb2 HB.out GE766.out GE767.out) hb);clear BK766 BK767 HB;revert n0_ n1_ n2_;intro BK766 BK767 HB;obtain ⟨hcz26_0,hcz26_1,hfz26_0,hfz26_1⟩ := bk2 BK767.out)|(go_at_call 48;(with_reducible refine (spec_validGraph.calls k _ _ l1_0 a1_1 true _ ?side1 ?side2 A6.out).mono ?_);(case side1 => exact zC_ (Kd.C_below HR1_0.out HB.out));(case side2 => exact HC1_0.out);rintro e w27 ⟨rfl,hb⟩;have n0_ := As_ (zkb BK766.out hb);have n1_ := As_ (zkb BK767.out hb);have n2_ := As_ (bwT (zb2 HB.out GE766.out GE767.out) hb);clear BK766 BK767 HB;revert n0_ n1_ n2_;intro BK766 BK767 HB)|(go_at_call 70;(with_reducible refine (spec_inRange.calls a2 0 8 false _ A8.out).mono ?_);rintro e w' ⟨rfl,⟨nd,rfl⟩⟩))
  go_ret
  exact ⟨zE_,zb2 HB.out GE766.out GE767.out⟩
 subst c9
 have H1 : ((spec_equalTo.f k l0_0 a0_1 a0_1 l1_0 a1_1 a1_1 a2).bind fun t771 => (some t771)) = some r := by rw [if_pos rfl] at H;exact H
 clear H
 have H := H1
 clear H1
 replace H := obS H
 obtain ⟨t771,A100,H⟩ := H
 replace H : (some t771) = some r := H
 have A10 := As_ A100
 clear A100
 obtain rfl := Option.some.inj H
 go_enter Try.func31,Try.ntmps31
 go_wp2_with (first|((with_reducible refine gate_dst (N := 3) rfl ?_);refine box_event ?hg (N := 3) ?hd (cs := #[.slice A0_0 l0_0.length c0_0,.int .i64 a0_1]) (t := 29) ?hr ?_;(case hd => rfl);(case hg => rfl);(case hr => go_simp <;> rfl);intro gb766 hg w11 hbox hb;have n0_ := As_ (bwT (zb0 HB.out) hb);have n1_ := As_ (hbox);have n2_ := As_ ((by rw [hg];exact (bwZ (zb0 HB.out)) : w.heap.size ≤ gb766));have n3_ := As_ ((by rw [hg];exact (bwZ (zb0 HB.out)) : w.heap.size ≤ gb766));clear HB;revert n0_ n1_ n2_ n3_;intro HB BK766 GW766 GE766;clear hb hbox hg)|((with_reducible refine gate_dst (N := 4) rfl ?_);refine box_event ?hg (N := 4) ?hd (cs := #[.slice A1_0 l1_0.length c1_0,.int .i64 a1_1]) (t := 29) ?hr ?_;(case hd => rfl);(case hg => rfl);(case hr => go_simp <;> rfl);intro gb767 hg w12 hbox hb;have n0_ := As_ (zkb BK766.out hb);have n1_ := As_ (bwT (zb1 HB.out GE766.out) hb);have n2_ := As_ (hbox);have n3_ := As_ ((by rw [hg];exact (bwZ (zb1 HB.out GE766.out)) : w.heap.size ≤ gb767));have n4_ := As_ ((by rw [hg];exact (bwZ (zb1 HB.out GE766.out)) : w.heap.size ≤ gb767));have n5_ := As_ ((by rw [hg];exact Nat.ne_of_lt (zkl BK766.out) : gb766 ≠ gb767));have n6_ := As_ ((by rw [hg];exact Nat.ne_of_gt (zkl BK766.out) : gb767 ≠ gb766));clear BK766 HB;revert n0_ n1_ n2_ n3_ n4_ n5_ n6_;intro BK766 HB BK767 GW767 GE767 NB766_767 NB767_766;clear hb hbox hg;have hnb13 := NB766_767.out;have hnc13 := NB767_766.out;obtain ⟨hcz14_0,hcz14_1,hfz14_0,hfz14_1⟩ := bk2 BK766.out)|((with_reducible refine gate_callee (f := 48) rfl ?_);refine goesL_ (some 8) rfl rfl Try.func48 (by kernel_rfl) rfl #[.agg #[.slice A0_0 l0_0.length c0_0,.int .i64 a0_1]] rfl zM_ ?_;(with_reducible refine (spec_validGraph.calls k _ _ l0_0 a0_1 true _ ?side1 ?side2 A4.out).mono ?_);(case side1 => exact zC_ (Kd.C_below HR0_0.out HB.out));(case side2 => exact HC0_0.out);rintro e w15 ⟨rfl,hb⟩;refine ⟨_,rfl,?_⟩;have n0_ := As_ (zkb BK766.out hb);have n1_ := As_ (zkb BK767.out hb);have n2_ := As_ (bwT (zb2 HB.out GE766.out GE767.out) hb);clear BK766 BK767 HB;revert n0_ n1_ n2_;intro BK766 BK767 HB;obtain ⟨hcz16_0,hcz16_1,hfz16_0,hfz16_1⟩ := bk2 BK767.out)|(go_at_call 48;(with_reducible refine (spec_validGraph.calls k _ _ l1_0 a1_1 true _ ?side1 ?side2 A6.out).mono ?_);(case side1 => exact zC_ (Kd.C_below HR1_0.out HB.out));(case side2 => exact HC1_0.out);rintro e w17 ⟨rfl,hb⟩;have n0_ := As_ (zkb BK766.out hb);have n1_ := As_ (zkb BK767.out hb);have n2_ := As_ (bwT (zb2 HB.out GE766.out GE767.out) hb);clear BK766 BK767 HB;revert n0_ n1_ n2_;intro BK766 BK767 HB)|(go_at_call 70;(with_reducible refine (spec_inRange.calls a2 0 8 true _ A8.out).mono ?_);rintro e w' ⟨rfl,⟨nd,rfl⟩⟩;obtain ⟨hcz18_0,hcz18_1,hfz18_0,hfz18_1⟩ := bk2 BK766.out;obtain ⟨hcz19_0,hcz19_1,hfz19_0,hfz19_1⟩ := bk2 BK767.out)|(go_at_call 71;(with_reducible refine (spec_equalTo.calls k _ _ l0_0 a0_1 a0_1 _ _ l1_0 a1_1 a1_1 a2 t771 _ ?side1 ?side2 ?side3 ?side4 A10.out).mono ?_);(case side1 => repeat (first|exact (Kd.C_below HR0_0.out (zb2 HB.out GE766.out GE767.out))|(with_reducible refine Kd.C_alloc ?_ _)|(with_reducible refine Kd.C_drewN ?_ _)|(with_reducible refine Kd.C_drew ?_)));(case side2 => exact HC0_0.out);(case side3 => repeat (first|exact (Kd.C_below HR1_0.out (zb2 HB.out GE766.out GE767.out))|(with_reducible refine Kd.C_alloc ?_ _)|(with_reducible refine Kd.C_drewN ?_ _)|(with_reducible refine Kd.C_drew ?_)));(case side4 => exact HC1_0.out);rintro e w20 ⟨rfl,hb⟩;have n0_ := As_ (zkb BK766.out hb);have n1_ := As_ (zkb BK767.out hb);have n2_ := As_ (bwT (zb2 HB.out GE766.out GE767.out) hb);clear BK766 BK767 HB;revert n0_ n1_ n2_;intro BK766 BK767 HB))
 go_ret
 exact ⟨zE_,zb2 HB.out GE766.out GE767.out⟩
end Go.Proofs.Ytfhakhbmbnbneaa.Q
