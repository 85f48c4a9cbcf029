-- Written by wip/tools/qprint.py (a program of this claim's author) by means of the kit's printer.
import Derived.Test.YtonppkaobnfldaaQ0
import Derived.Test.YtonppkaobnfldaaQ15
import Derived.Test.YtonppkaobnfldaaQ34
import Derived.Test.YtonppkaobnfldaaQ46
import Derived.Test.YtonppkaobnfldaaQ49
import Derived.Test.YtonppkaobnfldaaQ50
import Derived.Test.YtonppkaobnfldaaQ77
namespace Go.Proofs.Ytonppkaobnfldaa.Q
open Go.RowKit Go.Proofs.YtonppkaobnfldaaW.PrintWords Go.Proofs.YtonppkaobnfldaaW.PrintLast Go.Proofs.YtonppkaobnfldaaW.PrintMore
attribute [local go_sem] max2_int min2_int max_two min_two max_three min_three max_four min_four   -- for this text's walks alone
set_option linter.unusedVariables false
set_option linter.unusedSimpArgs false

/-! ### laws_FnExactLeanOps: function 14 -/
def laws_FnExactLeanOps.j0 : Nat → List (S51) → List (S49) → List (S49) → Bool → Option (Bool)
 | 0,_,_,_,_ => none
 | k + 1,x0,x4,x6,x42 => if x42 = true then (some false) else ((laws_markOpS.f k x6 1).bind fun bt782 => ((laws_heldOpS.f k bt782.2 1).bind fun t784 => (if t784 < 0 then (some false) else (if t784 = bt782.1 then ((laws_toOpS.f k x0).bind fun t785 => ((impl_LeanOps.f k t785).bind fun t788 => ((laws_eqOpS.f k t788 x4).bind fun t791 => (if t791 = true then ((laws_heldOpS.f k bt782.2 1).bind fun t792 => (if t792 < 0 then (some false) else (if t792 = bt782.1 then (some true) else (some false)))) else (some false))))) else (some false)))))
def laws_FnExactLeanOps.f (k : Nat) (l0 : List (S51)) : Option (Bool) := (laws_szOpS.f l0 1048576).bind fun t761 => (if t761 < 0 then (some true) else ((laws_toOpS.f k l0).bind fun t762 => ((spec_LeanOps.f k t762).bind fun t765 => ((laws_toOpS.f k l0).bind fun t768 => ((impl_LeanOps.f k t768).bind fun t771 => ((laws_eqOpS.f k t771 t765).bind fun t774 => (if t774 = true then ((laws_toOpS.f k l0).bind fun t775 => ((laws_eqOpS.f k t768 t775).bind fun t778 => (if t778 = true then ((laws_markOpS.f k t768 1).bind fun bt779 => (if bt779.1 < 0 then (laws_FnExactLeanOps.j0 k l0 t765 t771 true) else ((laws_eqOpS.f k t771 t765).bind fun t781 => (laws_FnExactLeanOps.j0 k l0 t765 t771 (!t781))))) else (some false)))) else (some false))))))))
set_option maxRecDepth 100000 in
theorem laws_FnExactLeanOps.mono_l : ∀ k,(∀ y0 y1 y2 y3,LeO (laws_FnExactLeanOps.j0 k y0 y1 y2 y3) (laws_FnExactLeanOps.j0 (k + 1) y0 y1 y2 y3))
 | 0 => fun _ _ _ _ r h => (by cases h)
 | k + 1 => by
  have ih0 := laws_FnExactLeanOps.mono_l k
  ·intro y0 y1 y2 y3
   unfold laws_FnExactLeanOps.j0
   repeat' first
   | (with_reducible exact ih0 _ _ _ _)
   | (with_reducible exact impl_LeanOps.mono _ _)
   | (with_reducible exact laws_eqOpS.mono _ _ _)
   | (with_reducible exact laws_heldOpS.mono _ _ _)
   | (with_reducible exact laws_markOpS.mono _ _ _)
   | (with_reducible exact laws_toOpS.mono _ _)
   | (with_reducible exact spec_LeanOps.mono _ _)
   | (with_reducible exact LeO.refl _)
   | (with_reducible exact LeO.none _)
   | (with_reducible refine LeO.ite ?_ ?_)
   | (with_reducible refine LeO.bind ?_ (fun _ => ?_))
   | exact ih0 _ _ _ _
   | exact impl_LeanOps.mono _ _
   | exact laws_eqOpS.mono _ _ _
   | exact laws_heldOpS.mono _ _ _
   | exact laws_markOpS.mono _ _ _
   | exact laws_toOpS.mono _ _
   | exact spec_LeanOps.mono _ _
   | exact LeO.none _
   | refine LeO.ite ?_ ?_
   | refine LeO.bind ?_ (fun _ => ?_)
set_option maxRecDepth 100000 in
theorem laws_FnExactLeanOps.mono : ∀ a0 k,LeO (laws_FnExactLeanOps.f k a0) (laws_FnExactLeanOps.f (k + 1) a0) := by
 intro a0 k
 have ih0 := laws_FnExactLeanOps.mono_l k
 unfold laws_FnExactLeanOps.f
 repeat' first
   | (with_reducible exact ih0 _ _ _ _)
   | (with_reducible exact impl_LeanOps.mono _ _)
   | (with_reducible exact laws_eqOpS.mono _ _ _)
   | (with_reducible exact laws_heldOpS.mono _ _ _)
   | (with_reducible exact laws_markOpS.mono _ _ _)
   | (with_reducible exact laws_toOpS.mono _ _)
   | (with_reducible exact spec_LeanOps.mono _ _)
   | (with_reducible exact LeO.refl _)
   | (with_reducible exact LeO.none _)
   | (with_reducible refine LeO.ite ?_ ?_)
   | (with_reducible refine LeO.bind ?_ (fun _ => ?_))
   | exact ih0 _ _ _ _
   | exact impl_LeanOps.mono _ _
   | exact laws_eqOpS.mono _ _ _
   | exact laws_heldOpS.mono _ _ _
   | exact laws_markOpS.mono _ _ _
   | exact laws_toOpS.mono _ _
   | exact spec_LeanOps.mono _ _
   | exact LeO.none _
   | refine LeO.ite ?_ ?_
   | refine LeO.bind ?_ (fun _ => ?_)
set_option maxHeartbeats 8000000 in
set_option maxRecDepth 100000 in
theorem laws_FnExactLeanOps.calls (k : Nat) (A0 : Option Addr) (c0 : Nat) (l0 : List (S51)) (r : Bool) (w : World) (hr0 : Kd.C k51 w A0 l0.length l0) (hc0 : l0.length ≤ c0) (h : laws_FnExactLeanOps.f k l0 = some r) :
  Calls Try.prog 14 #[.slice A0 l0.length c0] w fun e w' => e = .returned (.bool r) ∧ Below w.heap.size w w' := by
 have HR0 := As_ hr0
 have HC0 := As_ hc0
 clear hr0 hc0
 have HB := As_ (Below.refl w.heap.size w)
 have H : ((laws_szOpS.f l0 1048576).bind fun t761 => (if t761 < 0 then (some true) else ((laws_toOpS.f k l0).bind fun t762 => ((spec_LeanOps.f k t762).bind fun t765 => ((laws_toOpS.f k l0).bind fun t768 => ((impl_LeanOps.f k t768).bind fun t771 => ((laws_eqOpS.f k t771 t765).bind fun t774 => (if t774 = true then ((laws_toOpS.f k l0).bind fun t775 => ((laws_eqOpS.f k t768 t775).bind fun t778 => (if t778 = true then ((laws_markOpS.f k t768 1).bind fun bt779 => (if bt779.1 < 0 then (laws_FnExactLeanOps.j0 k l0 t765 t771 true) else ((laws_eqOpS.f k t771 t765).bind fun t781 => (laws_FnExactLeanOps.j0 k l0 t765 t771 (!t781))))) else (some false)))) else (some false))))))))) = some r := h
 clear h
 replace H := obS H
 obtain ⟨t761,A20,H⟩ := H
 replace H : (if t761 < 0 then (some true) else ((laws_toOpS.f k l0).bind fun t762 => ((spec_LeanOps.f k t762).bind fun t765 => ((laws_toOpS.f k l0).bind fun t768 => ((impl_LeanOps.f k t768).bind fun t771 => ((laws_eqOpS.f k t771 t765).bind fun t774 => (if t774 = true then ((laws_toOpS.f k l0).bind fun t775 => ((laws_eqOpS.f k t768 t775).bind fun t778 => (if t778 = true then ((laws_markOpS.f k t768 1).bind fun bt779 => (if bt779.1 < 0 then (laws_FnExactLeanOps.j0 k l0 t765 t771 true) else ((laws_eqOpS.f k t771 t765).bind fun t781 => (laws_FnExactLeanOps.j0 k l0 t765 t771 (!t781))))) else (some false)))) else (some false)))))))) = some r := H
 have A2 := As_ A20
 clear A20
 by_cases c3 : t761 < 0
 ·rw [if_pos c3] at H
  have c3b0 : decide (t761 < 0) = true := deT c3
  clear c3
  obtain rfl := Option.some.inj H
  go_enter Try.func14,Try.ntmps14
  go_wp2_with (first|((with_reducible refine gate_callee (f := 15) rfl ?_);refine goesL_ (some 13) rfl rfl Try.func15 (by kernel_rfl) rfl #[.slice A0 l0.length c0,.int .i64 1048576] rfl zM_ ?_;(with_reducible refine (laws_szOpS.calls _ _ l0 1048576 t761 _ ?side1 ?side2 A2.out).mono ?_);(case side1 => repeat (first|exact HR0.out|(with_reducible refine Kd.C_alloc ?_ _)|(with_reducible refine Kd.C_drewN ?_ _)|(with_reducible refine Kd.C_drew ?_)));(case side2 => exact HC0.out);rintro e w' ⟨rfl,⟨nd,rfl⟩⟩;refine ⟨_,rfl,?_⟩))
  go_ret
  exact ⟨zE_,zb0 HB.out⟩
 rw [if_neg c3] at H
 have c3b0 : decide (t761 < 0) = false := deF c3
 clear c3
 replace H := obS H
 obtain ⟨t762,A40,H⟩ := H
 replace H : ((spec_LeanOps.f k t762).bind fun t765 => ((laws_toOpS.f k l0).bind fun t768 => ((impl_LeanOps.f k t768).bind fun t771 => ((laws_eqOpS.f k t771 t765).bind fun t774 => (if t774 = true then ((laws_toOpS.f k l0).bind fun t775 => ((laws_eqOpS.f k t768 t775).bind fun t778 => (if t778 = true then ((laws_markOpS.f k t768 1).bind fun bt779 => (if bt779.1 < 0 then (laws_FnExactLeanOps.j0 k l0 t765 t771 true) else ((laws_eqOpS.f k t771 t765).bind fun t781 => (laws_FnExactLeanOps.j0 k l0 t765 t771 (!t781))))) else (some false)))) else (some false)))))) = some r := H
 have A4 := As_ A40
 clear A40
 replace H := obS H
 obtain ⟨t765,A50,H⟩ := H
 replace H : ((laws_toOpS.f k l0).bind fun t768 => ((impl_LeanOps.f k t768).bind fun t771 => ((laws_eqOpS.f k t771 t765).bind fun t774 => (if t774 = true then ((laws_toOpS.f k l0).bind fun t775 => ((laws_eqOpS.f k t768 t775).bind fun t778 => (if t778 = true then ((laws_markOpS.f k t768 1).bind fun bt779 => (if bt779.1 < 0 then (laws_FnExactLeanOps.j0 k l0 t765 t771 true) else ((laws_eqOpS.f k t771 t765).bind fun t781 => (laws_FnExactLeanOps.j0 k l0 t765 t771 (!t781))))) else (some false)))) else (some false))))) = some r := H
 have A5 := As_ A50
 clear A50
 replace H := obS H
 obtain ⟨t768,A60,H⟩ := H
 replace H : ((impl_LeanOps.f k t768).bind fun t771 => ((laws_eqOpS.f k t771 t765).bind fun t774 => (if t774 = true then ((laws_toOpS.f k l0).bind fun t775 => ((laws_eqOpS.f k t768 t775).bind fun t778 => (if t778 = true then ((laws_markOpS.f k t768 1).bind fun bt779 => (if bt779.1 < 0 then (laws_FnExactLeanOps.j0 k l0 t765 t771 true) else ((laws_eqOpS.f k t771 t765).bind fun t781 => (laws_FnExactLeanOps.j0 k l0 t765 t771 (!t781))))) else (some false)))) else (some false)))) = some r := H
 have A6 := As_ A60
 clear A60
 replace H := obS H
 obtain ⟨t771,A70,H⟩ := H
 replace H : ((laws_eqOpS.f k t771 t765).bind fun t774 => (if t774 = true then ((laws_toOpS.f k l0).bind fun t775 => ((laws_eqOpS.f k t768 t775).bind fun t778 => (if t778 = true then ((laws_markOpS.f k t768 1).bind fun bt779 => (if bt779.1 < 0 then (laws_FnExactLeanOps.j0 k l0 t765 t771 true) else ((laws_eqOpS.f k t771 t765).bind fun t781 => (laws_FnExactLeanOps.j0 k l0 t765 t771 (!t781))))) else (some false)))) else (some false))) = some r := H
 have A7 := As_ A70
 clear A70
 replace H := obS H
 obtain ⟨t774,A80,H⟩ := H
 replace H : (if t774 = true then ((laws_toOpS.f k l0).bind fun t775 => ((laws_eqOpS.f k t768 t775).bind fun t778 => (if t778 = true then ((laws_markOpS.f k t768 1).bind fun bt779 => (if bt779.1 < 0 then (laws_FnExactLeanOps.j0 k l0 t765 t771 true) else ((laws_eqOpS.f k t771 t765).bind fun t781 => (laws_FnExactLeanOps.j0 k l0 t765 t771 (!t781))))) else (some false)))) else (some false)) = some r := H
 have A8 := As_ A80
 clear A80
 by_cases c9 : t774 = true
 rotate_left
 ·replace c9 := Bool.eq_false_iff.mpr c9
  subst c9
  have H1 : (some false) = some r := by rw [if_neg (show ¬ (false = true) by decide)] at H;exact H
  clear H
  have H := H1
  clear H1
  obtain rfl := Option.some.inj H
  go_enter Try.func14,Try.ntmps14
  go_wp2_with (first|((with_reducible refine gate_callee (f := 15) rfl ?_);refine goesL_ (some 13) rfl rfl Try.func15 (by kernel_rfl) rfl #[.slice A0 l0.length c0,.int .i64 1048576] rfl zM_ ?_;(with_reducible refine (laws_szOpS.calls _ _ l0 1048576 t761 _ ?side1 ?side2 A2.out).mono ?_);(case side1 => repeat (first|exact HR0.out|(with_reducible refine Kd.C_alloc ?_ _)|(with_reducible refine Kd.C_drewN ?_ _)|(with_reducible refine Kd.C_drew ?_)));(case side2 => exact HC0.out);rintro e w' ⟨rfl,⟨nd,rfl⟩⟩;refine ⟨_,rfl,?_⟩)|((with_reducible refine gate_callee (f := 17) rfl ?_);refine goesL_ (some 17) rfl rfl Try.func17 (by kernel_rfl) rfl #[.slice A0 l0.length c0] rfl zM_ ?_;(with_reducible refine (laws_toOpS.calls k _ _ l0 t762 _ ?side1 ?side2 A4.out).mono ?_);(case side1 => repeat (first|exact HR0.out|(with_reducible refine Kd.C_alloc ?_ _)|(with_reducible refine Kd.C_drewN ?_ _)|(with_reducible refine Kd.C_drew ?_)));(case side2 => exact HC0.out);rintro e w81 ⟨v763,rfl,ho0,hb⟩;refine ⟨_,rfl,?_⟩;have n0_ := As_ (Kd.R_lower ho0 (bwZ (zb0 HB.out)));have n1_ := As_ (bwT (zb0 HB.out) hb);clear HB;revert n0_ n1_;intro HO764 HB;obtain ⟨Ao82,co82,eo82⟩ := Kd.R_slice HO764.out;subst eo82)|((with_reducible refine gate_callee (f := 49) rfl ?_);refine goesL_ (some 18) rfl rfl Try.func49 (by kernel_rfl) rfl #[.slice Ao82 t762.length co82] rfl zM_ ?_;(with_reducible refine (spec_LeanOps.calls k _ _ t762 t765 _ ?side1 ?side2 A5.out).mono ?_);(case side1 => exact zC_ (Kd.R_reads' HO764.out).2.2);(case side2 => exact (Kd.R_reads' HO764.out).2.1);rintro e w83 ⟨v766,rfl,ho0,hb⟩;refine ⟨_,rfl,?_⟩;have n0_ := As_ (Kd.R_elder' (zR_ HO764.out) (Kd.R_base ho0) hb);have n1_ := As_ (Kd.R_lower (Kd.R_new' ho0 (Kd.R_lt (zR_ HO764.out))) (bwZ (zb0 HB.out)));have n2_ := As_ (bwT (zb0 HB.out) hb);clear HO764 HB;revert n0_ n1_ n2_;intro HO764 HO767 HB)|((with_reducible refine gate_callee (f := 17) rfl ?_);refine goesL_ (some 20) rfl rfl Try.func17 (by kernel_rfl) rfl #[.slice A0 l0.length c0] rfl zM_ ?_;(with_reducible refine (laws_toOpS.calls k _ _ l0 t768 _ ?side1 ?side2 A6.out).mono ?_);(case side1 => exact zC_ (Kd.C_below HR0.out HB.out));(case side2 => exact HC0.out);rintro e w84 ⟨v769,rfl,ho0,hb⟩;refine ⟨_,rfl,?_⟩;have n0_ := As_ (Kd.R_elder' (zR_ HO764.out) (Kd.R_base ho0) hb);have n1_ := As_ (Kd.R_elder' (zR_ HO767.out) (Kd.R_base ho0) hb);have n2_ := As_ (Kd.R_lower (Kd.R_new' (Kd.R_new' ho0 (Kd.R_lt (zR_ HO764.out))) (Kd.R_lt (zR_ HO767.out))) (bwZ (zb0 HB.out)));have n3_ := As_ (bwT (zb0 HB.out) hb);clear HO764 HO767 HB;revert n0_ n1_ n2_ n3_;intro HO764 HO767 HO770 HB;obtain ⟨Ao85,co85,eo85⟩ := Kd.R_slice HO770.out;subst eo85)|((with_reducible refine gate_callee (f := 50) rfl ?_);refine goesL_ (some 22) rfl rfl Try.func50 (by kernel_rfl) rfl #[.slice Ao85 t768.length co85] rfl zM_ ?_;(with_reducible refine (impl_LeanOps.calls k _ _ t768 t771 _ ?side1 ?side2 A7.out).mono ?_);(case side1 => exact zC_ (Kd.R_reads' HO770.out).2.2);(case side2 => exact (Kd.R_reads' HO770.out).2.1);rintro e w86 ⟨v772,rfl,ho0,hb⟩;refine ⟨_,rfl,?_⟩;have n0_ := As_ (Kd.R_elder' (zR_ HO764.out) (Kd.R_base ho0) hb);have n1_ := As_ (Kd.R_elder' (zR_ HO767.out) (Kd.R_base ho0) hb);have n2_ := As_ (Kd.R_elder' (zR_ HO770.out) (Kd.R_base ho0) hb);have n3_ := As_ (Kd.R_lower (Kd.R_new' (Kd.R_new' (Kd.R_new' ho0 (Kd.R_lt (zR_ HO764.out))) (Kd.R_lt (zR_ HO767.out))) (Kd.R_lt (zR_ HO770.out))) (bwZ (zb0 HB.out)));have n4_ := As_ (bwT (zb0 HB.out) hb);clear HO764 HO767 HO770 HB;revert n0_ n1_ n2_ n3_ n4_;intro HO764 HO767 HO770 HO773 HB;obtain ⟨Ao87,co87,eo87⟩ := Kd.R_slice HO773.out;subst eo87;obtain ⟨Ao88,co88,eo88⟩ := Kd.R_slice HO767.out;subst eo88)|((with_reducible refine gate_callee (f := 19) rfl ?_);refine goesL_ (some 25) rfl rfl Try.func19 (by kernel_rfl) rfl #[.slice Ao87 t771.length co87,.slice Ao88 t765.length co88] rfl zM_ ?_;(with_reducible refine (laws_eqOpS.calls k _ _ t771 _ _ t765 false _ ?side1 ?side2 ?side3 ?side4 A8.out).mono ?_);(case side1 => exact zC_ (Kd.R_reads' HO773.out).2.2);(case side2 => exact (Kd.R_reads' HO773.out).2.1);(case side3 => exact zC_ (Kd.R_reads' HO767.out).2.2);(case side4 => exact (Kd.R_reads' HO767.out).2.1);rintro e w89 ⟨rfl,hb⟩;refine ⟨_,rfl,?_⟩;have n0_ := As_ (Kd.R_below (zR_ HO764.out) hb);have n1_ := As_ (Kd.R_below (zR_ HO767.out) hb);have n2_ := As_ (Kd.R_below (zR_ HO770.out) hb);have n3_ := As_ (Kd.R_below (zR_ HO773.out) hb);have n4_ := As_ (bwT (zb0 HB.out) hb);clear HO764 HO767 HO770 HO773 HB;revert n0_ n1_ n2_ n3_ n4_;intro HO764 HO767 HO770 HO773 HB))
  go_ret
  exact ⟨zE_,zb0 HB.out⟩

 subst c9
 have H1 : ((laws_toOpS.f k l0).bind fun t775 => ((laws_eqOpS.f k t768 t775).bind fun t778 => (if t778 = true then ((laws_markOpS.f k t768 1).bind fun bt779 => (if bt779.1 < 0 then (laws_FnExactLeanOps.j0 k l0 t765 t771 true) else ((laws_eqOpS.f k t771 t765).bind fun t781 => (laws_FnExactLeanOps.j0 k l0 t765 t771 (!t781))))) else (some false)))) = some r := by rw [if_pos rfl] at H;exact H
 clear H
 have H := H1
 clear H1
 replace H := obS H
 obtain ⟨t775,A100,H⟩ := H
 replace H : ((laws_eqOpS.f k t768 t775).bind fun t778 => (if t778 = true then ((laws_markOpS.f k t768 1).bind fun bt779 => (if bt779.1 < 0 then (laws_FnExactLeanOps.j0 k l0 t765 t771 true) else ((laws_eqOpS.f k t771 t765).bind fun t781 => (laws_FnExactLeanOps.j0 k l0 t765 t771 (!t781))))) else (some false))) = some r := H
 have A10 := As_ A100
 clear A100
 replace H := obS H
 obtain ⟨t778,A110,H⟩ := H
 replace H : (if t778 = true then ((laws_markOpS.f k t768 1).bind fun bt779 => (if bt779.1 < 0 then (laws_FnExactLeanOps.j0 k l0 t765 t771 true) else ((laws_eqOpS.f k t771 t765).bind fun t781 => (laws_FnExactLeanOps.j0 k l0 t765 t771 (!t781))))) else (some false)) = some r := H
 have A11 := As_ A110
 clear A110
 by_cases c12 : t778 = true
 rotate_left
 ·replace c12 := Bool.eq_false_iff.mpr c12
  subst c12
  have H1 : (some false) = some r := by rw [if_neg (show ¬ (false = true) by decide)] at H;exact H
  clear H
  have H := H1
  clear H1
  obtain rfl := Option.some.inj H
  go_enter Try.func14,Try.ntmps14
  go_wp2_with (first|((with_reducible refine gate_callee (f := 15) rfl ?_);refine goesL_ (some 13) rfl rfl Try.func15 (by kernel_rfl) rfl #[.slice A0 l0.length c0,.int .i64 1048576] rfl zM_ ?_;(with_reducible refine (laws_szOpS.calls _ _ l0 1048576 t761 _ ?side1 ?side2 A2.out).mono ?_);(case side1 => repeat (first|exact HR0.out|(with_reducible refine Kd.C_alloc ?_ _)|(with_reducible refine Kd.C_drewN ?_ _)|(with_reducible refine Kd.C_drew ?_)));(case side2 => exact HC0.out);rintro e w' ⟨rfl,⟨nd,rfl⟩⟩;refine ⟨_,rfl,?_⟩)|((with_reducible refine gate_callee (f := 17) rfl ?_);refine goesL_ (some 17) rfl rfl Try.func17 (by kernel_rfl) rfl #[.slice A0 l0.length c0] rfl zM_ ?_;(with_reducible refine (laws_toOpS.calls k _ _ l0 t762 _ ?side1 ?side2 A4.out).mono ?_);(case side1 => repeat (first|exact HR0.out|(with_reducible refine Kd.C_alloc ?_ _)|(with_reducible refine Kd.C_drewN ?_ _)|(with_reducible refine Kd.C_drew ?_)));(case side2 => exact HC0.out);rintro e w69 ⟨v763,rfl,ho0,hb⟩;refine ⟨_,rfl,?_⟩;have n0_ := As_ (Kd.R_lower ho0 (bwZ (zb0 HB.out)));have n1_ := As_ (bwT (zb0 HB.out) hb);clear HB;revert n0_ n1_;intro HO764 HB;obtain ⟨Ao70,co70,eo70⟩ := Kd.R_slice HO764.out;subst eo70)|((with_reducible refine gate_callee (f := 49) rfl ?_);refine goesL_ (some 18) rfl rfl Try.func49 (by kernel_rfl) rfl #[.slice Ao70 t762.length co70] rfl zM_ ?_;(with_reducible refine (spec_LeanOps.calls k _ _ t762 t765 _ ?side1 ?side2 A5.out).mono ?_);(case side1 => exact zC_ (Kd.R_reads' HO764.out).2.2);(case side2 => exact (Kd.R_reads' HO764.out).2.1);rintro e w71 ⟨v766,rfl,ho0,hb⟩;refine ⟨_,rfl,?_⟩;have n0_ := As_ (Kd.R_elder' (zR_ HO764.out) (Kd.R_base ho0) hb);have n1_ := As_ (Kd.R_lower (Kd.R_new' ho0 (Kd.R_lt (zR_ HO764.out))) (bwZ (zb0 HB.out)));have n2_ := As_ (bwT (zb0 HB.out) hb);clear HO764 HB;revert n0_ n1_ n2_;intro HO764 HO767 HB)|((with_reducible refine gate_callee (f := 17) rfl ?_);refine goesL_ (some 20) rfl rfl Try.func17 (by kernel_rfl) rfl #[.slice A0 l0.length c0] rfl zM_ ?_;(with_reducible refine (laws_toOpS.calls k _ _ l0 t768 _ ?side1 ?side2 A6.out).mono ?_);(case side1 => exact zC_ (Kd.C_below HR0.out HB.out));(case side2 => exact HC0.out);rintro e w72 ⟨v769,rfl,ho0,hb⟩;refine ⟨_,rfl,?_⟩;have n0_ := As_ (Kd.R_elder' (zR_ HO764.out) (Kd.R_base ho0) hb);have n1_ := As_ (Kd.R_elder' (zR_ HO767.out) (Kd.R_base ho0) hb);have n2_ := As_ (Kd.R_lower (Kd.R_new' (Kd.R_new' ho0 (Kd.R_lt (zR_ HO764.out))) (Kd.R_lt (zR_ HO767.out))) (bwZ (zb0 HB.out)));have n3_ := As_ (bwT (zb0 HB.out) hb);clear HO764 HO767 HB;revert n0_ n1_ n2_ n3_;intro HO764 HO767 HO770 HB;obtain ⟨Ao73,co73,eo73⟩ := Kd.R_slice HO770.out;subst eo73)|((with_reducible refine gate_callee (f := 50) rfl ?_);refine goesL_ (some 22) rfl rfl Try.func50 (by kernel_rfl) rfl #[.slice Ao73 t768.length co73] rfl zM_ ?_;(with_reducible refine (impl_LeanOps.calls k _ _ t768 t771 _ ?side1 ?side2 A7.out).mono ?_);(case side1 => exact zC_ (Kd.R_reads' HO770.out).2.2);(case side2 => exact (Kd.R_reads' HO770.out).2.1);rintro e w74 ⟨v772,rfl,ho0,hb⟩;refine ⟨_,rfl,?_⟩;have n0_ := As_ (Kd.R_elder' (zR_ HO764.out) (Kd.R_base ho0) hb);have n1_ := As_ (Kd.R_elder' (zR_ HO767.out) (Kd.R_base ho0) hb);have n2_ := As_ (Kd.R_elder' (zR_ HO770.out) (Kd.R_base ho0) hb);have n3_ := As_ (Kd.R_lower (Kd.R_new' (Kd.R_new' (Kd.R_new' ho0 (Kd.R_lt (zR_ HO764.out))) (Kd.R_lt (zR_ HO767.out))) (Kd.R_lt (zR_ HO770.out))) (bwZ (zb0 HB.out)));have n4_ := As_ (bwT (zb0 HB.out) hb);clear HO764 HO767 HO770 HB;revert n0_ n1_ n2_ n3_ n4_;intro HO764 HO767 HO770 HO773 HB;obtain ⟨Ao75,co75,eo75⟩ := Kd.R_slice HO773.out;subst eo75;obtain ⟨Ao76,co76,eo76⟩ := Kd.R_slice HO767.out;subst eo76)|((with_reducible refine gate_callee (f := 19) rfl ?_);refine goesL_ (some 25) rfl rfl Try.func19 (by kernel_rfl) rfl #[.slice Ao75 t771.length co75,.slice Ao76 t765.length co76] rfl zM_ ?_;(with_reducible refine (laws_eqOpS.calls k _ _ t771 _ _ t765 true _ ?side1 ?side2 ?side3 ?side4 A8.out).mono ?_);(case side1 => exact zC_ (Kd.R_reads' HO773.out).2.2);(case side2 => exact (Kd.R_reads' HO773.out).2.1);(case side3 => exact zC_ (Kd.R_reads' HO767.out).2.2);(case side4 => exact (Kd.R_reads' HO767.out).2.1);rintro e w77 ⟨rfl,hb⟩;refine ⟨_,rfl,?_⟩;have n0_ := As_ (Kd.R_below (zR_ HO764.out) hb);have n1_ := As_ (Kd.R_below (zR_ HO767.out) hb);have n2_ := As_ (Kd.R_below (zR_ HO770.out) hb);have n3_ := As_ (Kd.R_below (zR_ HO773.out) hb);have n4_ := As_ (bwT (zb0 HB.out) hb);clear HO764 HO767 HO770 HO773 HB;revert n0_ n1_ n2_ n3_ n4_;intro HO764 HO767 HO770 HO773 HB)|((with_reducible refine gate_callee (f := 17) rfl ?_);refine goesL_ (some 29) rfl rfl Try.func17 (by kernel_rfl) rfl #[.slice A0 l0.length c0] rfl zM_ ?_;(with_reducible refine (laws_toOpS.calls k _ _ l0 t775 _ ?side1 ?side2 A10.out).mono ?_);(case side1 => exact zC_ (Kd.C_below HR0.out HB.out));(case side2 => exact HC0.out);rintro e w78 ⟨v776,rfl,ho0,hb⟩;refine ⟨_,rfl,?_⟩;have n0_ := As_ (Kd.R_elder' (zR_ HO764.out) (Kd.R_base ho0) hb);have n1_ := As_ (Kd.R_elder' (zR_ HO767.out) (Kd.R_base ho0) hb);have n2_ := As_ (Kd.R_elder' (zR_ HO770.out) (Kd.R_base ho0) hb);have n3_ := As_ (Kd.R_elder' (zR_ HO773.out) (Kd.R_base ho0) hb);have n4_ := As_ (Kd.R_lower (Kd.R_new' (Kd.R_new' (Kd.R_new' (Kd.R_new' ho0 (Kd.R_lt (zR_ HO764.out))) (Kd.R_lt (zR_ HO767.out))) (Kd.R_lt (zR_ HO770.out))) (Kd.R_lt (zR_ HO773.out))) (bwZ (zb0 HB.out)));have n5_ := As_ (bwT (zb0 HB.out) hb);clear HO764 HO767 HO770 HO773 HB;revert n0_ n1_ n2_ n3_ n4_ n5_;intro HO764 HO767 HO770 HO773 HO777 HB;obtain ⟨Ao79,co79,eo79⟩ := Kd.R_slice HO777.out;subst eo79)|((with_reducible refine gate_callee (f := 19) rfl ?_);refine goesL_ (some 30) rfl rfl Try.func19 (by kernel_rfl) rfl #[.slice Ao73 t768.length co73,.slice Ao79 t775.length co79] rfl zM_ ?_;(with_reducible refine (laws_eqOpS.calls k _ _ t768 _ _ t775 false _ ?side1 ?side2 ?side3 ?side4 A11.out).mono ?_);(case side1 => exact zC_ (Kd.R_reads' HO770.out).2.2);(case side2 => exact (Kd.R_reads' HO770.out).2.1);(case side3 => exact zC_ (Kd.R_reads' HO777.out).2.2);(case side4 => exact (Kd.R_reads' HO777.out).2.1);rintro e w80 ⟨rfl,hb⟩;refine ⟨_,rfl,?_⟩;have n0_ := As_ (Kd.R_below (zR_ HO764.out) hb);have n1_ := As_ (Kd.R_below (zR_ HO767.out) hb);have n2_ := As_ (Kd.R_below (zR_ HO770.out) hb);have n3_ := As_ (Kd.R_below (zR_ HO773.out) hb);have n4_ := As_ (Kd.R_below (zR_ HO777.out) hb);have n5_ := As_ (bwT (zb0 HB.out) hb);clear HO764 HO767 HO770 HO773 HO777 HB;revert n0_ n1_ n2_ n3_ n4_ n5_;intro HO764 HO767 HO770 HO773 HO777 HB))
  go_ret
  exact ⟨zE_,zb0 HB.out⟩
 subst c12
 have H1 : ((laws_markOpS.f k t768 1).bind fun bt779 => (if bt779.1 < 0 then (laws_FnExactLeanOps.j0 k l0 t765 t771 true) else ((laws_eqOpS.f k t771 t765).bind fun t781 => (laws_FnExactLeanOps.j0 k l0 t765 t771 (!t781))))) = some r := by rw [if_pos rfl] at H;exact H
 clear H
 have H := H1
 clear H1
 replace H := obS H
 obtain ⟨⟨t779,t780⟩,A130,H⟩ := H
 replace H : (if t779 < 0 then (laws_FnExactLeanOps.j0 k l0 t765 t771 true) else ((laws_eqOpS.f k t771 t765).bind fun t781 => (laws_FnExactLeanOps.j0 k l0 t765 t771 (!t781)))) = some r := H
 have A13 := As_ A130
 clear A130
 have HC14 := As_ H
 clear H
 go_enter Try.func14,Try.ntmps14
 go_upto_region 14 with (first|((with_reducible refine gate_callee (f := 15) rfl ?_);refine goesL_ (some 13) rfl rfl Try.func15 (by kernel_rfl) rfl #[.slice A0 l0.length c0,.int .i64 1048576] rfl zM_ ?_;(with_reducible refine (laws_szOpS.calls _ _ l0 1048576 t761 _ ?side1 ?side2 A2.out).mono ?_);(case side1 => repeat (first|exact HR0.out|(with_reducible refine Kd.C_alloc ?_ _)|(with_reducible refine Kd.C_drewN ?_ _)|(with_reducible refine Kd.C_drew ?_)));(case side2 => exact HC0.out);rintro e w' ⟨rfl,⟨nd,rfl⟩⟩;refine ⟨_,rfl,?_⟩)|((with_reducible refine gate_callee (f := 17) rfl ?_);refine goesL_ (some 17) rfl rfl Try.func17 (by kernel_rfl) rfl #[.slice A0 l0.length c0] rfl zM_ ?_;(with_reducible refine (laws_toOpS.calls k _ _ l0 t762 _ ?side1 ?side2 A4.out).mono ?_);(case side1 => repeat (first|exact HR0.out|(with_reducible refine Kd.C_alloc ?_ _)|(with_reducible refine Kd.C_drewN ?_ _)|(with_reducible refine Kd.C_drew ?_)));(case side2 => exact HC0.out);rintro e w15 ⟨v763,rfl,ho0,hb⟩;refine ⟨_,rfl,?_⟩;have n0_ := As_ (Kd.R_lower ho0 (bwZ (zb0 HB.out)));have n1_ := As_ (bwT (zb0 HB.out) hb);clear HB;revert n0_ n1_;intro HO764 HB;obtain ⟨Ao16,co16,eo16⟩ := Kd.R_slice HO764.out;subst eo16)|((with_reducible refine gate_callee (f := 49) rfl ?_);refine goesL_ (some 18) rfl rfl Try.func49 (by kernel_rfl) rfl #[.slice Ao16 t762.length co16] rfl zM_ ?_;(with_reducible refine (spec_LeanOps.calls k _ _ t762 t765 _ ?side1 ?side2 A5.out).mono ?_);(case side1 => exact zC_ (Kd.R_reads' HO764.out).2.2);(case side2 => exact (Kd.R_reads' HO764.out).2.1);rintro e w17 ⟨v766,rfl,ho0,hb⟩;refine ⟨_,rfl,?_⟩;have n0_ := As_ (Kd.R_elder' (zR_ HO764.out) (Kd.R_base ho0) hb);have n1_ := As_ (Kd.R_lower (Kd.R_new' ho0 (Kd.R_lt (zR_ HO764.out))) (bwZ (zb0 HB.out)));have n2_ := As_ (bwT (zb0 HB.out) hb);clear HO764 HB;revert n0_ n1_ n2_;intro HO764 HO767 HB)|((with_reducible refine gate_callee (f := 17) rfl ?_);refine goesL_ (some 20) rfl rfl Try.func17 (by kernel_rfl) rfl #[.slice A0 l0.length c0] rfl zM_ ?_;(with_reducible refine (laws_toOpS.calls k _ _ l0 t768 _ ?side1 ?side2 A6.out).mono ?_);(case side1 => exact zC_ (Kd.C_below HR0.out HB.out));(case side2 => exact HC0.out);rintro e w18 ⟨v769,rfl,ho0,hb⟩;refine ⟨_,rfl,?_⟩;have n0_ := As_ (Kd.R_elder' (zR_ HO764.out) (Kd.R_base ho0) hb);have n1_ := As_ (Kd.R_elder' (zR_ HO767.out) (Kd.R_base ho0) hb);have n2_ := As_ (Kd.R_lower (Kd.R_new' (Kd.R_new' ho0 (Kd.R_lt (zR_ HO764.out))) (Kd.R_lt (zR_ HO767.out))) (bwZ (zb0 HB.out)));have n3_ := As_ (bwT (zb0 HB.out) hb);clear HO764 HO767 HB;revert n0_ n1_ n2_ n3_;intro HO764 HO767 HO770 HB;obtain ⟨Ao19,co19,eo19⟩ := Kd.R_slice HO770.out;subst eo19)|((with_reducible refine gate_callee (f := 50) rfl ?_);refine goesL_ (some 22) rfl rfl Try.func50 (by kernel_rfl) rfl #[.slice Ao19 t768.length co19] rfl zM_ ?_;(with_reducible refine (impl_LeanOps.calls k _ _ t768 t771 _ ?side1 ?side2 A7.out).mono ?_);(case side1 => exact zC_ (Kd.R_reads' HO770.out).2.2);(case side2 => exact (Kd.R_reads' HO770.out).2.1);rintro e w20 ⟨v772,rfl,ho0,hb⟩;refine ⟨_,rfl,?_⟩;have n0_ := As_ (Kd.R_elder' (zR_ HO764.out) (Kd.R_base ho0) hb);have n1_ := As_ (Kd.R_elder' (zR_ HO767.out) (Kd.R_base ho0) hb);have n2_ := As_ (Kd.R_elder' (zR_ HO770.out) (Kd.R_base ho0) hb);have n3_ := As_ (Kd.R_lower (Kd.R_new' (Kd.R_new' (Kd.R_new' ho0 (Kd.R_lt (zR_ HO764.out))) (Kd.R_lt (zR_ HO767.out))) (Kd.R_lt (zR_ HO770.out))) (bwZ (zb0 HB.out)));have n4_ := As_ (bwT (zb0 HB.out) hb);clear HO764 HO767 HO770 HB;revert n0_ n1_ n2_ n3_ n4_;intro HO764 HO767 HO770 HO773 HB;obtain ⟨Ao21,co21,eo21⟩ := Kd.R_slice HO773.out;subst eo21;obtain ⟨Ao22,co22,eo22⟩ := Kd.R_slice HO767.out;subst eo22)|((with_reducible refine gate_callee (f := 19) rfl ?_);refine goesL_ (some 25) rfl rfl Try.func19 (by kernel_rfl) rfl #[.slice Ao21 t771.length co21,.slice Ao22 t765.length co22] rfl zM_ ?_;(with_reducible refine (laws_eqOpS.calls k _ _ t771 _ _ t765 true _ ?side1 ?side2 ?side3 ?side4 A8.out).mono ?_);(case side1 => exact zC_ (Kd.R_reads' HO773.out).2.2);(case side2 => exact (Kd.R_reads' HO773.out).2.1);(case side3 => exact zC_ (Kd.R_reads' HO767.out).2.2);(case side4 => exact (Kd.R_reads' HO767.out).2.1);rintro e w23 ⟨rfl,hb⟩;refine ⟨_,rfl,?_⟩;have n0_ := As_ (Kd.R_below (zR_ HO764.out) hb);have n1_ := As_ (Kd.R_below (zR_ HO767.out) hb);have n2_ := As_ (Kd.R_below (zR_ HO770.out) hb);have n3_ := As_ (Kd.R_below (zR_ HO773.out) hb);have n4_ := As_ (bwT (zb0 HB.out) hb);clear HO764 HO767 HO770 HO773 HB;revert n0_ n1_ n2_ n3_ n4_;intro HO764 HO767 HO770 HO773 HB)|((with_reducible refine gate_callee (f := 17) rfl ?_);refine goesL_ (some 29) rfl rfl Try.func17 (by kernel_rfl) rfl #[.slice A0 l0.length c0] rfl zM_ ?_;(with_reducible refine (laws_toOpS.calls k _ _ l0 t775 _ ?side1 ?side2 A10.out).mono ?_);(case side1 => exact zC_ (Kd.C_below HR0.out HB.out));(case side2 => exact HC0.out);rintro e w24 ⟨v776,rfl,ho0,hb⟩;refine ⟨_,rfl,?_⟩;have n0_ := As_ (Kd.R_elder' (zR_ HO764.out) (Kd.R_base ho0) hb);have n1_ := As_ (Kd.R_elder' (zR_ HO767.out) (Kd.R_base ho0) hb);have n2_ := As_ (Kd.R_elder' (zR_ HO770.out) (Kd.R_base ho0) hb);have n3_ := As_ (Kd.R_elder' (zR_ HO773.out) (Kd.R_base ho0) hb);have n4_ := As_ (Kd.R_lower (Kd.R_new' (Kd.R_new' (Kd.R_new' (Kd.R_new' ho0 (Kd.R_lt (zR_ HO764.out))) (Kd.R_lt (zR_ HO767.out))) (Kd.R_lt (zR_ HO770.out))) (Kd.R_lt (zR_ HO773.out))) (bwZ (zb0 HB.out)));have n5_ := As_ (bwT (zb0 HB.out) hb);clear HO764 HO767 HO770 HO773 HB;revert n0_ n1_ n2_ n3_ n4_ n5_;intro HO764 HO767 HO770 HO773 HO777 HB;obtain ⟨Ao25,co25,eo25⟩ := Kd.R_slice HO777.out;subst eo25)|((with_reducible refine gate_callee (f := 19) rfl ?_);refine goesL_ (some 30) rfl rfl Try.func19 (by kernel_rfl) rfl #[.slice Ao19 t768.length co19,.slice Ao25 t775.length co25] rfl zM_ ?_;(with_reducible refine (laws_eqOpS.calls k _ _ t768 _ _ t775 true _ ?side1 ?side2 ?side3 ?side4 A11.out).mono ?_);(case side1 => exact zC_ (Kd.R_reads' HO770.out).2.2);(case side2 => exact (Kd.R_reads' HO770.out).2.1);(case side3 => exact zC_ (Kd.R_reads' HO777.out).2.2);(case side4 => exact (Kd.R_reads' HO777.out).2.1);rintro e w26 ⟨rfl,hb⟩;refine ⟨_,rfl,?_⟩;have n0_ := As_ (Kd.R_below (zR_ HO764.out) hb);have n1_ := As_ (Kd.R_below (zR_ HO767.out) hb);have n2_ := As_ (Kd.R_below (zR_ HO770.out) hb);have n3_ := As_ (Kd.R_below (zR_ HO773.out) hb);have n4_ := As_ (Kd.R_below (zR_ HO777.out) hb);have n5_ := As_ (bwT (zb0 HB.out) hb);clear HO764 HO767 HO770 HO773 HO777 HB;revert n0_ n1_ n2_ n3_ n4_ n5_;intro HO764 HO767 HO770 HO773 HO777 HB)|((with_reducible refine gate_callee (f := 34) rfl ?_);refine goesL_ (some 34) rfl rfl Try.func34 (by kernel_rfl) rfl #[.slice Ao19 t768.length co19,.int .i64 1] rfl zM_ ?_;(with_reducible refine (laws_markOpS.calls k (fun k_ => some k_ = (.slice Ao19 t768.length co19 : Value).ownBlock) (.slice Ao19 t768.length co19) t768 1 t779 t780 w _ ?side1 ?side2 A13.out).mono ?_);(case side1 => exact zb0 HB.out);(case side2 => exact Kd.R_tight rfl HO770.out);rintro e w27 ⟨rfl,hy0,hb,hkp⟩;refine ⟨_,rfl,?_⟩;have n0_ := As_ (Kd.R_mono (ok' := fun k_ => some k_ ≠ (.slice Ao22 t765.length co22 : Value).ownBlock ∧ some k_ ≠ (.slice Ao19 t768.length co19 : Value).ownBlock ∧ some k_ ≠ (.slice Ao21 t771.length co21 : Value).ownBlock ∧ some k_ ≠ (.slice Ao25 t775.length co25 : Value).ownBlock) (Kd.R_keptB (HO764.out) hkp (fun k_ hk_ hs_ => (hk_.1.1.2) hs_)) (fun k_ hk_ => ⟨hk_.1.1.1.1.2,hk_.1.1.1.2,hk_.1.1.2,hk_.1.2⟩));have n1_ := As_ (Kd.R_mono (ok' := fun k_ => some k_ ≠ (.slice Ao16 t762.length co16 : Value).ownBlock ∧ some k_ ≠ (.slice Ao19 t768.length co19 : Value).ownBlock ∧ some k_ ≠ (.slice Ao21 t771.length co21 : Value).ownBlock ∧ some k_ ≠ (.slice Ao25 t775.length co25 : Value).ownBlock) (Kd.R_keptB (HO767.out) hkp (fun k_ hk_ hs_ => (hk_.1.1.2) hs_)) (fun k_ hk_ => ⟨hk_.1.1.1.1.2,hk_.1.1.1.2,hk_.1.1.2,hk_.1.2⟩));have n2_ := As_ (Kd.R_reok rfl hy0 (fun k_ e_ => HO770.out.1 k_ e_));have n3_ := As_ (Kd.R_mono (ok' := fun k_ => some k_ ≠ (.slice Ao16 t762.length co16 : Value).ownBlock ∧ some k_ ≠ (.slice Ao22 t765.length co22 : Value).ownBlock ∧ some k_ ≠ (.slice Ao19 t768.length co19 : Value).ownBlock ∧ some k_ ≠ (.slice Ao25 t775.length co25 : Value).ownBlock) (Kd.R_keptB (HO773.out) hkp (fun k_ hk_ hs_ => (hk_.1.2) hs_)) (fun k_ hk_ => ⟨hk_.1.1.1.1.2,hk_.1.1.1.2,hk_.1.1.2,hk_.1.2⟩));have n4_ := As_ (Kd.R_mono (ok' := fun k_ => some k_ ≠ (.slice Ao16 t762.length co16 : Value).ownBlock ∧ some k_ ≠ (.slice Ao22 t765.length co22 : Value).ownBlock ∧ some k_ ≠ (.slice Ao19 t768.length co19 : Value).ownBlock ∧ some k_ ≠ (.slice Ao21 t771.length co21 : Value).ownBlock) (Kd.R_keptB (HO777.out) hkp (fun k_ hk_ hs_ => (hk_.1.2) hs_)) (fun k_ hk_ => ⟨hk_.1.1.1.1.2,hk_.1.1.1.2,hk_.1.1.2,hk_.1.2⟩));have n5_ := As_ (hb);clear HO764 HO767 HO770 HO773 HO777 HB;revert n0_ n1_ n2_ n3_ n4_ n5_;intro HO764 HO767 HO770 HO773 HO777 HB))
 (try simp only [Act.put,List.setIfInBounds_toArray,List.set_cons_zero,List.set_cons_succ])
 go_cut [42] (fun v42 wc => ∃ (kq : Nat) (x42_13 : Bool),v42 = .bool x42_13 ∧ Aside0 (laws_FnExactLeanOps.j0 kq l0 t765 t771 x42_13 = some r) ∧ Aside0 (kq ≤ k) ∧ Aside0 (Kd.R k49 49 wc w.heap.size (fun k_ => some k_ ≠ ((.slice Ao21 t771.length co21) : Value).ownBlock) (.slice Ao22 t765.length co22) t765) ∧ Aside0 (Kd.R k49 49 wc w.heap.size (fun k_ => some k_ ≠ ((.slice Ao22 t765.length co22) : Value).ownBlock) (.slice Ao21 t771.length co21) t771) ∧ Aside0 (Below w.heap.size w wc))
 case first =>
  have H := HC14.out
  clear HC14
  by_cases c28 : t779 < 0
  ·rw [if_pos c28] at H
   have c28b0 : decide (t779 < 0) = true := deT c28
   clear c28
   (first|rw [c28b0]|(simp only [i64_w,i32_w];rw [c28b0])|skip)
   have H' := As_ H
   clear H
   go_wp2
   go_meet
   case rel => exact ⟨_,(true),zT_,H',⟨by first|omega|exact Nat.le_refl _⟩,⟨by (with_reducible repeat (first|apply Kd.R_alloc|apply Kd.R_drewN|apply Kd.R_drew));exact Kd.R_mono HO767.out (fun _ hk => hk.2.2.1)⟩,⟨by (with_reducible repeat (first|apply Kd.R_alloc|apply Kd.R_drewN|apply Kd.R_drew));exact Kd.R_mono HO773.out (fun _ hk => hk.2.1)⟩,⟨zb0 HB.out⟩⟩
  rw [if_neg c28] at H
  have c28b0 : decide (t779 < 0) = false := deF c28
  clear c28
  (first|rw [c28b0]|(simp only [i64_w,i32_w];rw [c28b0])|skip)
  replace H := obS H
  obtain ⟨t781,A290,H⟩ := H
  replace H : (laws_FnExactLeanOps.j0 k l0 t765 t771 (!t781)) = some r := H
  have A29 := As_ A290
  clear A290
  have H' := As_ H
  clear H
  go_wp2_with (first|(go_at_call 19;(with_reducible refine (laws_eqOpS.calls k _ _ t771 _ _ t765 t781 _ ?side1 ?side2 ?side3 ?side4 A29.out).mono ?_);(case side1 => exact zC_ (Kd.R_reads' HO773.out).2.2);(case side2 => exact (Kd.R_reads' HO773.out).2.1);(case side3 => exact zC_ (Kd.R_reads' HO767.out).2.2);(case side4 => exact (Kd.R_reads' HO767.out).2.1);rintro e w30 ⟨rfl,hb⟩;have n0_ := As_ (Kd.R_below (zR_ HO764.out) hb);have n1_ := As_ (Kd.R_below (zR_ HO767.out) hb);have n2_ := As_ (Kd.R_below (zR_ HO770.out) hb);have n3_ := As_ (Kd.R_below (zR_ HO773.out) hb);have n4_ := As_ (Kd.R_below (zR_ HO777.out) hb);have n5_ := As_ (bwT (zb0 HB.out) hb);clear HO764 HO767 HO770 HO773 HO777 HB;revert n0_ n1_ n2_ n3_ n4_ n5_;intro HO764 HO767 HO770 HO773 HO777 HB))
  go_meet
  case rel => exact ⟨_,(!t781),zT_,H',⟨by first|omega|exact Nat.le_refl _⟩,⟨by (with_reducible repeat (first|apply Kd.R_alloc|apply Kd.R_drewN|apply Kd.R_drew));exact Kd.R_mono HO767.out (fun _ hk => hk.2.2.1)⟩,⟨by (with_reducible repeat (first|apply Kd.R_alloc|apply Kd.R_drewN|apply Kd.R_drew));exact Kd.R_mono HO773.out (fun _ hk => hk.2.1)⟩,⟨zb0 HB.out⟩⟩
 case rest =>
  clear HC14
  obtain ⟨kq,x42_13,rfl,HA,HJ13,HO_4,HO_6,HB⟩ := hcut
  cases kq with
  | zero => exact absurd HA.out (fun h_ => (by cases h_))
  | succ kj13 =>
   have H := HA.out
   clear HA
   simp only [laws_FnExactLeanOps.j0] at H
   by_cases c31 : x42_13 = true
   ·subst c31
    have H1 : (some false) = some r := by rw [if_pos rfl] at H;exact H
    clear H
    have H := H1
    clear H1
    obtain rfl := Option.some.inj H
    go_wp2
    go_ret
    exact ⟨zE_,zb0 HB.out⟩
   replace c31 := Bool.eq_false_iff.mpr c31
   subst c31
   have H1 : ((laws_markOpS.f kj13 t771 1).bind fun bt782 => ((laws_heldOpS.f kj13 bt782.2 1).bind fun t784 => (if t784 < 0 then (some false) else (if t784 = bt782.1 then ((laws_toOpS.f kj13 l0).bind fun t785 => ((impl_LeanOps.f kj13 t785).bind fun t788 => ((laws_eqOpS.f kj13 t788 t765).bind fun t791 => (if t791 = true then ((laws_heldOpS.f kj13 bt782.2 1).bind fun t792 => (if t792 < 0 then (some false) else (if t792 = bt782.1 then (some true) else (some false)))) else (some false))))) else (some false))))) = some r := by rw [if_neg (show ¬ (false = true) by decide)] at H;exact H
   clear H
   have H := H1
   clear H1
   replace H := obS H
   obtain ⟨⟨t782,t783⟩,A320,H⟩ := H
   replace H : ((laws_heldOpS.f kj13 t783 1).bind fun t784 => (if t784 < 0 then (some false) else (if t784 = t782 then ((laws_toOpS.f kj13 l0).bind fun t785 => ((impl_LeanOps.f kj13 t785).bind fun t788 => ((laws_eqOpS.f kj13 t788 t765).bind fun t791 => (if t791 = true then ((laws_heldOpS.f kj13 t783 1).bind fun t792 => (if t792 < 0 then (some false) else (if t792 = t782 then (some true) else (some false)))) else (some false))))) else (some false)))) = some r := H
   have A32 := As_ A320
   clear A320
   replace H := obS H
   obtain ⟨t784,A330,H⟩ := H
   replace H : (if t784 < 0 then (some false) else (if t784 = t782 then ((laws_toOpS.f kj13 l0).bind fun t785 => ((impl_LeanOps.f kj13 t785).bind fun t788 => ((laws_eqOpS.f kj13 t788 t765).bind fun t791 => (if t791 = true then ((laws_heldOpS.f kj13 t783 1).bind fun t792 => (if t792 < 0 then (some false) else (if t792 = t782 then (some true) else (some false)))) else (some false))))) else (some false))) = some r := H
   have A33 := As_ A330
   clear A330
   by_cases c34 : t784 < 0
   ·rw [if_pos c34] at H
    have c34b0 : decide (t784 < 0) = true := deT c34
    clear c34
    obtain rfl := Option.some.inj H
    go_wp2_with (first|((with_reducible refine gate_callee (f := 34) rfl ?_);refine goesL_ (some 45) rfl rfl Try.func34 (by kernel_rfl) rfl #[.slice Ao21 t771.length co21,.int .i64 1] rfl zM_ ?_;(with_reducible refine (laws_markOpS.calls kj13 (fun k_ => some k_ = (.slice Ao21 t771.length co21 : Value).ownBlock) (.slice Ao21 t771.length co21) t771 1 t782 t783 w _ ?side1 ?side2 A32.out).mono ?_);(case side1 => exact zb0 HB.out);(case side2 => exact Kd.R_tight rfl HO_6.out);rintro e w35 ⟨rfl,hy0,hb,hkp⟩;refine ⟨_,rfl,?_⟩;have n0_ := As_ (Kd.R_mono (ok' := fun k_ => some k_ ≠ (.slice Ao21 t771.length co21 : Value).ownBlock) (Kd.R_keptB (HO_4.out) hkp (fun k_ hk_ hs_ => (hk_) hs_)) (fun k_ hk_ => hk_.1));have n1_ := As_ (Kd.R_reok rfl hy0 (fun k_ e_ => HO_6.out.1 k_ e_));have n2_ := As_ (hb);clear HO_4 HO_6 HB;revert n0_ n1_ n2_;intro HO_4 HO_6 HB)|((with_reducible refine gate_callee (f := 46) rfl ?_);refine goesL_ (some 48) rfl rfl Try.func46 (by kernel_rfl) rfl #[.slice Ao21 t783.length co21,.int .i64 1] rfl (by (try simp only [List.map_toArray,List.map_cons,List.map_nil]);first|done|(rw [show t783.length = t771.length from (Kd.R_reads' HO_6.out).1.symm] <;> rfl)|rfl|(simp only [List.length_drop,List.length_take];rfl)) ?_;(with_reducible refine (laws_heldOpS.calls kj13 _ _ t783 1 t784 _ ?side1 ?side2 A33.out).mono ?_);(case side1 => exact zC_ (Kd.R_reads' HO_6.out).2.2);(case side2 => rw [show t783.length = t771.length from (Kd.R_reads' HO_6.out).1.symm];exact (Kd.R_reads' HO_6.out).2.1);rintro e w' ⟨rfl,⟨nd,rfl⟩⟩;refine ⟨_,rfl,?_⟩))
    go_ret
    exact ⟨zE_,zb0 HB.out⟩
   rw [if_neg c34] at H
   have c34b0 : decide (t784 < 0) = false := deF c34
   clear c34
   by_cases c36 : t784 = t782
   rotate_left
   ·rw [if_neg c36] at H
    have c36b0 : (t784 == t782) = false := beq_eq_false_iff_ne.mpr c36
    have c36b1 : (t784 != t782) = true := bne_iff_ne.mpr c36
    obtain rfl := Option.some.inj H
    go_wp2_with (first|((with_reducible refine gate_callee (f := 34) rfl ?_);refine goesL_ (some 45) rfl rfl Try.func34 (by kernel_rfl) rfl #[.slice Ao21 t771.length co21,.int .i64 1] rfl zM_ ?_;(with_reducible refine (laws_markOpS.calls kj13 (fun k_ => some k_ = (.slice Ao21 t771.length co21 : Value).ownBlock) (.slice Ao21 t771.length co21) t771 1 t782 t783 w _ ?side1 ?side2 A32.out).mono ?_);(case side1 => exact zb0 HB.out);(case side2 => exact Kd.R_tight rfl HO_6.out);rintro e w68 ⟨rfl,hy0,hb,hkp⟩;refine ⟨_,rfl,?_⟩;have n0_ := As_ (Kd.R_mono (ok' := fun k_ => some k_ ≠ (.slice Ao21 t771.length co21 : Value).ownBlock) (Kd.R_keptB (HO_4.out) hkp (fun k_ hk_ hs_ => (hk_) hs_)) (fun k_ hk_ => hk_.1));have n1_ := As_ (Kd.R_reok rfl hy0 (fun k_ e_ => HO_6.out.1 k_ e_));have n2_ := As_ (hb);clear HO_4 HO_6 HB;revert n0_ n1_ n2_;intro HO_4 HO_6 HB)|((with_reducible refine gate_callee (f := 46) rfl ?_);refine goesL_ (some 48) rfl rfl Try.func46 (by kernel_rfl) rfl #[.slice Ao21 t783.length co21,.int .i64 1] rfl (by (try simp only [List.map_toArray,List.map_cons,List.map_nil]);first|done|(rw [show t783.length = t771.length from (Kd.R_reads' HO_6.out).1.symm] <;> rfl)|rfl|(simp only [List.length_drop,List.length_take];rfl)) ?_;(with_reducible refine (laws_heldOpS.calls kj13 _ _ t783 1 t784 _ ?side1 ?side2 A33.out).mono ?_);(case side1 => exact zC_ (Kd.R_reads' HO_6.out).2.2);(case side2 => rw [show t783.length = t771.length from (Kd.R_reads' HO_6.out).1.symm];exact (Kd.R_reads' HO_6.out).2.1);rintro e w' ⟨rfl,⟨nd,rfl⟩⟩;refine ⟨_,rfl,?_⟩))
    go_ret
    exact ⟨zE_,zb0 HB.out⟩
   rw [if_pos c36] at H
   have c36b0 : (t784 == t782) = true := beq_iff_eq.mpr c36
   have c36b1 : (t784 != t782) = false := bne_eq_false_iff_eq.mpr c36
   clear c36
   replace H := obS H
   obtain ⟨t785,A370,H⟩ := H
   replace H : ((impl_LeanOps.f kj13 t785).bind fun t788 => ((laws_eqOpS.f kj13 t788 t765).bind fun t791 => (if t791 = true then ((laws_heldOpS.f kj13 t783 1).bind fun t792 => (if t792 < 0 then (some false) else (if t792 = t782 then (some true) else (some false)))) else (some false)))) = some r := H
   have A37 := As_ A370
   clear A370
   replace H := obS H
   obtain ⟨t788,A380,H⟩ := H
   replace H : ((laws_eqOpS.f kj13 t788 t765).bind fun t791 => (if t791 = true then ((laws_heldOpS.f kj13 t783 1).bind fun t792 => (if t792 < 0 then (some false) else (if t792 = t782 then (some true) else (some false)))) else (some false))) = some r := H
   have A38 := As_ A380
   clear A380
   replace H := obS H
   obtain ⟨t791,A390,H⟩ := H
   replace H : (if t791 = true then ((laws_heldOpS.f kj13 t783 1).bind fun t792 => (if t792 < 0 then (some false) else (if t792 = t782 then (some true) else (some false)))) else (some false)) = some r := H
   have A39 := As_ A390
   clear A390
   by_cases c40 : t791 = true
   rotate_left
   ·replace c40 := Bool.eq_false_iff.mpr c40
    subst c40
    have H1 : (some false) = some r := by rw [if_neg (show ¬ (false = true) by decide)] at H;exact H
    clear H
    have H := H1
    clear H1
    obtain rfl := Option.some.inj H
    go_wp2_with (first|((with_reducible refine gate_callee (f := 34) rfl ?_);refine goesL_ (some 45) rfl rfl Try.func34 (by kernel_rfl) rfl #[.slice Ao21 t771.length co21,.int .i64 1] rfl zM_ ?_;(with_reducible refine (laws_markOpS.calls kj13 (fun k_ => some k_ = (.slice Ao21 t771.length co21 : Value).ownBlock) (.slice Ao21 t771.length co21) t771 1 t782 t783 w _ ?side1 ?side2 A32.out).mono ?_);(case side1 => exact zb0 HB.out);(case side2 => exact Kd.R_tight rfl HO_6.out);rintro e w62 ⟨rfl,hy0,hb,hkp⟩;refine ⟨_,rfl,?_⟩;have n0_ := As_ (Kd.R_mono (ok' := fun k_ => some k_ ≠ (.slice Ao21 t771.length co21 : Value).ownBlock) (Kd.R_keptB (HO_4.out) hkp (fun k_ hk_ hs_ => (hk_) hs_)) (fun k_ hk_ => hk_.1));have n1_ := As_ (Kd.R_reok rfl hy0 (fun k_ e_ => HO_6.out.1 k_ e_));have n2_ := As_ (hb);clear HO_4 HO_6 HB;revert n0_ n1_ n2_;intro HO_4 HO_6 HB)|((with_reducible refine gate_callee (f := 46) rfl ?_);refine goesL_ (some 48) rfl rfl Try.func46 (by kernel_rfl) rfl #[.slice Ao21 t783.length co21,.int .i64 1] rfl (by (try simp only [List.map_toArray,List.map_cons,List.map_nil]);first|done|(rw [show t783.length = t771.length from (Kd.R_reads' HO_6.out).1.symm] <;> rfl)|rfl|(simp only [List.length_drop,List.length_take];rfl)) ?_;(with_reducible refine (laws_heldOpS.calls kj13 _ _ t783 1 t784 _ ?side1 ?side2 A33.out).mono ?_);(case side1 => exact zC_ (Kd.R_reads' HO_6.out).2.2);(case side2 => rw [show t783.length = t771.length from (Kd.R_reads' HO_6.out).1.symm];exact (Kd.R_reads' HO_6.out).2.1);rintro e w' ⟨rfl,⟨nd,rfl⟩⟩;refine ⟨_,rfl,?_⟩)|((with_reducible refine gate_callee (f := 17) rfl ?_);refine goesL_ (some 55) rfl rfl Try.func17 (by kernel_rfl) rfl #[.slice A0 l0.length c0] rfl zM_ ?_;(with_reducible refine (laws_toOpS.calls kj13 _ _ l0 t785 _ ?side1 ?side2 A37.out).mono ?_);(case side1 => repeat (first|exact (Kd.C_below HR0.out (zb0 HB.out))|(with_reducible refine Kd.C_alloc ?_ _)|(with_reducible refine Kd.C_drewN ?_ _)|(with_reducible refine Kd.C_drew ?_)));(case side2 => exact HC0.out);rintro e w63 ⟨v786,rfl,ho0,hb⟩;refine ⟨_,rfl,?_⟩;have n0_ := As_ (Kd.R_elder' (zR_ HO_4.out) (Kd.R_base ho0) hb);have n1_ := As_ (Kd.R_elder' (zR_ HO_6.out) (Kd.R_base ho0) hb);have n2_ := As_ (Kd.R_lower (Kd.R_new' (Kd.R_new' ho0 (Kd.R_lt (zR_ HO_4.out))) (Kd.R_lt (zR_ HO_6.out))) (bwZ (zb0 HB.out)));have n3_ := As_ (bwT (zb0 HB.out) hb);clear HO_4 HO_6 HB;revert n0_ n1_ n2_ n3_;intro HO_4 HO_6 HO787 HB;obtain ⟨Ao64,co64,eo64⟩ := Kd.R_slice HO787.out;subst eo64)|((with_reducible refine gate_callee (f := 50) rfl ?_);refine goesL_ (some 56) rfl rfl Try.func50 (by kernel_rfl) rfl #[.slice Ao64 t785.length co64] rfl zM_ ?_;(with_reducible refine (impl_LeanOps.calls kj13 _ _ t785 t788 _ ?side1 ?side2 A38.out).mono ?_);(case side1 => exact zC_ (Kd.R_reads' HO787.out).2.2);(case side2 => exact (Kd.R_reads' HO787.out).2.1);rintro e w65 ⟨v789,rfl,ho0,hb⟩;refine ⟨_,rfl,?_⟩;have n0_ := As_ (Kd.R_elder' (zR_ HO_4.out) (Kd.R_base ho0) hb);have n1_ := As_ (Kd.R_elder' (zR_ HO_6.out) (Kd.R_base ho0) hb);have n2_ := As_ (Kd.R_elder' (zR_ HO787.out) (Kd.R_base ho0) hb);have n3_ := As_ (Kd.R_lower (Kd.R_new' (Kd.R_new' (Kd.R_new' ho0 (Kd.R_lt (zR_ HO_4.out))) (Kd.R_lt (zR_ HO_6.out))) (Kd.R_lt (zR_ HO787.out))) (bwZ (zb0 HB.out)));have n4_ := As_ (bwT (zb0 HB.out) hb);clear HO_4 HO_6 HO787 HB;revert n0_ n1_ n2_ n3_ n4_;intro HO_4 HO_6 HO787 HO790 HB;obtain ⟨Ao66,co66,eo66⟩ := Kd.R_slice HO790.out;subst eo66)|((with_reducible refine gate_callee (f := 19) rfl ?_);refine goesL_ (some 59) rfl rfl Try.func19 (by kernel_rfl) rfl #[.slice Ao66 t788.length co66,.slice Ao22 t765.length co22] rfl zM_ ?_;(with_reducible refine (laws_eqOpS.calls kj13 _ _ t788 _ _ t765 false _ ?side1 ?side2 ?side3 ?side4 A39.out).mono ?_);(case side1 => exact zC_ (Kd.R_reads' HO790.out).2.2);(case side2 => exact (Kd.R_reads' HO790.out).2.1);(case side3 => exact zC_ (Kd.R_reads' HO_4.out).2.2);(case side4 => exact (Kd.R_reads' HO_4.out).2.1);rintro e w67 ⟨rfl,hb⟩;refine ⟨_,rfl,?_⟩;have n0_ := As_ (Kd.R_below (zR_ HO_4.out) hb);have n1_ := As_ (Kd.R_below (zR_ HO_6.out) hb);have n2_ := As_ (Kd.R_below (zR_ HO787.out) hb);have n3_ := As_ (Kd.R_below (zR_ HO790.out) hb);have n4_ := As_ (bwT (zb0 HB.out) hb);clear HO_4 HO_6 HO787 HO790 HB;revert n0_ n1_ n2_ n3_ n4_;intro HO_4 HO_6 HO787 HO790 HB))
    go_ret
    exact ⟨zE_,zb0 HB.out⟩
   subst c40
   have H1 : ((laws_heldOpS.f kj13 t783 1).bind fun t792 => (if t792 < 0 then (some false) else (if t792 = t782 then (some true) else (some false)))) = some r := by rw [if_pos rfl] at H;exact H
   clear H
   have H := H1
   clear H1
   replace H := obS H
   obtain ⟨t792,A410,H⟩ := H
   replace H : (if t792 < 0 then (some false) else (if t792 = t782 then (some true) else (some false))) = some r := H
   have A41 := As_ A410
   clear A410
   by_cases c42 : t792 < 0
   ·rw [if_pos c42] at H
    have c42b0 : decide (t792 < 0) = true := deT c42
    clear c42
    obtain rfl := Option.some.inj H
    go_wp2_with (first|((with_reducible refine gate_callee (f := 34) rfl ?_);refine goesL_ (some 45) rfl rfl Try.func34 (by kernel_rfl) rfl #[.slice Ao21 t771.length co21,.int .i64 1] rfl zM_ ?_;(with_reducible refine (laws_markOpS.calls kj13 (fun k_ => some k_ = (.slice Ao21 t771.length co21 : Value).ownBlock) (.slice Ao21 t771.length co21) t771 1 t782 t783 w _ ?side1 ?side2 A32.out).mono ?_);(case side1 => exact zb0 HB.out);(case side2 => exact Kd.R_tight rfl HO_6.out);rintro e w43 ⟨rfl,hy0,hb,hkp⟩;refine ⟨_,rfl,?_⟩;have n0_ := As_ (Kd.R_mono (ok' := fun k_ => some k_ ≠ (.slice Ao21 t771.length co21 : Value).ownBlock) (Kd.R_keptB (HO_4.out) hkp (fun k_ hk_ hs_ => (hk_) hs_)) (fun k_ hk_ => hk_.1));have n1_ := As_ (Kd.R_reok rfl hy0 (fun k_ e_ => HO_6.out.1 k_ e_));have n2_ := As_ (hb);clear HO_4 HO_6 HB;revert n0_ n1_ n2_;intro HO_4 HO_6 HB)|((with_reducible refine gate_callee (f := 46) rfl ?_);refine goesL_ (some 48) rfl rfl Try.func46 (by kernel_rfl) rfl #[.slice Ao21 t783.length co21,.int .i64 1] rfl (by (try simp only [List.map_toArray,List.map_cons,List.map_nil]);first|done|(rw [show t783.length = t771.length from (Kd.R_reads' HO_6.out).1.symm] <;> rfl)|rfl|(simp only [List.length_drop,List.length_take];rfl)) ?_;(with_reducible refine (laws_heldOpS.calls kj13 _ _ t783 1 t784 _ ?side1 ?side2 A33.out).mono ?_);(case side1 => exact zC_ (Kd.R_reads' HO_6.out).2.2);(case side2 => rw [show t783.length = t771.length from (Kd.R_reads' HO_6.out).1.symm];exact (Kd.R_reads' HO_6.out).2.1);rintro e w' ⟨rfl,⟨nd,rfl⟩⟩;refine ⟨_,rfl,?_⟩)|((with_reducible refine gate_callee (f := 17) rfl ?_);refine goesL_ (some 55) rfl rfl Try.func17 (by kernel_rfl) rfl #[.slice A0 l0.length c0] rfl zM_ ?_;(with_reducible refine (laws_toOpS.calls kj13 _ _ l0 t785 _ ?side1 ?side2 A37.out).mono ?_);(case side1 => repeat (first|exact (Kd.C_below HR0.out (zb0 HB.out))|(with_reducible refine Kd.C_alloc ?_ _)|(with_reducible refine Kd.C_drewN ?_ _)|(with_reducible refine Kd.C_drew ?_)));(case side2 => exact HC0.out);rintro e w44 ⟨v786,rfl,ho0,hb⟩;refine ⟨_,rfl,?_⟩;have n0_ := As_ (Kd.R_elder' (zR_ HO_4.out) (Kd.R_base ho0) hb);have n1_ := As_ (Kd.R_elder' (zR_ HO_6.out) (Kd.R_base ho0) hb);have n2_ := As_ (Kd.R_lower (Kd.R_new' (Kd.R_new' ho0 (Kd.R_lt (zR_ HO_4.out))) (Kd.R_lt (zR_ HO_6.out))) (bwZ (zb0 HB.out)));have n3_ := As_ (bwT (zb0 HB.out) hb);clear HO_4 HO_6 HB;revert n0_ n1_ n2_ n3_;intro HO_4 HO_6 HO787 HB;obtain ⟨Ao45,co45,eo45⟩ := Kd.R_slice HO787.out;subst eo45)|((with_reducible refine gate_callee (f := 50) rfl ?_);refine goesL_ (some 56) rfl rfl Try.func50 (by kernel_rfl) rfl #[.slice Ao45 t785.length co45] rfl zM_ ?_;(with_reducible refine (impl_LeanOps.calls kj13 _ _ t785 t788 _ ?side1 ?side2 A38.out).mono ?_);(case side1 => exact zC_ (Kd.R_reads' HO787.out).2.2);(case side2 => exact (Kd.R_reads' HO787.out).2.1);rintro e w46 ⟨v789,rfl,ho0,hb⟩;refine ⟨_,rfl,?_⟩;have n0_ := As_ (Kd.R_elder' (zR_ HO_4.out) (Kd.R_base ho0) hb);have n1_ := As_ (Kd.R_elder' (zR_ HO_6.out) (Kd.R_base ho0) hb);have n2_ := As_ (Kd.R_elder' (zR_ HO787.out) (Kd.R_base ho0) hb);have n3_ := As_ (Kd.R_lower (Kd.R_new' (Kd.R_new' (Kd.R_new' ho0 (Kd.R_lt (zR_ HO_4.out))) (Kd.R_lt (zR_ HO_6.out))) (Kd.R_lt (zR_ HO787.out))) (bwZ (zb0 HB.out)));have n4_ := As_ (bwT (zb0 HB.out) hb);clear HO_4 HO_6 HO787 HB;revert n0_ n1_ n2_ n3_ n4_;intro HO_4 HO_6 HO787 HO790 HB;obtain ⟨Ao47,co47,eo47⟩ := Kd.R_slice HO790.out;subst eo47)|((with_reducible refine gate_callee (f := 19) rfl ?_);refine goesL_ (some 59) rfl rfl Try.func19 (by kernel_rfl) rfl #[.slice Ao47 t788.length co47,.slice Ao22 t765.length co22] rfl zM_ ?_;(with_reducible refine (laws_eqOpS.calls kj13 _ _ t788 _ _ t765 true _ ?side1 ?side2 ?side3 ?side4 A39.out).mono ?_);(case side1 => exact zC_ (Kd.R_reads' HO790.out).2.2);(case side2 => exact (Kd.R_reads' HO790.out).2.1);(case side3 => exact zC_ (Kd.R_reads' HO_4.out).2.2);(case side4 => exact (Kd.R_reads' HO_4.out).2.1);rintro e w48 ⟨rfl,hb⟩;refine ⟨_,rfl,?_⟩;have n0_ := As_ (Kd.R_below (zR_ HO_4.out) hb);have n1_ := As_ (Kd.R_below (zR_ HO_6.out) hb);have n2_ := As_ (Kd.R_below (zR_ HO787.out) hb);have n3_ := As_ (Kd.R_below (zR_ HO790.out) hb);have n4_ := As_ (bwT (zb0 HB.out) hb);clear HO_4 HO_6 HO787 HO790 HB;revert n0_ n1_ n2_ n3_ n4_;intro HO_4 HO_6 HO787 HO790 HB)|((with_reducible refine gate_callee (f := 46) rfl ?_);refine goesL_ (some 63) rfl rfl Try.func46 (by kernel_rfl) rfl #[.slice Ao21 t783.length co21,.int .i64 1] rfl (by (try simp only [List.map_toArray,List.map_cons,List.map_nil]);first|done|(rw [show t783.length = t771.length from (Kd.R_reads' HO_6.out).1.symm] <;> rfl)|rfl|(simp only [List.length_drop,List.length_take];rfl)) ?_;(with_reducible refine (laws_heldOpS.calls kj13 _ _ t783 1 t792 _ ?side1 ?side2 A41.out).mono ?_);(case side1 => exact zC_ (Kd.R_reads' HO_6.out).2.2);(case side2 => rw [show t783.length = t771.length from (Kd.R_reads' HO_6.out).1.symm];exact (Kd.R_reads' HO_6.out).2.1);rintro e w' ⟨rfl,⟨nd,rfl⟩⟩;refine ⟨_,rfl,?_⟩))
    go_ret
    exact ⟨zE_,zb0 HB.out⟩
   rw [if_neg c42] at H
   have c42b0 : decide (t792 < 0) = false := deF c42
   clear c42
   by_cases c49 : t792 = t782
   rotate_left
   ·rw [if_neg c49] at H
    have c49b0 : (t792 == t782) = false := beq_eq_false_iff_ne.mpr c49
    have c49b1 : (t792 != t782) = true := bne_iff_ne.mpr c49
    obtain rfl := Option.some.inj H
    go_wp2_with (first|((with_reducible refine gate_callee (f := 34) rfl ?_);refine goesL_ (some 45) rfl rfl Try.func34 (by kernel_rfl) rfl #[.slice Ao21 t771.length co21,.int .i64 1] rfl zM_ ?_;(with_reducible refine (laws_markOpS.calls kj13 (fun k_ => some k_ = (.slice Ao21 t771.length co21 : Value).ownBlock) (.slice Ao21 t771.length co21) t771 1 t782 t783 w _ ?side1 ?side2 A32.out).mono ?_);(case side1 => exact zb0 HB.out);(case side2 => exact Kd.R_tight rfl HO_6.out);rintro e w56 ⟨rfl,hy0,hb,hkp⟩;refine ⟨_,rfl,?_⟩;have n0_ := As_ (Kd.R_mono (ok' := fun k_ => some k_ ≠ (.slice Ao21 t771.length co21 : Value).ownBlock) (Kd.R_keptB (HO_4.out) hkp (fun k_ hk_ hs_ => (hk_) hs_)) (fun k_ hk_ => hk_.1));have n1_ := As_ (Kd.R_reok rfl hy0 (fun k_ e_ => HO_6.out.1 k_ e_));have n2_ := As_ (hb);clear HO_4 HO_6 HB;revert n0_ n1_ n2_;intro HO_4 HO_6 HB)|((with_reducible refine gate_callee (f := 46) rfl ?_);refine goesL_ (some 48) rfl rfl Try.func46 (by kernel_rfl) rfl #[.slice Ao21 t783.length co21,.int .i64 1] rfl (by (try simp only [List.map_toArray,List.map_cons,List.map_nil]);first|done|(rw [show t783.length = t771.length from (Kd.R_reads' HO_6.out).1.symm] <;> rfl)|rfl|(simp only [List.length_drop,List.length_take];rfl)) ?_;(with_reducible refine (laws_heldOpS.calls kj13 _ _ t783 1 t784 _ ?side1 ?side2 A33.out).mono ?_);(case side1 => exact zC_ (Kd.R_reads' HO_6.out).2.2);(case side2 => rw [show t783.length = t771.length from (Kd.R_reads' HO_6.out).1.symm];exact (Kd.R_reads' HO_6.out).2.1);rintro e w' ⟨rfl,⟨nd,rfl⟩⟩;refine ⟨_,rfl,?_⟩)|((with_reducible refine gate_callee (f := 17) rfl ?_);refine goesL_ (some 55) rfl rfl Try.func17 (by kernel_rfl) rfl #[.slice A0 l0.length c0] rfl zM_ ?_;(with_reducible refine (laws_toOpS.calls kj13 _ _ l0 t785 _ ?side1 ?side2 A37.out).mono ?_);(case side1 => repeat (first|exact (Kd.C_below HR0.out (zb0 HB.out))|(with_reducible refine Kd.C_alloc ?_ _)|(with_reducible refine Kd.C_drewN ?_ _)|(with_reducible refine Kd.C_drew ?_)));(case side2 => exact HC0.out);rintro e w57 ⟨v786,rfl,ho0,hb⟩;refine ⟨_,rfl,?_⟩;have n0_ := As_ (Kd.R_elder' (zR_ HO_4.out) (Kd.R_base ho0) hb);have n1_ := As_ (Kd.R_elder' (zR_ HO_6.out) (Kd.R_base ho0) hb);have n2_ := As_ (Kd.R_lower (Kd.R_new' (Kd.R_new' ho0 (Kd.R_lt (zR_ HO_4.out))) (Kd.R_lt (zR_ HO_6.out))) (bwZ (zb0 HB.out)));have n3_ := As_ (bwT (zb0 HB.out) hb);clear HO_4 HO_6 HB;revert n0_ n1_ n2_ n3_;intro HO_4 HO_6 HO787 HB;obtain ⟨Ao58,co58,eo58⟩ := Kd.R_slice HO787.out;subst eo58)|((with_reducible refine gate_callee (f := 50) rfl ?_);refine goesL_ (some 56) rfl rfl Try.func50 (by kernel_rfl) rfl #[.slice Ao58 t785.length co58] rfl zM_ ?_;(with_reducible refine (impl_LeanOps.calls kj13 _ _ t785 t788 _ ?side1 ?side2 A38.out).mono ?_);(case side1 => exact zC_ (Kd.R_reads' HO787.out).2.2);(case side2 => exact (Kd.R_reads' HO787.out).2.1);rintro e w59 ⟨v789,rfl,ho0,hb⟩;refine ⟨_,rfl,?_⟩;have n0_ := As_ (Kd.R_elder' (zR_ HO_4.out) (Kd.R_base ho0) hb);have n1_ := As_ (Kd.R_elder' (zR_ HO_6.out) (Kd.R_base ho0) hb);have n2_ := As_ (Kd.R_elder' (zR_ HO787.out) (Kd.R_base ho0) hb);have n3_ := As_ (Kd.R_lower (Kd.R_new' (Kd.R_new' (Kd.R_new' ho0 (Kd.R_lt (zR_ HO_4.out))) (Kd.R_lt (zR_ HO_6.out))) (Kd.R_lt (zR_ HO787.out))) (bwZ (zb0 HB.out)));have n4_ := As_ (bwT (zb0 HB.out) hb);clear HO_4 HO_6 HO787 HB;revert n0_ n1_ n2_ n3_ n4_;intro HO_4 HO_6 HO787 HO790 HB;obtain ⟨Ao60,co60,eo60⟩ := Kd.R_slice HO790.out;subst eo60)|((with_reducible refine gate_callee (f := 19) rfl ?_);refine goesL_ (some 59) rfl rfl Try.func19 (by kernel_rfl) rfl #[.slice Ao60 t788.length co60,.slice Ao22 t765.length co22] rfl zM_ ?_;(with_reducible refine (laws_eqOpS.calls kj13 _ _ t788 _ _ t765 true _ ?side1 ?side2 ?side3 ?side4 A39.out).mono ?_);(case side1 => exact zC_ (Kd.R_reads' HO790.out).2.2);(case side2 => exact (Kd.R_reads' HO790.out).2.1);(case side3 => exact zC_ (Kd.R_reads' HO_4.out).2.2);(case side4 => exact (Kd.R_reads' HO_4.out).2.1);rintro e w61 ⟨rfl,hb⟩;refine ⟨_,rfl,?_⟩;have n0_ := As_ (Kd.R_below (zR_ HO_4.out) hb);have n1_ := As_ (Kd.R_below (zR_ HO_6.out) hb);have n2_ := As_ (Kd.R_below (zR_ HO787.out) hb);have n3_ := As_ (Kd.R_below (zR_ HO790.out) hb);have n4_ := As_ (bwT (zb0 HB.out) hb);clear HO_4 HO_6 HO787 HO790 HB;revert n0_ n1_ n2_ n3_ n4_;intro HO_4 HO_6 HO787 HO790 HB)|((with_reducible refine gate_callee (f := 46) rfl ?_);refine goesL_ (some 63) rfl rfl Try.func46 (by kernel_rfl) rfl #[.slice Ao21 t783.length co21,.int .i64 1] rfl (by (try simp only [List.map_toArray,List.map_cons,List.map_nil]);first|done|(rw [show t783.length = t771.length from (Kd.R_reads' HO_6.out).1.symm] <;> rfl)|rfl|(simp only [List.length_drop,List.length_take];rfl)) ?_;(with_reducible refine (laws_heldOpS.calls kj13 _ _ t783 1 t792 _ ?side1 ?side2 A41.out).mono ?_);(case side1 => exact zC_ (Kd.R_reads' HO_6.out).2.2);(case side2 => rw [show t783.length = t771.length from (Kd.R_reads' HO_6.out).1.symm];exact (Kd.R_reads' HO_6.out).2.1);rintro e w' ⟨rfl,⟨nd,rfl⟩⟩;refine ⟨_,rfl,?_⟩))
    go_ret
    exact ⟨zE_,zb0 HB.out⟩
   rw [if_pos c49] at H
   have c49b0 : (t792 == t782) = true := beq_iff_eq.mpr c49
   have c49b1 : (t792 != t782) = false := bne_eq_false_iff_eq.mpr c49
   clear c49
   obtain rfl := Option.some.inj H
   go_wp2_with (first|((with_reducible refine gate_callee (f := 34) rfl ?_);refine goesL_ (some 45) rfl rfl Try.func34 (by kernel_rfl) rfl #[.slice Ao21 t771.length co21,.int .i64 1] rfl zM_ ?_;(with_reducible refine (laws_markOpS.calls kj13 (fun k_ => some k_ = (.slice Ao21 t771.length co21 : Value).ownBlock) (.slice Ao21 t771.length co21) t771 1 t782 t783 w _ ?side1 ?side2 A32.out).mono ?_);(case side1 => exact zb0 HB.out);(case side2 => exact Kd.R_tight rfl HO_6.out);rintro e w50 ⟨rfl,hy0,hb,hkp⟩;refine ⟨_,rfl,?_⟩;have n0_ := As_ (Kd.R_mono (ok' := fun k_ => some k_ ≠ (.slice Ao21 t771.length co21 : Value).ownBlock) (Kd.R_keptB (HO_4.out) hkp (fun k_ hk_ hs_ => (hk_) hs_)) (fun k_ hk_ => hk_.1));have n1_ := As_ (Kd.R_reok rfl hy0 (fun k_ e_ => HO_6.out.1 k_ e_));have n2_ := As_ (hb);clear HO_4 HO_6 HB;revert n0_ n1_ n2_;intro HO_4 HO_6 HB)|((with_reducible refine gate_callee (f := 46) rfl ?_);refine goesL_ (some 48) rfl rfl Try.func46 (by kernel_rfl) rfl #[.slice Ao21 t783.length co21,.int .i64 1] rfl (by (try simp only [List.map_toArray,List.map_cons,List.map_nil]);first|done|(rw [show t783.length = t771.length from (Kd.R_reads' HO_6.out).1.symm] <;> rfl)|rfl|(simp only [List.length_drop,List.length_take];rfl)) ?_;(with_reducible refine (laws_heldOpS.calls kj13 _ _ t783 1 t784 _ ?side1 ?side2 A33.out).mono ?_);(case side1 => exact zC_ (Kd.R_reads' HO_6.out).2.2);(case side2 => rw [show t783.length = t771.length from (Kd.R_reads' HO_6.out).1.symm];exact (Kd.R_reads' HO_6.out).2.1);rintro e w' ⟨rfl,⟨nd,rfl⟩⟩;refine ⟨_,rfl,?_⟩)|((with_reducible refine gate_callee (f := 17) rfl ?_);refine goesL_ (some 55) rfl rfl Try.func17 (by kernel_rfl) rfl #[.slice A0 l0.length c0] rfl zM_ ?_;(with_reducible refine (laws_toOpS.calls kj13 _ _ l0 t785 _ ?side1 ?side2 A37.out).mono ?_);(case side1 => repeat (first|exact (Kd.C_below HR0.out (zb0 HB.out))|(with_reducible refine Kd.C_alloc ?_ _)|(with_reducible refine Kd.C_drewN ?_ _)|(with_reducible refine Kd.C_drew ?_)));(case side2 => exact HC0.out);rintro e w51 ⟨v786,rfl,ho0,hb⟩;refine ⟨_,rfl,?_⟩;have n0_ := As_ (Kd.R_elder' (zR_ HO_4.out) (Kd.R_base ho0) hb);have n1_ := As_ (Kd.R_elder' (zR_ HO_6.out) (Kd.R_base ho0) hb);have n2_ := As_ (Kd.R_lower (Kd.R_new' (Kd.R_new' ho0 (Kd.R_lt (zR_ HO_4.out))) (Kd.R_lt (zR_ HO_6.out))) (bwZ (zb0 HB.out)));have n3_ := As_ (bwT (zb0 HB.out) hb);clear HO_4 HO_6 HB;revert n0_ n1_ n2_ n3_;intro HO_4 HO_6 HO787 HB;obtain ⟨Ao52,co52,eo52⟩ := Kd.R_slice HO787.out;subst eo52)|((with_reducible refine gate_callee (f := 50) rfl ?_);refine goesL_ (some 56) rfl rfl Try.func50 (by kernel_rfl) rfl #[.slice Ao52 t785.length co52] rfl zM_ ?_;(with_reducible refine (impl_LeanOps.calls kj13 _ _ t785 t788 _ ?side1 ?side2 A38.out).mono ?_);(case side1 => exact zC_ (Kd.R_reads' HO787.out).2.2);(case side2 => exact (Kd.R_reads' HO787.out).2.1);rintro e w53 ⟨v789,rfl,ho0,hb⟩;refine ⟨_,rfl,?_⟩;have n0_ := As_ (Kd.R_elder' (zR_ HO_4.out) (Kd.R_base ho0) hb);have n1_ := As_ (Kd.R_elder' (zR_ HO_6.out) (Kd.R_base ho0) hb);have n2_ := As_ (Kd.R_elder' (zR_ HO787.out) (Kd.R_base ho0) hb);have n3_ := As_ (Kd.R_lower (Kd.R_new' (Kd.R_new' (Kd.R_new' ho0 (Kd.R_lt (zR_ HO_4.out))) (Kd.R_lt (zR_ HO_6.out))) (Kd.R_lt (zR_ HO787.out))) (bwZ (zb0 HB.out)));have n4_ := As_ (bwT (zb0 HB.out) hb);clear HO_4 HO_6 HO787 HB;revert n0_ n1_ n2_ n3_ n4_;intro HO_4 HO_6 HO787 HO790 HB;obtain ⟨Ao54,co54,eo54⟩ := Kd.R_slice HO790.out;subst eo54)|((with_reducible refine gate_callee (f := 19) rfl ?_);refine goesL_ (some 59) rfl rfl Try.func19 (by kernel_rfl) rfl #[.slice Ao54 t788.length co54,.slice Ao22 t765.length co22] rfl zM_ ?_;(with_reducible refine (laws_eqOpS.calls kj13 _ _ t788 _ _ t765 true _ ?side1 ?side2 ?side3 ?side4 A39.out).mono ?_);(case side1 => exact zC_ (Kd.R_reads' HO790.out).2.2);(case side2 => exact (Kd.R_reads' HO790.out).2.1);(case side3 => exact zC_ (Kd.R_reads' HO_4.out).2.2);(case side4 => exact (Kd.R_reads' HO_4.out).2.1);rintro e w55 ⟨rfl,hb⟩;refine ⟨_,rfl,?_⟩;have n0_ := As_ (Kd.R_below (zR_ HO_4.out) hb);have n1_ := As_ (Kd.R_below (zR_ HO_6.out) hb);have n2_ := As_ (Kd.R_below (zR_ HO787.out) hb);have n3_ := As_ (Kd.R_below (zR_ HO790.out) hb);have n4_ := As_ (bwT (zb0 HB.out) hb);clear HO_4 HO_6 HO787 HO790 HB;revert n0_ n1_ n2_ n3_ n4_;intro HO_4 HO_6 HO787 HO790 HB)|((with_reducible refine gate_callee (f := 46) rfl ?_);refine goesL_ (some 63) rfl rfl Try.func46 (by kernel_rfl) rfl #[.slice Ao21 t783.length co21,.int .i64 1] rfl (by (try simp only [List.map_toArray,List.map_cons,List.map_nil]);first|done|(rw [show t783.length = t771.length from (Kd.R_reads' HO_6.out).1.symm] <;> rfl)|rfl|(simp only [List.length_drop,List.length_take];rfl)) ?_;(with_reducible refine (laws_heldOpS.calls kj13 _ _ t783 1 t792 _ ?side1 ?side2 A41.out).mono ?_);(case side1 => exact zC_ (Kd.R_reads' HO_6.out).2.2);(case side2 => rw [show t783.length = t771.length from (Kd.R_reads' HO_6.out).1.symm];exact (Kd.R_reads' HO_6.out).2.1);rintro e w' ⟨rfl,⟨nd,rfl⟩⟩;refine ⟨_,rfl,?_⟩))
   go_ret
   exact ⟨zE_,zb0 HB.out⟩
/-- THE ONE PURE STATEMENT of laws_FnExactLeanOps. -/
def laws_FnExactLeanOps.Pure : Prop := ∀ (l0 : List (S51)),(l0.length ≤ maxLen ∧ (∀ x_ ∈ l0,(Lit.int .i64 x_.f0).wf = true ∧ (Lit.int .i64 x_.f1).wf = true)) → ∃ k,laws_FnExactLeanOps.f k l0 = some true
theorem laws_FnExactLeanOps.walk (P : laws_FnExactLeanOps.Pure) (A0 : Option Addr) (c0 : Nat) (l0 : List (S51)) (w : World) (hr0 : Kd.C k51 w A0 l0.length l0) (hc0 : l0.length ≤ c0) (hg0 : l0.length ≤ maxLen ∧ (∀ x_ ∈ l0,(Lit.int .i64 x_.f0).wf = true ∧ (Lit.int .i64 x_.f1).wf = true)) :
  Calls Try.prog 14 #[.slice A0 l0.length c0] w fun e w' => e = .returned (.bool true) ∧ Below w.heap.size w w' := by
 obtain ⟨k,h⟩ := P l0 hg0
 refine (laws_FnExactLeanOps.calls k _ _ l0 true w hr0 hc0 h).mono ?_
 rintro e w' ⟨rfl,hd⟩
 exact ⟨rfl,hd⟩

end Go.Proofs.Ytonppkaobnfldaa.Q
