-- Written by wip/tools/qprint.py (a program of this claim's author) by means of the kit's printer.
import Derived.Test.YtonppkaobnfldaaQ0
import Derived.Test.YtonppkaobnfldaaQ15
import Derived.Test.YtonppkaobnfldaaQ34
import Derived.Test.YtonppkaobnfldaaQ37
import Derived.Test.YtonppkaobnfldaaQ39
import Derived.Test.YtonppkaobnfldaaQ77
namespace Go.Proofs.Ytonppkaobnfldaa.Q
open Go.RowKit Go.Proofs.YtonppkaobnfldaaW.PrintWords Go.Proofs.YtonppkaobnfldaaW.PrintLast Go.Proofs.YtonppkaobnfldaaW.PrintMore
attribute [local go_sem] max2_int min2_int max_two min_two max_three min_three max_four min_four   -- for this text's walks alone
set_option linter.unusedVariables false
set_option linter.unusedSimpArgs false

/-! ### laws_FnExactSplitStops: function 10 -/
def laws_FnExactSplitStops.j0 : Nat → List (S51) → List (List (S49)) → List (List (S49)) → Bool → Option (Bool)
 | 0,_,_,_,_ => none
 | k + 1,x0,x4,x6,x42 => if x42 = true then (none) else ((laws_markOpSS.f k x6 1).bind fun bt482 => ((laws_heldOpSS.f k bt482.2 1).bind fun t483 => (if t483 < 0 then (none) else (if t483 = bt482.1 then ((laws_toOpS.f k x0).bind fun t484 => ((impl_SplitStops.f k t484).bind fun t487 => ((laws_eqOpSS.f k t487 x4).bind fun t490 => (if t490 = true then ((laws_heldOpSS.f k bt482.2 1).bind fun t491 => (if t491 < 0 then (none) else (if t491 = bt482.1 then (some true) else (none)))) else (none))))) else (none)))))
def laws_FnExactSplitStops.f (k : Nat) (l0 : List (S51)) : Option (Bool) := (laws_szOpS.f l0 1048576).bind fun t461 => (if t461 < 0 then (some true) else ((laws_toOpS.f k l0).bind fun t462 => ((spec_SplitStops.f k t462).bind fun t465 => ((laws_toOpS.f k l0).bind fun t468 => ((impl_SplitStops.f k t468).bind fun t471 => ((laws_eqOpSS.f k t471 t465).bind fun t474 => (if t474 = true then ((laws_toOpS.f k l0).bind fun t475 => ((laws_eqOpS.f k t468 t475).bind fun t478 => (if t478 = true then ((laws_markOpS.f k t468 1).bind fun bt479 => (if bt479.1 < 0 then (laws_FnExactSplitStops.j0 k l0 t465 t471 true) else ((laws_eqOpSS.f k t471 t465).bind fun t481 => (laws_FnExactSplitStops.j0 k l0 t465 t471 (!t481))))) else (none)))) else (none))))))))
/-- What is held,by a row whose length is told by another word. -/
theorem laws_FnExactSplitStops.heldL (k : Nat) (A0 : Option Addr) (c0 : Nat) (n : Nat) (l0 : List (List (S49))) (a1 : Int) (r : Int) (w : World) (hn : n = l0.length) (hr0 : Kd.C (Kd.slice 49 k49) w A0 l0.length l0) (hc0 : n ≤ c0) (h : laws_heldOpSS.f k l0 a1 = some r) :
  Calls Try.prog 41 #[.slice A0 n c0,.int .i64 a1] w fun e w' => e = .returned (.int .i64 r) ∧ Drawn0 w w' := by
 subst hn
 exact laws_heldOpSS.calls k A0 c0 l0 a1 r w hr0 hc0 h
set_option maxHeartbeats 8000000 in
set_option maxRecDepth 100000 in
theorem laws_FnExactSplitStops.calls (k : Nat) (A0 : Option Addr) (c0 : Nat) (l0 : List (S51)) (r : Bool) (w : World) (hr0 : Kd.C k51 w A0 l0.length l0) (hc0 : l0.length ≤ c0) (h : laws_FnExactSplitStops.f k l0 = some r) :
  Calls Try.prog 10 #[.slice A0 l0.length c0] w fun e w' => e = .returned (.bool r) ∧ Below w.heap.size w w' := by
 have HR0 := As_ hr0
 have HC0 := As_ hc0
 clear hr0 hc0
 have HB := As_ (Below.refl w.heap.size w)
 have H : ((laws_szOpS.f l0 1048576).bind fun t461 => (if t461 < 0 then (some true) else ((laws_toOpS.f k l0).bind fun t462 => ((spec_SplitStops.f k t462).bind fun t465 => ((laws_toOpS.f k l0).bind fun t468 => ((impl_SplitStops.f k t468).bind fun t471 => ((laws_eqOpSS.f k t471 t465).bind fun t474 => (if t474 = true then ((laws_toOpS.f k l0).bind fun t475 => ((laws_eqOpS.f k t468 t475).bind fun t478 => (if t478 = true then ((laws_markOpS.f k t468 1).bind fun bt479 => (if bt479.1 < 0 then (laws_FnExactSplitStops.j0 k l0 t465 t471 true) else ((laws_eqOpSS.f k t471 t465).bind fun t481 => (laws_FnExactSplitStops.j0 k l0 t465 t471 (!t481))))) else (none)))) else (none))))))))) = some r := h
 clear h
 replace H := obS H
 obtain ⟨t461,A20,H⟩ := H
 replace H : (if t461 < 0 then (some true) else ((laws_toOpS.f k l0).bind fun t462 => ((spec_SplitStops.f k t462).bind fun t465 => ((laws_toOpS.f k l0).bind fun t468 => ((impl_SplitStops.f k t468).bind fun t471 => ((laws_eqOpSS.f k t471 t465).bind fun t474 => (if t474 = true then ((laws_toOpS.f k l0).bind fun t475 => ((laws_eqOpS.f k t468 t475).bind fun t478 => (if t478 = true then ((laws_markOpS.f k t468 1).bind fun bt479 => (if bt479.1 < 0 then (laws_FnExactSplitStops.j0 k l0 t465 t471 true) else ((laws_eqOpSS.f k t471 t465).bind fun t481 => (laws_FnExactSplitStops.j0 k l0 t465 t471 (!t481))))) else (none)))) else (none)))))))) = some r := H
 have A2 := As_ A20
 clear A20
 by_cases c3 : t461 < 0
 ·rw [if_pos c3] at H
  have c3b0 : decide (t461 < 0) = true := deT c3
  clear c3
  obtain rfl := Option.some.inj H
  go_enter Try.func10,Try.ntmps10
  go_wp2_with (first|((with_reducible refine gate_callee (f := 15) rfl ?_);refine goesL_ (some 13) rfl rfl Try.func15 (by kernel_rfl) rfl #[.slice A0 l0.length c0,.int .i64 1048576] rfl zM_ ?_;(with_reducible refine (laws_szOpS.calls _ _ l0 1048576 t461 _ ?side1 ?side2 A2.out).mono ?_);(case side1 => repeat (first|exact HR0.out|(with_reducible refine Kd.C_alloc ?_ _)|(with_reducible refine Kd.C_drewN ?_ _)|(with_reducible refine Kd.C_drew ?_)));(case side2 => exact HC0.out);rintro e w' ⟨rfl,⟨nd,rfl⟩⟩;refine ⟨_,rfl,?_⟩))
  go_ret
  exact ⟨zE_,zb0 HB.out⟩
 rw [if_neg c3] at H
 have c3b0 : decide (t461 < 0) = false := deF c3
 clear c3
 replace H := obS H
 obtain ⟨t462,A40,H⟩ := H
 replace H : ((spec_SplitStops.f k t462).bind fun t465 => ((laws_toOpS.f k l0).bind fun t468 => ((impl_SplitStops.f k t468).bind fun t471 => ((laws_eqOpSS.f k t471 t465).bind fun t474 => (if t474 = true then ((laws_toOpS.f k l0).bind fun t475 => ((laws_eqOpS.f k t468 t475).bind fun t478 => (if t478 = true then ((laws_markOpS.f k t468 1).bind fun bt479 => (if bt479.1 < 0 then (laws_FnExactSplitStops.j0 k l0 t465 t471 true) else ((laws_eqOpSS.f k t471 t465).bind fun t481 => (laws_FnExactSplitStops.j0 k l0 t465 t471 (!t481))))) else (none)))) else (none)))))) = some r := H
 have A4 := As_ A40
 clear A40
 replace H := obS H
 obtain ⟨t465,A50,H⟩ := H
 replace H : ((laws_toOpS.f k l0).bind fun t468 => ((impl_SplitStops.f k t468).bind fun t471 => ((laws_eqOpSS.f k t471 t465).bind fun t474 => (if t474 = true then ((laws_toOpS.f k l0).bind fun t475 => ((laws_eqOpS.f k t468 t475).bind fun t478 => (if t478 = true then ((laws_markOpS.f k t468 1).bind fun bt479 => (if bt479.1 < 0 then (laws_FnExactSplitStops.j0 k l0 t465 t471 true) else ((laws_eqOpSS.f k t471 t465).bind fun t481 => (laws_FnExactSplitStops.j0 k l0 t465 t471 (!t481))))) else (none)))) else (none))))) = some r := H
 have A5 := As_ A50
 clear A50
 replace H := obS H
 obtain ⟨t468,A60,H⟩ := H
 replace H : ((impl_SplitStops.f k t468).bind fun t471 => ((laws_eqOpSS.f k t471 t465).bind fun t474 => (if t474 = true then ((laws_toOpS.f k l0).bind fun t475 => ((laws_eqOpS.f k t468 t475).bind fun t478 => (if t478 = true then ((laws_markOpS.f k t468 1).bind fun bt479 => (if bt479.1 < 0 then (laws_FnExactSplitStops.j0 k l0 t465 t471 true) else ((laws_eqOpSS.f k t471 t465).bind fun t481 => (laws_FnExactSplitStops.j0 k l0 t465 t471 (!t481))))) else (none)))) else (none)))) = some r := H
 have A6 := As_ A60
 clear A60
 replace H := obS H
 obtain ⟨t471,A70,H⟩ := H
 replace H : ((laws_eqOpSS.f k t471 t465).bind fun t474 => (if t474 = true then ((laws_toOpS.f k l0).bind fun t475 => ((laws_eqOpS.f k t468 t475).bind fun t478 => (if t478 = true then ((laws_markOpS.f k t468 1).bind fun bt479 => (if bt479.1 < 0 then (laws_FnExactSplitStops.j0 k l0 t465 t471 true) else ((laws_eqOpSS.f k t471 t465).bind fun t481 => (laws_FnExactSplitStops.j0 k l0 t465 t471 (!t481))))) else (none)))) else (none))) = some r := H
 have A7 := As_ A70
 clear A70
 replace H := obS H
 obtain ⟨t474,A80,H⟩ := H
 replace H : (if t474 = true then ((laws_toOpS.f k l0).bind fun t475 => ((laws_eqOpS.f k t468 t475).bind fun t478 => (if t478 = true then ((laws_markOpS.f k t468 1).bind fun bt479 => (if bt479.1 < 0 then (laws_FnExactSplitStops.j0 k l0 t465 t471 true) else ((laws_eqOpSS.f k t471 t465).bind fun t481 => (laws_FnExactSplitStops.j0 k l0 t465 t471 (!t481))))) else (none)))) else (none)) = some r := H
 have A8 := As_ A80
 clear A80
 by_cases c9 : t474 = true
 rotate_left
 ·replace c9 := Bool.eq_false_iff.mpr c9
  subst c9
  have H1 : (none) = some r := by rw [if_neg (show ¬ (false = true) by decide)] at H;exact H
  clear H
  have H := H1
  clear H1
  exact absurd H (by simp)

 subst c9
 have H1 : ((laws_toOpS.f k l0).bind fun t475 => ((laws_eqOpS.f k t468 t475).bind fun t478 => (if t478 = true then ((laws_markOpS.f k t468 1).bind fun bt479 => (if bt479.1 < 0 then (laws_FnExactSplitStops.j0 k l0 t465 t471 true) else ((laws_eqOpSS.f k t471 t465).bind fun t481 => (laws_FnExactSplitStops.j0 k l0 t465 t471 (!t481))))) else (none)))) = some r := by rw [if_pos rfl] at H;exact H
 clear H
 have H := H1
 clear H1
 replace H := obS H
 obtain ⟨t475,A100,H⟩ := H
 replace H : ((laws_eqOpS.f k t468 t475).bind fun t478 => (if t478 = true then ((laws_markOpS.f k t468 1).bind fun bt479 => (if bt479.1 < 0 then (laws_FnExactSplitStops.j0 k l0 t465 t471 true) else ((laws_eqOpSS.f k t471 t465).bind fun t481 => (laws_FnExactSplitStops.j0 k l0 t465 t471 (!t481))))) else (none))) = some r := H
 have A10 := As_ A100
 clear A100
 replace H := obS H
 obtain ⟨t478,A110,H⟩ := H
 replace H : (if t478 = true then ((laws_markOpS.f k t468 1).bind fun bt479 => (if bt479.1 < 0 then (laws_FnExactSplitStops.j0 k l0 t465 t471 true) else ((laws_eqOpSS.f k t471 t465).bind fun t481 => (laws_FnExactSplitStops.j0 k l0 t465 t471 (!t481))))) else (none)) = some r := H
 have A11 := As_ A110
 clear A110
 by_cases c12 : t478 = true
 rotate_left
 ·replace c12 := Bool.eq_false_iff.mpr c12
  subst c12
  have H1 : (none) = some r := by rw [if_neg (show ¬ (false = true) by decide)] at H;exact H
  clear H
  have H := H1
  clear H1
  exact absurd H (by simp)
 subst c12
 have H1 : ((laws_markOpS.f k t468 1).bind fun bt479 => (if bt479.1 < 0 then (laws_FnExactSplitStops.j0 k l0 t465 t471 true) else ((laws_eqOpSS.f k t471 t465).bind fun t481 => (laws_FnExactSplitStops.j0 k l0 t465 t471 (!t481))))) = some r := by rw [if_pos rfl] at H;exact H
 clear H
 have H := H1
 clear H1
 replace H := obS H
 obtain ⟨⟨t479,t480⟩,A130,H⟩ := H
 replace H : (if t479 < 0 then (laws_FnExactSplitStops.j0 k l0 t465 t471 true) else ((laws_eqOpSS.f k t471 t465).bind fun t481 => (laws_FnExactSplitStops.j0 k l0 t465 t471 (!t481)))) = some r := H
 have A13 := As_ A130
 clear A130
 have HC14 := As_ H
 clear H
 go_enter Try.func10,Try.ntmps10
 go_upto_region 14 with (first|((with_reducible refine gate_callee (f := 15) rfl ?_);refine goesL_ (some 13) rfl rfl Try.func15 (by kernel_rfl) rfl #[.slice A0 l0.length c0,.int .i64 1048576] rfl zM_ ?_;(with_reducible refine (laws_szOpS.calls _ _ l0 1048576 t461 _ ?side1 ?side2 A2.out).mono ?_);(case side1 => repeat (first|exact HR0.out|(with_reducible refine Kd.C_alloc ?_ _)|(with_reducible refine Kd.C_drewN ?_ _)|(with_reducible refine Kd.C_drew ?_)));(case side2 => exact HC0.out);rintro e w' ⟨rfl,⟨nd,rfl⟩⟩;refine ⟨_,rfl,?_⟩)|((with_reducible refine gate_callee (f := 17) rfl ?_);refine goesL_ (some 17) rfl rfl Try.func17 (by kernel_rfl) rfl #[.slice A0 l0.length c0] rfl zM_ ?_;(with_reducible refine (laws_toOpS.calls k _ _ l0 t462 _ ?side1 ?side2 A4.out).mono ?_);(case side1 => repeat (first|exact HR0.out|(with_reducible refine Kd.C_alloc ?_ _)|(with_reducible refine Kd.C_drewN ?_ _)|(with_reducible refine Kd.C_drew ?_)));(case side2 => exact HC0.out);rintro e w15 ⟨v463,rfl,ho0,hb⟩;refine ⟨_,rfl,?_⟩;have n0_ := As_ (Kd.R_lower ho0 (bwZ (zb0 HB.out)));have n1_ := As_ (bwT (zb0 HB.out) hb);clear HB;revert n0_ n1_;intro HO464 HB;obtain ⟨Ao16,co16,eo16⟩ := Kd.R_slice HO464.out;subst eo16)|((with_reducible refine gate_callee (f := 37) rfl ?_);refine goesL_ (some 18) rfl rfl Try.func37 (by kernel_rfl) rfl #[.slice Ao16 t462.length co16] rfl zM_ ?_;(with_reducible refine (spec_SplitStops.calls k _ _ t462 t465 _ ?side1 ?side2 A5.out).mono ?_);(case side1 => exact zC_ (Kd.R_reads' HO464.out).2.2);(case side2 => exact (Kd.R_reads' HO464.out).2.1);rintro e w17 ⟨v466,rfl,ho0,hb⟩;refine ⟨_,rfl,?_⟩;have n0_ := As_ (Kd.R_below (zR_ HO464.out) hb);have n1_ := As_ (Kd.S_lower (Kd.S_new' (Kd.S_mono (ok' := fun k_ => k_ < w17.heap.size) (Kd.S_bound ho0) (fun _ hk => hk.2.2.1)) (Kd.R_lt (zR_ HO464.out))) (bwZ (zb0 HB.out)));have n2_ := As_ (bwT (zb0 HB.out) hb);clear HO464 HB;revert n0_ n1_ n2_;intro HO464 HO467 HB)|((with_reducible refine gate_callee (f := 17) rfl ?_);refine goesL_ (some 20) rfl rfl Try.func17 (by kernel_rfl) rfl #[.slice A0 l0.length c0] rfl zM_ ?_;(with_reducible refine (laws_toOpS.calls k _ _ l0 t468 _ ?side1 ?side2 A6.out).mono ?_);(case side1 => exact zC_ (Kd.C_below HR0.out HB.out));(case side2 => exact HC0.out);rintro e w18 ⟨v469,rfl,ho0,hb⟩;refine ⟨_,rfl,?_⟩;have n0_ := As_ (Kd.R_elder' (zR_ HO464.out) (Kd.R_base ho0) hb);have n1_ := As_ (Kd.S_elder' (zS_ HO467.out) (Kd.R_base ho0) hb);have n2_ := As_ (Kd.R_lower (Kd.R_new' ho0 (Kd.R_lt (zR_ HO464.out))) (bwZ (zb0 HB.out)));have n3_ := As_ (bwT (zb0 HB.out) hb);clear HO464 HO467 HB;revert n0_ n1_ n2_ n3_;intro HO464 HO467 HO470 HB;have hle_ : w17.heap.size ≤ w18.heap.size := bwZ hb;obtain ⟨Ao19,co19,eo19⟩ := Kd.R_slice HO470.out;subst eo19)|((with_reducible refine gate_callee (f := 38) rfl ?_);refine goesL_ (some 22) rfl rfl Try.func38 (by kernel_rfl) rfl #[.slice Ao19 t468.length co19] rfl zM_ ?_;(with_reducible refine (impl_SplitStops.calls k _ _ t468 t471 _ ?side1 ?side2 A7.out).mono ?_);(case side1 => exact zC_ (Kd.R_reads' HO470.out).2.2);(case side2 => exact (Kd.R_reads' HO470.out).2.1);rintro e w20 ⟨v472,rfl,ho0,hb⟩;refine ⟨_,rfl,?_⟩;have n0_ := As_ (Kd.R_below (zR_ HO464.out) hb);have n1_ := As_ (Kd.S_elder' (zS_ HO467.out) (Kd.S_base ho0) hb);have n2_ := As_ (Kd.R_below (zR_ HO470.out) hb);have n3_ := As_ (Kd.S_lower (Kd.S_new' (Kd.S_new' (Kd.S_new' (Kd.S_mono (ok' := fun k_ => w18.heap.size ≤ k_) (Kd.S_bound ho0) (fun _ hk => hk.2.1)) (Kd.R_lt (zR_ HO464.out))) (Kd.S_lt (zS_ HO467.out))) (Kd.R_lt (zR_ HO470.out))) (bwZ (zb0 HB.out)));have n4_ := As_ (bwT (zb0 HB.out) hb);clear HO464 HO467 HO470 HB;revert n0_ n1_ n2_ n3_ n4_;intro HO464 HO467 HO470 HO473 HB;obtain ⟨Ao21,co21,eo21⟩ := Kd.S_slice HO473.out;subst eo21;obtain ⟨Ao22,co22,eo22⟩ := Kd.S_slice HO467.out;subst eo22)|((with_reducible refine gate_callee (f := 39) rfl ?_);refine goesL_ (some 25) rfl rfl Try.func39 (by kernel_rfl) rfl #[.slice Ao21 t471.length co21,.slice Ao22 t465.length co22] rfl zM_ ?_;(with_reducible refine (laws_eqOpSS.calls k _ _ t471 _ _ t465 true _ ?side1 ?side2 ?side3 ?side4 A8.out).mono ?_);(case side1 => exact zC_ (Kd.S_reads' HO473.out).2.2);(case side2 => exact (Kd.S_reads' HO473.out).2.1);(case side3 => exact zC_ (Kd.S_reads' HO467.out).2.2);(case side4 => exact (Kd.S_reads' HO467.out).2.1);rintro e w23 ⟨rfl,hb⟩;refine ⟨_,rfl,?_⟩;have n0_ := As_ (Kd.R_below (zR_ HO464.out) hb);have n1_ := As_ (Kd.S_below (zS_ HO467.out) hb);have n2_ := As_ (Kd.R_below (zR_ HO470.out) hb);have n3_ := As_ (Kd.S_below (zS_ HO473.out) hb);have n4_ := As_ (bwT (zb0 HB.out) hb);clear HO464 HO467 HO470 HO473 HB;revert n0_ n1_ n2_ n3_ n4_;intro HO464 HO467 HO470 HO473 HB)|((with_reducible refine gate_callee (f := 17) rfl ?_);refine goesL_ (some 29) rfl rfl Try.func17 (by kernel_rfl) rfl #[.slice A0 l0.length c0] rfl zM_ ?_;(with_reducible refine (laws_toOpS.calls k _ _ l0 t475 _ ?side1 ?side2 A10.out).mono ?_);(case side1 => exact zC_ (Kd.C_below HR0.out HB.out));(case side2 => exact HC0.out);rintro e w24 ⟨v476,rfl,ho0,hb⟩;refine ⟨_,rfl,?_⟩;have n0_ := As_ (Kd.R_elder' (zR_ HO464.out) (Kd.R_base ho0) hb);have n1_ := As_ (Kd.S_elder' (zS_ HO467.out) (Kd.R_base ho0) hb);have n2_ := As_ (Kd.R_elder' (zR_ HO470.out) (Kd.R_base ho0) hb);have n3_ := As_ (Kd.S_elder' (zS_ HO473.out) (Kd.R_base ho0) hb);have n4_ := As_ (Kd.R_lower (Kd.R_new' (Kd.R_new' ho0 (Kd.R_lt (zR_ HO464.out))) (Kd.R_lt (zR_ HO470.out))) (bwZ (zb0 HB.out)));have n5_ := As_ (bwT (zb0 HB.out) hb);clear HO464 HO467 HO470 HO473 HB;revert n0_ n1_ n2_ n3_ n4_ n5_;intro HO464 HO467 HO470 HO473 HO477 HB;obtain ⟨Ao25,co25,eo25⟩ := Kd.R_slice HO477.out;subst eo25)|((with_reducible refine gate_callee (f := 19) rfl ?_);refine goesL_ (some 30) rfl rfl Try.func19 (by kernel_rfl) rfl #[.slice Ao19 t468.length co19,.slice Ao25 t475.length co25] rfl zM_ ?_;(with_reducible refine (laws_eqOpS.calls k _ _ t468 _ _ t475 true _ ?side1 ?side2 ?side3 ?side4 A11.out).mono ?_);(case side1 => exact zC_ (Kd.R_reads' HO470.out).2.2);(case side2 => exact (Kd.R_reads' HO470.out).2.1);(case side3 => exact zC_ (Kd.R_reads' HO477.out).2.2);(case side4 => exact (Kd.R_reads' HO477.out).2.1);rintro e w26 ⟨rfl,hb⟩;refine ⟨_,rfl,?_⟩;have n0_ := As_ (Kd.R_below (zR_ HO464.out) hb);have n1_ := As_ (Kd.S_below (zS_ HO467.out) hb);have n2_ := As_ (Kd.R_below (zR_ HO470.out) hb);have n3_ := As_ (Kd.S_below (zS_ HO473.out) hb);have n4_ := As_ (Kd.R_below (zR_ HO477.out) hb);have n5_ := As_ (bwT (zb0 HB.out) hb);clear HO464 HO467 HO470 HO473 HO477 HB;revert n0_ n1_ n2_ n3_ n4_ n5_;intro HO464 HO467 HO470 HO473 HO477 HB)|((with_reducible refine gate_callee (f := 34) rfl ?_);refine goesL_ (some 34) rfl rfl Try.func34 (by kernel_rfl) rfl #[.slice Ao19 t468.length co19,.int .i64 1] rfl zM_ ?_;(with_reducible refine (laws_markOpS.calls k (fun k_ => some k_ = (.slice Ao19 t468.length co19 : Value).ownBlock) (.slice Ao19 t468.length co19) t468 1 t479 t480 w _ ?side1 ?side2 A13.out).mono ?_);(case side1 => exact zb0 HB.out);(case side2 => exact Kd.R_tight rfl HO470.out);rintro e w27 ⟨rfl,hy0,hb,hkp⟩;refine ⟨_,rfl,?_⟩;have n0_ := As_ (Kd.R_mono (ok' := fun k_ => some k_ ≠ (.slice Ao19 t468.length co19 : Value).ownBlock ∧ some k_ ≠ (.slice Ao25 t475.length co25 : Value).ownBlock) (Kd.R_keptB (HO464.out) hkp (fun k_ hk_ hs_ => (hk_.1.2) hs_)) (fun k_ hk_ => ⟨hk_.1.1.2,hk_.1.2⟩));have n1_ := As_ (Kd.S_mono (ok' := fun k_ => some k_ ≠ (.slice Ao16 t462.length co16 : Value).ownBlock ∧ some k_ ≠ (.slice Ao19 t468.length co19 : Value).ownBlock ∧ some k_ ≠ (.slice Ao21 t471.length co21 : Value).ownBlock ∧ some k_ ≠ (.slice Ao25 t475.length co25 : Value).ownBlock ∧ k_ < w17.heap.size) (Kd.S_keptB (HO467.out) hkp (fun k_ hk_ hs_ => (hk_.1.1.2) hs_)) (fun k_ hk_ => ⟨hk_.1.1.1.1.2,hk_.1.1.1.2,hk_.1.1.2,hk_.1.2,hk_.1.1.1.1.1⟩));have n2_ := As_ (Kd.R_reok rfl hy0 (fun k_ e_ => HO470.out.1 k_ e_));have n3_ := As_ (Kd.S_mono (ok' := fun k_ => some k_ ≠ (.slice Ao16 t462.length co16 : Value).ownBlock ∧ some k_ ≠ (.slice Ao22 t465.length co22 : Value).ownBlock ∧ some k_ ≠ (.slice Ao19 t468.length co19 : Value).ownBlock ∧ some k_ ≠ (.slice Ao25 t475.length co25 : Value).ownBlock ∧ w18.heap.size ≤ k_) (Kd.S_keptB (HO473.out) hkp (fun k_ hk_ hs_ => (hk_.1.2) hs_)) (fun k_ hk_ => ⟨hk_.1.1.1.1.2,hk_.1.1.1.2,hk_.1.1.2,hk_.1.2,hk_.1.1.1.1.1⟩));have n4_ := As_ (Kd.R_mono (ok' := fun k_ => some k_ ≠ (.slice Ao16 t462.length co16 : Value).ownBlock ∧ some k_ ≠ (.slice Ao19 t468.length co19 : Value).ownBlock) (Kd.R_keptB (HO477.out) hkp (fun k_ hk_ hs_ => (hk_.2) hs_)) (fun k_ hk_ => ⟨hk_.1.1.2,hk_.1.2⟩));have n5_ := As_ (hb);clear HO464 HO467 HO470 HO473 HO477 HB;revert n0_ n1_ n2_ n3_ n4_ n5_;intro HO464 HO467 HO470 HO473 HO477 HB))
 (try simp only [Act.put,List.setIfInBounds_toArray,List.set_cons_zero,List.set_cons_succ])
 go_cut [42] (fun v42 wc => ∃ (kq : Nat) (x42_13 : Bool),v42 = .bool x42_13 ∧ Aside0 (laws_FnExactSplitStops.j0 kq l0 t465 t471 x42_13 = some r) ∧ Aside0 (kq ≤ k) ∧ Aside0 (Kd.S (Kd.slice 49 k49) 25 wc w.heap.size (fun k_ => k_ < w18.heap.size) (.slice Ao22 t465.length co22) t465) ∧ Aside0 (Kd.S impl_Op_63.kcl 25 wc w.heap.size (fun k_ => w18.heap.size ≤ k_) (.slice Ao21 t471.length co21) t471) ∧ Aside0 (Below w.heap.size w wc))
 case first =>
  have H := HC14.out
  clear HC14
  by_cases c28 : t479 < 0
  ·rw [if_pos c28] at H
   have c28b0 : decide (t479 < 0) = true := deT c28
   clear c28
   (first|rw [c28b0]|(simp only [i64_w,i32_w];rw [c28b0])|skip)
   have H' := As_ H
   clear H
   go_wp2
   go_meet
   case rel => exact ⟨_,(true),zT_,H',⟨by first|omega|exact Nat.le_refl _⟩,⟨by (with_reducible repeat (first|apply Kd.S_alloc|apply Kd.S_drewN|apply Kd.S_drew));exact Kd.S_mono HO467.out (fun _ hk => Nat.lt_of_lt_of_le hk.2.2.2.2 hle_)⟩,⟨by (with_reducible repeat (first|apply Kd.S_alloc|apply Kd.S_drewN|apply Kd.S_drew));exact Kd.S_mono HO473.out (fun _ hk => hk.2.2.2.2)⟩,⟨zb0 HB.out⟩⟩
  rw [if_neg c28] at H
  have c28b0 : decide (t479 < 0) = false := deF c28
  clear c28
  (first|rw [c28b0]|(simp only [i64_w,i32_w];rw [c28b0])|skip)
  replace H := obS H
  obtain ⟨t481,A290,H⟩ := H
  replace H : (laws_FnExactSplitStops.j0 k l0 t465 t471 (!t481)) = some r := H
  have A29 := As_ A290
  clear A290
  have H' := As_ H
  clear H
  go_wp2_with (first|(go_at_call 39;(with_reducible refine (laws_eqOpSS.calls k _ _ t471 _ _ t465 t481 _ ?side1 ?side2 ?side3 ?side4 A29.out).mono ?_);(case side1 => exact zC_ (Kd.S_reads' HO473.out).2.2);(case side2 => exact (Kd.S_reads' HO473.out).2.1);(case side3 => exact zC_ (Kd.S_reads' HO467.out).2.2);(case side4 => exact (Kd.S_reads' HO467.out).2.1);rintro e w30 ⟨rfl,hb⟩;have n0_ := As_ (Kd.R_below (zR_ HO464.out) hb);have n1_ := As_ (Kd.S_below (zS_ HO467.out) hb);have n2_ := As_ (Kd.R_below (zR_ HO470.out) hb);have n3_ := As_ (Kd.S_below (zS_ HO473.out) hb);have n4_ := As_ (Kd.R_below (zR_ HO477.out) hb);have n5_ := As_ (bwT (zb0 HB.out) hb);clear HO464 HO467 HO470 HO473 HO477 HB;revert n0_ n1_ n2_ n3_ n4_ n5_;intro HO464 HO467 HO470 HO473 HO477 HB))
  go_meet
  case rel => exact ⟨_,(!t481),zT_,H',⟨by first|omega|exact Nat.le_refl _⟩,⟨by (with_reducible repeat (first|apply Kd.S_alloc|apply Kd.S_drewN|apply Kd.S_drew));exact Kd.S_mono HO467.out (fun _ hk => Nat.lt_of_lt_of_le hk.2.2.2.2 hle_)⟩,⟨by (with_reducible repeat (first|apply Kd.S_alloc|apply Kd.S_drewN|apply Kd.S_drew));exact Kd.S_mono HO473.out (fun _ hk => hk.2.2.2.2)⟩,⟨zb0 HB.out⟩⟩
 case rest =>
  clear HC14
  obtain ⟨kq,x42_13,rfl,HA,HJ13,HO_4,HO_6,HB⟩ := hcut
  cases kq with
  | zero => exact absurd HA.out (fun h_ => (by cases h_))
  | succ kj13 =>
   have H := HA.out
   clear HA
   simp only [laws_FnExactSplitStops.j0] at H
   by_cases c31 : x42_13 = true
   ·subst c31
    have H1 : (none) = some r := by rw [if_pos rfl] at H;exact H
    clear H
    have H := H1
    clear H1
    exact absurd H (by simp)
   replace c31 := Bool.eq_false_iff.mpr c31
   subst c31
   have H1 : ((laws_markOpSS.f kj13 t471 1).bind fun bt482 => ((laws_heldOpSS.f kj13 bt482.2 1).bind fun t483 => (if t483 < 0 then (none) else (if t483 = bt482.1 then ((laws_toOpS.f kj13 l0).bind fun t484 => ((impl_SplitStops.f kj13 t484).bind fun t487 => ((laws_eqOpSS.f kj13 t487 t465).bind fun t490 => (if t490 = true then ((laws_heldOpSS.f kj13 bt482.2 1).bind fun t491 => (if t491 < 0 then (none) else (if t491 = bt482.1 then (some true) else (none)))) else (none))))) else (none))))) = some r := by rw [if_neg (show ¬ (false = true) by decide)] at H;exact H
   clear H
   have H := H1
   clear H1
   replace H := obS H
   obtain ⟨⟨t482,s482⟩,A320,H⟩ := H
   replace H : ((laws_heldOpSS.f kj13 s482 1).bind fun t483 => (if t483 < 0 then (none) else (if t483 = t482 then ((laws_toOpS.f kj13 l0).bind fun t484 => ((impl_SplitStops.f kj13 t484).bind fun t487 => ((laws_eqOpSS.f kj13 t487 t465).bind fun t490 => (if t490 = true then ((laws_heldOpSS.f kj13 s482 1).bind fun t491 => (if t491 < 0 then (none) else (if t491 = t482 then (some true) else (none)))) else (none))))) else (none)))) = some r := H
   have A32 := As_ A320
   clear A320
   replace H := obS H
   obtain ⟨t483,A330,H⟩ := H
   replace H : (if t483 < 0 then (none) else (if t483 = t482 then ((laws_toOpS.f kj13 l0).bind fun t484 => ((impl_SplitStops.f kj13 t484).bind fun t487 => ((laws_eqOpSS.f kj13 t487 t465).bind fun t490 => (if t490 = true then ((laws_heldOpSS.f kj13 s482 1).bind fun t491 => (if t491 < 0 then (none) else (if t491 = t482 then (some true) else (none)))) else (none))))) else (none))) = some r := H
   have A33 := As_ A330
   clear A330
   by_cases c34 : t483 < 0
   ·rw [if_pos c34] at H
    have c34b0 : decide (t483 < 0) = true := deT c34
    clear c34
    exact absurd H (by simp)
   rw [if_neg c34] at H
   have c34b0 : decide (t483 < 0) = false := deF c34
   clear c34
   by_cases c36 : t483 = t482
   rotate_left
   ·rw [if_neg c36] at H
    have c36b0 : (t483 == t482) = false := beq_eq_false_iff_ne.mpr c36
    have c36b1 : (t483 != t482) = true := bne_iff_ne.mpr c36
    exact absurd H (by simp)
   rw [if_pos c36] at H
   have c36b0 : (t483 == t482) = true := beq_iff_eq.mpr c36
   have c36b1 : (t483 != t482) = false := bne_eq_false_iff_eq.mpr c36
   clear c36
   replace H := obS H
   obtain ⟨t484,A370,H⟩ := H
   replace H : ((impl_SplitStops.f kj13 t484).bind fun t487 => ((laws_eqOpSS.f kj13 t487 t465).bind fun t490 => (if t490 = true then ((laws_heldOpSS.f kj13 s482 1).bind fun t491 => (if t491 < 0 then (none) else (if t491 = t482 then (some true) else (none)))) else (none)))) = some r := H
   have A37 := As_ A370
   clear A370
   replace H := obS H
   obtain ⟨t487,A380,H⟩ := H
   replace H : ((laws_eqOpSS.f kj13 t487 t465).bind fun t490 => (if t490 = true then ((laws_heldOpSS.f kj13 s482 1).bind fun t491 => (if t491 < 0 then (none) else (if t491 = t482 then (some true) else (none)))) else (none))) = some r := H
   have A38 := As_ A380
   clear A380
   replace H := obS H
   obtain ⟨t490,A390,H⟩ := H
   replace H : (if t490 = true then ((laws_heldOpSS.f kj13 s482 1).bind fun t491 => (if t491 < 0 then (none) else (if t491 = t482 then (some true) else (none)))) else (none)) = some r := H
   have A39 := As_ A390
   clear A390
   by_cases c40 : t490 = true
   rotate_left
   ·replace c40 := Bool.eq_false_iff.mpr c40
    subst c40
    have H1 : (none) = some r := by rw [if_neg (show ¬ (false = true) by decide)] at H;exact H
    clear H
    have H := H1
    clear H1
    exact absurd H (by simp)
   subst c40
   have H1 : ((laws_heldOpSS.f kj13 s482 1).bind fun t491 => (if t491 < 0 then (none) else (if t491 = t482 then (some true) else (none)))) = some r := by rw [if_pos rfl] at H;exact H
   clear H
   have H := H1
   clear H1
   replace H := obS H
   obtain ⟨t491,A410,H⟩ := H
   replace H : (if t491 < 0 then (none) else (if t491 = t482 then (some true) else (none))) = some r := H
   have A41 := As_ A410
   clear A410
   by_cases c42 : t491 < 0
   ·rw [if_pos c42] at H
    have c42b0 : decide (t491 < 0) = true := deT c42
    clear c42
    exact absurd H (by simp)
   rw [if_neg c42] at H
   have c42b0 : decide (t491 < 0) = false := deF c42
   clear c42
   by_cases c49 : t491 = t482
   rotate_left
   ·rw [if_neg c49] at H
    have c49b0 : (t491 == t482) = false := beq_eq_false_iff_ne.mpr c49
    have c49b1 : (t491 != t482) = true := bne_iff_ne.mpr c49
    exact absurd H (by simp)
   rw [if_pos c49] at H
   have c49b0 : (t491 == t482) = true := beq_iff_eq.mpr c49
   have c49b1 : (t491 != t482) = false := bne_eq_false_iff_eq.mpr c49
   clear c49
   obtain rfl := Option.some.inj H
   go_wp2_with (first|((with_reducible refine gate_callee (f := 40) rfl ?_);refine goesL_ (some 45) rfl rfl Try.func40 (by kernel_rfl) rfl #[.slice Ao21 t471.length co21,.int .i64 1] rfl zM_ ?_;(with_reducible refine (laws_markOpSS.calls kj13 (fun k_ => w18.heap.size ≤ k_) (.slice Ao21 t471.length co21) t471 1 t482 s482 w _ ?side1 ?side2 A32.out).mono ?_);(case side1 => exact (zb0 HB.out));(case side2 => exact (zS_ HO_6.out));rintro e w50 ⟨rfl,hy0,hb,hkp⟩;refine ⟨_,rfl,?_⟩;have hlM := As_ (Kd.S_reads' hy0).1;have n0_ := As_ (Kd.S_mono (Kd.S_keptB (HO_4.out) hkp (fun k_ hk_ hs_ => Nat.lt_irrefl _ (Nat.lt_of_lt_of_le hk_ hs_))) (fun _ hk => hk.1));have n1_ := As_ (hy0);have n2_ := As_ (hb);clear HO_4 HO_6 HB;revert n0_ n1_ n2_;intro HO_4 HO_6 HB)|((with_reducible refine gate_callee (f := 41) rfl ?_);refine goesL_ (some 48) rfl rfl Try.func41 (by kernel_rfl) rfl #[.slice Ao21 t471.length co21,.int .i64 1] rfl zM_ ?_;(with_reducible refine (laws_FnExactSplitStops.heldL kj13 _ _ t471.length s482 1 t483 _ hlM.out ?side1 ?side2 A33.out).mono ?_);(case side1 => exact zC_ (Kd.S_reads' HO_6.out).2.2);(case side2 => exact (Kd.S_reads' HO_6.out).2.1);rintro e w' ⟨rfl,⟨nd,rfl⟩⟩;refine ⟨_,rfl,?_⟩)|((with_reducible refine gate_callee (f := 17) rfl ?_);refine goesL_ (some 55) rfl rfl Try.func17 (by kernel_rfl) rfl #[.slice A0 l0.length c0] rfl zM_ ?_;(with_reducible refine (laws_toOpS.calls kj13 _ _ l0 t484 _ ?side1 ?side2 A37.out).mono ?_);(case side1 => repeat (first|exact (Kd.C_below HR0.out (zb0 HB.out))|(with_reducible refine Kd.C_alloc ?_ _)|(with_reducible refine Kd.C_drewN ?_ _)|(with_reducible refine Kd.C_drew ?_)));(case side2 => exact HC0.out);rintro e w51 ⟨v485,rfl,ho0,hb⟩;refine ⟨_,rfl,?_⟩;have n0_ := As_ (Kd.S_elder' (zS_ HO_4.out) (Kd.R_base ho0) hb);have n1_ := As_ (Kd.S_elder' (zS_ HO_6.out) (Kd.R_base ho0) hb);have n2_ := As_ (Kd.R_lower ho0 (bwZ (zb0 HB.out)));have n3_ := As_ (bwT (zb0 HB.out) hb);clear HO_4 HO_6 HB;revert n0_ n1_ n2_ n3_;intro HO_4 HO_6 HO486 HB;obtain ⟨Ao52,co52,eo52⟩ := Kd.R_slice HO486.out;subst eo52)|((with_reducible refine gate_callee (f := 38) rfl ?_);refine goesL_ (some 56) rfl rfl Try.func38 (by kernel_rfl) rfl #[.slice Ao52 t484.length co52] rfl zM_ ?_;(with_reducible refine (impl_SplitStops.calls kj13 _ _ t484 t487 _ ?side1 ?side2 A38.out).mono ?_);(case side1 => exact zC_ (Kd.R_reads' HO486.out).2.2);(case side2 => exact (Kd.R_reads' HO486.out).2.1);rintro e w53 ⟨v488,rfl,ho0,hb⟩;refine ⟨_,rfl,?_⟩;have n0_ := As_ (Kd.S_elder' (zS_ HO_4.out) (Kd.S_base ho0) hb);have n1_ := As_ (Kd.S_elder' (zS_ HO_6.out) (Kd.S_base ho0) hb);have n2_ := As_ (Kd.R_below (zR_ HO486.out) hb);have n3_ := As_ (Kd.S_lower (Kd.S_new' (Kd.S_new' (Kd.S_new' ho0 (Kd.S_lt (zS_ HO_4.out))) (Kd.S_lt (zS_ HO_6.out))) (Kd.R_lt (zR_ HO486.out))) (bwZ (zb0 HB.out)));have n4_ := As_ (bwT (zb0 HB.out) hb);clear HO_4 HO_6 HO486 HB;revert n0_ n1_ n2_ n3_ n4_;intro HO_4 HO_6 HO486 HO489 HB;obtain ⟨Ao54,co54,eo54⟩ := Kd.S_slice HO489.out;subst eo54)|((with_reducible refine gate_callee (f := 39) rfl ?_);refine goesL_ (some 59) rfl rfl Try.func39 (by kernel_rfl) rfl #[.slice Ao54 t487.length co54,.slice Ao22 t465.length co22] rfl zM_ ?_;(with_reducible refine (laws_eqOpSS.calls kj13 _ _ t487 _ _ t465 true _ ?side1 ?side2 ?side3 ?side4 A39.out).mono ?_);(case side1 => exact zC_ (Kd.S_reads' HO489.out).2.2);(case side2 => exact (Kd.S_reads' HO489.out).2.1);(case side3 => exact zC_ (Kd.S_reads' HO_4.out).2.2);(case side4 => exact (Kd.S_reads' HO_4.out).2.1);rintro e w55 ⟨rfl,hb⟩;refine ⟨_,rfl,?_⟩;have n0_ := As_ (Kd.S_below (zS_ HO_4.out) hb);have n1_ := As_ (Kd.S_below (zS_ HO_6.out) hb);have n2_ := As_ (Kd.R_below (zR_ HO486.out) hb);have n3_ := As_ (Kd.S_below (zS_ HO489.out) hb);have n4_ := As_ (bwT (zb0 HB.out) hb);clear HO_4 HO_6 HO486 HO489 HB;revert n0_ n1_ n2_ n3_ n4_;intro HO_4 HO_6 HO486 HO489 HB)|((with_reducible refine gate_callee (f := 41) rfl ?_);refine goesL_ (some 63) rfl rfl Try.func41 (by kernel_rfl) rfl #[.slice Ao21 t471.length co21,.int .i64 1] rfl zM_ ?_;(with_reducible refine (laws_FnExactSplitStops.heldL kj13 _ _ t471.length s482 1 t491 _ hlM.out ?side1 ?side2 A41.out).mono ?_);(case side1 => exact zC_ (Kd.S_reads' HO_6.out).2.2);(case side2 => exact (Kd.S_reads' HO_6.out).2.1);rintro e w' ⟨rfl,⟨nd,rfl⟩⟩;refine ⟨_,rfl,?_⟩))
   go_ret
   exact ⟨zE_,zb0 HB.out⟩
/-- THE ONE PURE STATEMENT of laws_FnExactSplitStops. -/
def laws_FnExactSplitStops.Pure : Prop := ∀ (l0 : List (S51)),(l0.length ≤ maxLen ∧ (∀ x_ ∈ l0,(Lit.int .i64 x_.f0).wf = true ∧ (Lit.int .i64 x_.f1).wf = true)) → ∃ k,laws_FnExactSplitStops.f k l0 = some true
theorem laws_FnExactSplitStops.walk (P : laws_FnExactSplitStops.Pure) (A0 : Option Addr) (c0 : Nat) (l0 : List (S51)) (w : World) (hr0 : Kd.C k51 w A0 l0.length l0) (hc0 : l0.length ≤ c0) (hg0 : l0.length ≤ maxLen ∧ (∀ x_ ∈ l0,(Lit.int .i64 x_.f0).wf = true ∧ (Lit.int .i64 x_.f1).wf = true)) :
  Calls Try.prog 10 #[.slice A0 l0.length c0] w fun e w' => e = .returned (.bool true) ∧ Below w.heap.size w w' := by
 obtain ⟨k,h⟩ := P l0 hg0
 refine (laws_FnExactSplitStops.calls k _ _ l0 true w hr0 hc0 h).mono ?_
 rintro e w' ⟨rfl,hd⟩
 exact ⟨rfl,hd⟩

end Go.Proofs.Ytonppkaobnfldaa.Q
