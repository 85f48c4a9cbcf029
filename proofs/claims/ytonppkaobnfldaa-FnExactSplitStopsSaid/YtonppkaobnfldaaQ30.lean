-- Written by wip/tools/qprint.py (a program of this claim's author) by means of the kit's printer.
import Derived.Test.YtonppkaobnfldaaQ0
import Derived.Test.YtonppkaobnfldaaQ15
import Derived.Test.YtonppkaobnfldaaQ35
import Derived.Test.YtonppkaobnfldaaQ77
namespace Go.Proofs.Ytonppkaobnfldaa.Q
open Go.RowKit Go.Proofs.YtonppkaobnfldaaW.PrintWords Go.Proofs.YtonppkaobnfldaaW.PrintLast Go.Proofs.YtonppkaobnfldaaW.PrintMore
attribute [local go_sem] max2_int min2_int max_two min_two max_three min_three max_four min_four   -- for this text's walks alone
set_option linter.unusedVariables false
set_option linter.unusedSimpArgs false

/-! ### spec_SizeOf: function 30 -/
def spec_SizeOf.f (k : Nat) (l0 : List (S49)) : Option (Int) := (spec_validOps.f k l0).bind fun t290 => (if t290 = true then ((spec_EncodeOps.f k l0).bind fun t291 => (some (t291.length : Int))) else (some (-1)))
set_option maxRecDepth 100000 in
theorem spec_SizeOf.mono : ∀ a0 k,LeO (spec_SizeOf.f k a0) (spec_SizeOf.f (k + 1) a0) := by
 intro a0 k
 unfold spec_SizeOf.f
 repeat' first
   | (with_reducible exact spec_EncodeOps.mono _ _)
   | (with_reducible exact spec_validOps.mono _ _)
   | (with_reducible exact LeO.refl _)
   | (with_reducible exact LeO.none _)
   | (with_reducible refine LeO.ite ?_ ?_)
   | (with_reducible refine LeO.bind ?_ (fun _ => ?_))
   | exact spec_EncodeOps.mono _ _
   | exact spec_validOps.mono _ _
   | exact LeO.none _
   | refine LeO.ite ?_ ?_
   | refine LeO.bind ?_ (fun _ => ?_)
set_option maxHeartbeats 8000000 in
set_option maxRecDepth 100000 in
theorem spec_SizeOf.calls (k : Nat) (A0 : Option Addr) (c0 : Nat) (l0 : List (S49)) (r : Int) (w : World) (hr0 : Kd.C k49 w A0 l0.length l0) (hc0 : l0.length ≤ c0) (h : spec_SizeOf.f k l0 = some r) :
  Calls Try.prog 30 #[.slice A0 l0.length c0] w fun e w' => e = .returned (.int .i64 r) ∧ Below w.heap.size w w' := by
 have HR0 := As_ hr0
 have HC0 := As_ hc0
 clear hr0 hc0
 have HB := As_ (Below.refl w.heap.size w)
 have H : ((spec_validOps.f k l0).bind fun t290 => (if t290 = true then ((spec_EncodeOps.f k l0).bind fun t291 => (some (t291.length : Int))) else (some (-1)))) = some r := h
 clear h
 replace H := obS H
 obtain ⟨t290,A20,H⟩ := H
 replace H : (if t290 = true then ((spec_EncodeOps.f k l0).bind fun t291 => (some (t291.length : Int))) else (some (-1))) = some r := H
 have A2 := As_ A20
 clear A20
 by_cases c3 : t290 = true
 rotate_left
 ·replace c3 := Bool.eq_false_iff.mpr c3
  subst c3
  have H1 : (some (-1)) = some r := by rw [if_neg (show ¬ (false = true) by decide)] at H;exact H
  clear H
  have H := H1
  clear H1
  obtain rfl := Option.some.inj H
  go_enter Try.func30,Try.ntmps30
  go_wp2_with (first|((with_reducible refine gate_callee (f := 51) rfl ?_);refine goesL_ (some 4) rfl rfl Try.func51 (by kernel_rfl) rfl #[.slice A0 l0.length c0] rfl zM_ ?_;(with_reducible refine (spec_validOps.calls k _ _ l0 false _ ?side1 ?side2 A2.out).mono ?_);(case side1 => repeat (first|exact HR0.out|(with_reducible refine Kd.C_alloc ?_ _)|(with_reducible refine Kd.C_drewN ?_ _)|(with_reducible refine Kd.C_drew ?_)));(case side2 => exact HC0.out);rintro e w8 ⟨rfl,hb⟩;refine ⟨_,rfl,?_⟩;have n0_ := As_ (bwT (zb0 HB.out) hb);clear HB;revert n0_;intro HB))
  go_ret
  exact ⟨zE_,zb0 HB.out⟩

 subst c3
 have H1 : ((spec_EncodeOps.f k l0).bind fun t291 => (some (t291.length : Int))) = some r := by rw [if_pos rfl] at H;exact H
 clear H
 have H := H1
 clear H1
 replace H := obS H
 obtain ⟨t291,A40,H⟩ := H
 replace H : (some (t291.length : Int)) = some r := H
 have A4 := As_ A40
 clear A40
 obtain rfl := Option.some.inj H
 go_enter Try.func30,Try.ntmps30
 go_wp2_with (first|((with_reducible refine gate_callee (f := 51) rfl ?_);refine goesL_ (some 4) rfl rfl Try.func51 (by kernel_rfl) rfl #[.slice A0 l0.length c0] rfl zM_ ?_;(with_reducible refine (spec_validOps.calls k _ _ l0 true _ ?side1 ?side2 A2.out).mono ?_);(case side1 => repeat (first|exact HR0.out|(with_reducible refine Kd.C_alloc ?_ _)|(with_reducible refine Kd.C_drewN ?_ _)|(with_reducible refine Kd.C_drew ?_)));(case side2 => exact HC0.out);rintro e w5 ⟨rfl,hb⟩;refine ⟨_,rfl,?_⟩;have n0_ := As_ (bwT (zb0 HB.out) hb);clear HB;revert n0_;intro HB)|((with_reducible refine gate_callee (f := 35) rfl ?_);refine goesL_ (some 7) rfl rfl Try.func35 (by kernel_rfl) rfl #[.slice A0 l0.length c0] rfl zM_ ?_;(with_reducible refine (spec_EncodeOps.calls k _ _ l0 t291 _ ?side1 ?side2 A4.out).mono ?_);(case side1 => exact zC_ (Kd.C_below HR0.out HB.out));(case side2 => exact HC0.out);rintro e w6 ⟨v292,rfl,ho0,hb⟩;refine ⟨_,rfl,?_⟩;have n0_ := As_ (Kd.R_lower ho0 (bwZ (zb0 HB.out)));have n1_ := As_ (bwT (zb0 HB.out) hb);clear HB;revert n0_ n1_;intro HO293 HB;obtain ⟨Ao7,co7,eo7⟩ := Kd.R_slice HO293.out;subst eo7))
 go_ret
 exact ⟨zE_,zb0 HB.out⟩
/-! ### impl_SizeOf: function 31 -/
def impl_SizeOf.f (k : Nat) (l0 : List (S49)) : Option (Int) := (impl_ValidOps.f k l0).bind fun t313 => (if t313 = true then ((impl_EncodeOps.f k l0).bind fun t314 => (some (t314.length : Int))) else (some (-1)))
set_option maxRecDepth 100000 in
theorem impl_SizeOf.mono : ∀ a0 k,LeO (impl_SizeOf.f k a0) (impl_SizeOf.f (k + 1) a0) := by
 intro a0 k
 unfold impl_SizeOf.f
 repeat' first
   | (with_reducible exact impl_EncodeOps.mono _ _)
   | (with_reducible exact impl_ValidOps.mono _ _)
   | (with_reducible exact LeO.refl _)
   | (with_reducible exact LeO.none _)
   | (with_reducible refine LeO.ite ?_ ?_)
   | (with_reducible refine LeO.bind ?_ (fun _ => ?_))
   | exact impl_EncodeOps.mono _ _
   | exact impl_ValidOps.mono _ _
   | exact LeO.none _
   | refine LeO.ite ?_ ?_
   | refine LeO.bind ?_ (fun _ => ?_)
set_option maxHeartbeats 8000000 in
set_option maxRecDepth 100000 in
theorem impl_SizeOf.calls (k : Nat) (A0 : Option Addr) (c0 : Nat) (l0 : List (S49)) (r : Int) (w : World) (hr0 : Kd.C k49 w A0 l0.length l0) (hc0 : l0.length ≤ c0) (h : impl_SizeOf.f k l0 = some r) :
  Calls Try.prog 31 #[.slice A0 l0.length c0] w fun e w' => e = .returned (.int .i64 r) ∧ Below w.heap.size w w' := by
 have HR0 := As_ hr0
 have HC0 := As_ hc0
 clear hr0 hc0
 have HB := As_ (Below.refl w.heap.size w)
 have H : ((impl_ValidOps.f k l0).bind fun t313 => (if t313 = true then ((impl_EncodeOps.f k l0).bind fun t314 => (some (t314.length : Int))) else (some (-1)))) = some r := h
 clear h
 replace H := obS H
 obtain ⟨t313,A20,H⟩ := H
 replace H : (if t313 = true then ((impl_EncodeOps.f k l0).bind fun t314 => (some (t314.length : Int))) else (some (-1))) = some r := H
 have A2 := As_ A20
 clear A20
 by_cases c3 : t313 = true
 rotate_left
 ·replace c3 := Bool.eq_false_iff.mpr c3
  subst c3
  have H1 : (some (-1)) = some r := by rw [if_neg (show ¬ (false = true) by decide)] at H;exact H
  clear H
  have H := H1
  clear H1
  obtain rfl := Option.some.inj H
  go_enter Try.func31,Try.ntmps31
  go_wp2_with (first|((with_reducible refine gate_callee (f := 18) rfl ?_);refine goesL_ (some 4) rfl rfl Try.func18 (by kernel_rfl) rfl #[.slice A0 l0.length c0] rfl zM_ ?_;(with_reducible refine (impl_ValidOps.calls k _ _ l0 false _ ?side1 ?side2 A2.out).mono ?_);(case side1 => repeat (first|exact HR0.out|(with_reducible refine Kd.C_alloc ?_ _)|(with_reducible refine Kd.C_drewN ?_ _)|(with_reducible refine Kd.C_drew ?_)));(case side2 => exact HC0.out);rintro e w8 ⟨rfl,hb⟩;refine ⟨_,rfl,?_⟩;have n0_ := As_ (bwT (zb0 HB.out) hb);clear HB;revert n0_;intro HB))
  go_ret
  exact ⟨zE_,zb0 HB.out⟩

 subst c3
 have H1 : ((impl_EncodeOps.f k l0).bind fun t314 => (some (t314.length : Int))) = some r := by rw [if_pos rfl] at H;exact H
 clear H
 have H := H1
 clear H1
 replace H := obS H
 obtain ⟨t314,A40,H⟩ := H
 replace H : (some (t314.length : Int)) = some r := H
 have A4 := As_ A40
 clear A40
 obtain rfl := Option.some.inj H
 go_enter Try.func31,Try.ntmps31
 go_wp2_with (first|((with_reducible refine gate_callee (f := 18) rfl ?_);refine goesL_ (some 4) rfl rfl Try.func18 (by kernel_rfl) rfl #[.slice A0 l0.length c0] rfl zM_ ?_;(with_reducible refine (impl_ValidOps.calls k _ _ l0 true _ ?side1 ?side2 A2.out).mono ?_);(case side1 => repeat (first|exact HR0.out|(with_reducible refine Kd.C_alloc ?_ _)|(with_reducible refine Kd.C_drewN ?_ _)|(with_reducible refine Kd.C_drew ?_)));(case side2 => exact HC0.out);rintro e w5 ⟨rfl,hb⟩;refine ⟨_,rfl,?_⟩;have n0_ := As_ (bwT (zb0 HB.out) hb);clear HB;revert n0_;intro HB)|((with_reducible refine gate_callee (f := 36) rfl ?_);refine goesL_ (some 7) rfl rfl Try.func36 (by kernel_rfl) rfl #[.slice A0 l0.length c0] rfl zM_ ?_;(with_reducible refine (impl_EncodeOps.calls k _ _ l0 t314 _ ?side1 ?side2 A4.out).mono ?_);(case side1 => exact zC_ (Kd.C_below HR0.out HB.out));(case side2 => exact HC0.out);rintro e w6 ⟨v315,rfl,ho0,hb⟩;refine ⟨_,rfl,?_⟩;have n0_ := As_ (Kd.R_lower ho0 (bwZ (zb0 HB.out)));have n1_ := As_ (bwT (zb0 HB.out) hb);clear HB;revert n0_ n1_;intro HO316 HB;obtain ⟨Ao7,co7,eo7⟩ := Kd.R_slice HO316.out;subst eo7))
 go_ret
 exact ⟨zE_,zb0 HB.out⟩
/-! ### laws_FnExactSizeOf: function 7 -/
def laws_FnExactSizeOf.f (k : Nat) (l0 : List (S51)) : Option (Bool) := (laws_szOpS.f l0 1048576).bind fun t317 => (if t317 < 0 then (some true) else ((laws_toOpS.f k l0).bind fun t318 => ((spec_SizeOf.f k t318).bind fun t321 => ((laws_toOpS.f k l0).bind fun t322 => ((impl_SizeOf.f k t322).bind fun t325 => (if t325 = t321 then ((laws_toOpS.f k l0).bind fun t326 => ((laws_eqOpS.f k t322 t326).bind fun t329 => (if t329 = true then (some true) else (some false)))) else (some false)))))))
set_option maxRecDepth 100000 in
theorem laws_FnExactSizeOf.mono : ∀ a0 k,LeO (laws_FnExactSizeOf.f k a0) (laws_FnExactSizeOf.f (k + 1) a0) := by
 intro a0 k
 unfold laws_FnExactSizeOf.f
 repeat' first
   | (with_reducible exact impl_SizeOf.mono _ _)
   | (with_reducible exact laws_eqOpS.mono _ _ _)
   | (with_reducible exact laws_toOpS.mono _ _)
   | (with_reducible exact spec_SizeOf.mono _ _)
   | (with_reducible exact LeO.refl _)
   | (with_reducible exact LeO.none _)
   | (with_reducible refine LeO.ite ?_ ?_)
   | (with_reducible refine LeO.bind ?_ (fun _ => ?_))
   | exact impl_SizeOf.mono _ _
   | exact laws_eqOpS.mono _ _ _
   | exact laws_toOpS.mono _ _
   | exact spec_SizeOf.mono _ _
   | exact LeO.none _
   | refine LeO.ite ?_ ?_
   | refine LeO.bind ?_ (fun _ => ?_)
set_option maxHeartbeats 8000000 in
set_option maxRecDepth 100000 in
theorem laws_FnExactSizeOf.calls (k : Nat) (A0 : Option Addr) (c0 : Nat) (l0 : List (S51)) (r : Bool) (w : World) (hr0 : Kd.C k51 w A0 l0.length l0) (hc0 : l0.length ≤ c0) (h : laws_FnExactSizeOf.f k l0 = some r) :
  Calls Try.prog 7 #[.slice A0 l0.length c0] w fun e w' => e = .returned (.bool r) ∧ Below w.heap.size w w' := by
 have HR0 := As_ hr0
 have HC0 := As_ hc0
 clear hr0 hc0
 have HB := As_ (Below.refl w.heap.size w)
 have H : ((laws_szOpS.f l0 1048576).bind fun t317 => (if t317 < 0 then (some true) else ((laws_toOpS.f k l0).bind fun t318 => ((spec_SizeOf.f k t318).bind fun t321 => ((laws_toOpS.f k l0).bind fun t322 => ((impl_SizeOf.f k t322).bind fun t325 => (if t325 = t321 then ((laws_toOpS.f k l0).bind fun t326 => ((laws_eqOpS.f k t322 t326).bind fun t329 => (if t329 = true then (some true) else (some false)))) else (some false)))))))) = some r := h
 clear h
 replace H := obS H
 obtain ⟨t317,A20,H⟩ := H
 replace H : (if t317 < 0 then (some true) else ((laws_toOpS.f k l0).bind fun t318 => ((spec_SizeOf.f k t318).bind fun t321 => ((laws_toOpS.f k l0).bind fun t322 => ((impl_SizeOf.f k t322).bind fun t325 => (if t325 = t321 then ((laws_toOpS.f k l0).bind fun t326 => ((laws_eqOpS.f k t322 t326).bind fun t329 => (if t329 = true then (some true) else (some false)))) else (some false))))))) = some r := H
 have A2 := As_ A20
 clear A20
 by_cases c3 : t317 < 0
 ·rw [if_pos c3] at H
  have c3b0 : decide (t317 < 0) = true := deT c3
  clear c3
  obtain rfl := Option.some.inj H
  go_enter Try.func7,Try.ntmps7
  go_wp2_with (first|((with_reducible refine gate_callee (f := 15) rfl ?_);refine goesL_ (some 9) rfl rfl Try.func15 (by kernel_rfl) rfl #[.slice A0 l0.length c0,.int .i64 1048576] rfl zM_ ?_;(with_reducible refine (laws_szOpS.calls _ _ l0 1048576 t317 _ ?side1 ?side2 A2.out).mono ?_);(case side1 => repeat (first|exact HR0.out|(with_reducible refine Kd.C_alloc ?_ _)|(with_reducible refine Kd.C_drewN ?_ _)|(with_reducible refine Kd.C_drew ?_)));(case side2 => exact HC0.out);rintro e w' ⟨rfl,⟨nd,rfl⟩⟩;refine ⟨_,rfl,?_⟩))
  go_ret
  exact ⟨zE_,zb0 HB.out⟩
 rw [if_neg c3] at H
 have c3b0 : decide (t317 < 0) = false := deF c3
 clear c3
 replace H := obS H
 obtain ⟨t318,A40,H⟩ := H
 replace H : ((spec_SizeOf.f k t318).bind fun t321 => ((laws_toOpS.f k l0).bind fun t322 => ((impl_SizeOf.f k t322).bind fun t325 => (if t325 = t321 then ((laws_toOpS.f k l0).bind fun t326 => ((laws_eqOpS.f k t322 t326).bind fun t329 => (if t329 = true then (some true) else (some false)))) else (some false))))) = some r := H
 have A4 := As_ A40
 clear A40
 replace H := obS H
 obtain ⟨t321,A50,H⟩ := H
 replace H : ((laws_toOpS.f k l0).bind fun t322 => ((impl_SizeOf.f k t322).bind fun t325 => (if t325 = t321 then ((laws_toOpS.f k l0).bind fun t326 => ((laws_eqOpS.f k t322 t326).bind fun t329 => (if t329 = true then (some true) else (some false)))) else (some false)))) = some r := H
 have A5 := As_ A50
 clear A50
 replace H := obS H
 obtain ⟨t322,A60,H⟩ := H
 replace H : ((impl_SizeOf.f k t322).bind fun t325 => (if t325 = t321 then ((laws_toOpS.f k l0).bind fun t326 => ((laws_eqOpS.f k t322 t326).bind fun t329 => (if t329 = true then (some true) else (some false)))) else (some false))) = some r := H
 have A6 := As_ A60
 clear A60
 replace H := obS H
 obtain ⟨t325,A70,H⟩ := H
 replace H : (if t325 = t321 then ((laws_toOpS.f k l0).bind fun t326 => ((laws_eqOpS.f k t322 t326).bind fun t329 => (if t329 = true then (some true) else (some false)))) else (some false)) = some r := H
 have A7 := As_ A70
 clear A70
 by_cases c8 : t325 = t321
 rotate_left
 ·rw [if_neg c8] at H
  have c8b0 : (t325 == t321) = false := beq_eq_false_iff_ne.mpr c8
  have c8b1 : (t325 != t321) = true := bne_iff_ne.mpr c8
  obtain rfl := Option.some.inj H
  go_enter Try.func7,Try.ntmps7
  go_wp2_with (first|((with_reducible refine gate_callee (f := 15) rfl ?_);refine goesL_ (some 9) rfl rfl Try.func15 (by kernel_rfl) rfl #[.slice A0 l0.length c0,.int .i64 1048576] rfl zM_ ?_;(with_reducible refine (laws_szOpS.calls _ _ l0 1048576 t317 _ ?side1 ?side2 A2.out).mono ?_);(case side1 => repeat (first|exact HR0.out|(with_reducible refine Kd.C_alloc ?_ _)|(with_reducible refine Kd.C_drewN ?_ _)|(with_reducible refine Kd.C_drew ?_)));(case side2 => exact HC0.out);rintro e w' ⟨rfl,⟨nd,rfl⟩⟩;refine ⟨_,rfl,?_⟩)|((with_reducible refine gate_callee (f := 17) rfl ?_);refine goesL_ (some 13) rfl rfl Try.func17 (by kernel_rfl) rfl #[.slice A0 l0.length c0] rfl zM_ ?_;(with_reducible refine (laws_toOpS.calls k _ _ l0 t318 _ ?side1 ?side2 A4.out).mono ?_);(case side1 => repeat (first|exact HR0.out|(with_reducible refine Kd.C_alloc ?_ _)|(with_reducible refine Kd.C_drewN ?_ _)|(with_reducible refine Kd.C_drew ?_)));(case side2 => exact HC0.out);rintro e w30 ⟨v319,rfl,ho0,hb⟩;refine ⟨_,rfl,?_⟩;have n0_ := As_ (Kd.R_lower ho0 (bwZ (zb0 HB.out)));have n1_ := As_ (bwT (zb0 HB.out) hb);clear HB;revert n0_ n1_;intro HO320 HB;obtain ⟨Ao31,co31,eo31⟩ := Kd.R_slice HO320.out;subst eo31)|((with_reducible refine gate_callee (f := 30) rfl ?_);refine goesL_ (some 14) rfl rfl Try.func30 (by kernel_rfl) rfl #[.slice Ao31 t318.length co31] rfl zM_ ?_;(with_reducible refine (spec_SizeOf.calls k _ _ t318 t321 _ ?side1 ?side2 A5.out).mono ?_);(case side1 => exact zC_ (Kd.R_reads' HO320.out).2.2);(case side2 => exact (Kd.R_reads' HO320.out).2.1);rintro e w32 ⟨rfl,hb⟩;refine ⟨_,rfl,?_⟩;have n0_ := As_ (Kd.R_below (zR_ HO320.out) hb);have n1_ := As_ (bwT (zb0 HB.out) hb);clear HO320 HB;revert n0_ n1_;intro HO320 HB)|((with_reducible refine gate_callee (f := 17) rfl ?_);refine goesL_ (some 16) rfl rfl Try.func17 (by kernel_rfl) rfl #[.slice A0 l0.length c0] rfl zM_ ?_;(with_reducible refine (laws_toOpS.calls k _ _ l0 t322 _ ?side1 ?side2 A6.out).mono ?_);(case side1 => exact zC_ (Kd.C_below HR0.out HB.out));(case side2 => exact HC0.out);rintro e w33 ⟨v323,rfl,ho0,hb⟩;refine ⟨_,rfl,?_⟩;have n0_ := As_ (Kd.R_elder' (zR_ HO320.out) (Kd.R_base ho0) hb);have n1_ := As_ (Kd.R_lower (Kd.R_new' ho0 (Kd.R_lt (zR_ HO320.out))) (bwZ (zb0 HB.out)));have n2_ := As_ (bwT (zb0 HB.out) hb);clear HO320 HB;revert n0_ n1_ n2_;intro HO320 HO324 HB;obtain ⟨Ao34,co34,eo34⟩ := Kd.R_slice HO324.out;subst eo34)|((with_reducible refine gate_callee (f := 31) rfl ?_);refine goesL_ (some 18) rfl rfl Try.func31 (by kernel_rfl) rfl #[.slice Ao34 t322.length co34] rfl zM_ ?_;(with_reducible refine (impl_SizeOf.calls k _ _ t322 t325 _ ?side1 ?side2 A7.out).mono ?_);(case side1 => exact zC_ (Kd.R_reads' HO324.out).2.2);(case side2 => exact (Kd.R_reads' HO324.out).2.1);rintro e w35 ⟨rfl,hb⟩;refine ⟨_,rfl,?_⟩;have n0_ := As_ (Kd.R_below (zR_ HO320.out) hb);have n1_ := As_ (Kd.R_below (zR_ HO324.out) hb);have n2_ := As_ (bwT (zb0 HB.out) hb);clear HO320 HO324 HB;revert n0_ n1_ n2_;intro HO320 HO324 HB))
  go_ret
  exact ⟨zE_,zb0 HB.out⟩

 rw [if_pos c8] at H
 have c8b0 : (t325 == t321) = true := beq_iff_eq.mpr c8
 have c8b1 : (t325 != t321) = false := bne_eq_false_iff_eq.mpr c8
 clear c8
 replace H := obS H
 obtain ⟨t326,A90,H⟩ := H
 replace H : ((laws_eqOpS.f k t322 t326).bind fun t329 => (if t329 = true then (some true) else (some false))) = some r := H
 have A9 := As_ A90
 clear A90
 replace H := obS H
 obtain ⟨t329,A100,H⟩ := H
 replace H : (if t329 = true then (some true) else (some false)) = some r := H
 have A10 := As_ A100
 clear A100
 by_cases c11 : t329 = true
 ·subst c11
  have H1 : (some true) = some r := by rw [if_pos rfl] at H;exact H
  clear H
  have H := H1
  clear H1
  obtain rfl := Option.some.inj H
  go_enter Try.func7,Try.ntmps7
  go_wp2_with (first|((with_reducible refine gate_callee (f := 15) rfl ?_);refine goesL_ (some 9) rfl rfl Try.func15 (by kernel_rfl) rfl #[.slice A0 l0.length c0,.int .i64 1048576] rfl zM_ ?_;(with_reducible refine (laws_szOpS.calls _ _ l0 1048576 t317 _ ?side1 ?side2 A2.out).mono ?_);(case side1 => repeat (first|exact HR0.out|(with_reducible refine Kd.C_alloc ?_ _)|(with_reducible refine Kd.C_drewN ?_ _)|(with_reducible refine Kd.C_drew ?_)));(case side2 => exact HC0.out);rintro e w' ⟨rfl,⟨nd,rfl⟩⟩;refine ⟨_,rfl,?_⟩)|((with_reducible refine gate_callee (f := 17) rfl ?_);refine goesL_ (some 13) rfl rfl Try.func17 (by kernel_rfl) rfl #[.slice A0 l0.length c0] rfl zM_ ?_;(with_reducible refine (laws_toOpS.calls k _ _ l0 t318 _ ?side1 ?side2 A4.out).mono ?_);(case side1 => repeat (first|exact HR0.out|(with_reducible refine Kd.C_alloc ?_ _)|(with_reducible refine Kd.C_drewN ?_ _)|(with_reducible refine Kd.C_drew ?_)));(case side2 => exact HC0.out);rintro e w12 ⟨v319,rfl,ho0,hb⟩;refine ⟨_,rfl,?_⟩;have n0_ := As_ (Kd.R_lower ho0 (bwZ (zb0 HB.out)));have n1_ := As_ (bwT (zb0 HB.out) hb);clear HB;revert n0_ n1_;intro HO320 HB;obtain ⟨Ao13,co13,eo13⟩ := Kd.R_slice HO320.out;subst eo13)|((with_reducible refine gate_callee (f := 30) rfl ?_);refine goesL_ (some 14) rfl rfl Try.func30 (by kernel_rfl) rfl #[.slice Ao13 t318.length co13] rfl zM_ ?_;(with_reducible refine (spec_SizeOf.calls k _ _ t318 t321 _ ?side1 ?side2 A5.out).mono ?_);(case side1 => exact zC_ (Kd.R_reads' HO320.out).2.2);(case side2 => exact (Kd.R_reads' HO320.out).2.1);rintro e w14 ⟨rfl,hb⟩;refine ⟨_,rfl,?_⟩;have n0_ := As_ (Kd.R_below (zR_ HO320.out) hb);have n1_ := As_ (bwT (zb0 HB.out) hb);clear HO320 HB;revert n0_ n1_;intro HO320 HB)|((with_reducible refine gate_callee (f := 17) rfl ?_);refine goesL_ (some 16) rfl rfl Try.func17 (by kernel_rfl) rfl #[.slice A0 l0.length c0] rfl zM_ ?_;(with_reducible refine (laws_toOpS.calls k _ _ l0 t322 _ ?side1 ?side2 A6.out).mono ?_);(case side1 => exact zC_ (Kd.C_below HR0.out HB.out));(case side2 => exact HC0.out);rintro e w15 ⟨v323,rfl,ho0,hb⟩;refine ⟨_,rfl,?_⟩;have n0_ := As_ (Kd.R_elder' (zR_ HO320.out) (Kd.R_base ho0) hb);have n1_ := As_ (Kd.R_lower (Kd.R_new' ho0 (Kd.R_lt (zR_ HO320.out))) (bwZ (zb0 HB.out)));have n2_ := As_ (bwT (zb0 HB.out) hb);clear HO320 HB;revert n0_ n1_ n2_;intro HO320 HO324 HB;obtain ⟨Ao16,co16,eo16⟩ := Kd.R_slice HO324.out;subst eo16)|((with_reducible refine gate_callee (f := 31) rfl ?_);refine goesL_ (some 18) rfl rfl Try.func31 (by kernel_rfl) rfl #[.slice Ao16 t322.length co16] rfl zM_ ?_;(with_reducible refine (impl_SizeOf.calls k _ _ t322 t325 _ ?side1 ?side2 A7.out).mono ?_);(case side1 => exact zC_ (Kd.R_reads' HO324.out).2.2);(case side2 => exact (Kd.R_reads' HO324.out).2.1);rintro e w17 ⟨rfl,hb⟩;refine ⟨_,rfl,?_⟩;have n0_ := As_ (Kd.R_below (zR_ HO320.out) hb);have n1_ := As_ (Kd.R_below (zR_ HO324.out) hb);have n2_ := As_ (bwT (zb0 HB.out) hb);clear HO320 HO324 HB;revert n0_ n1_ n2_;intro HO320 HO324 HB)|((with_reducible refine gate_callee (f := 17) rfl ?_);refine goesL_ (some 24) rfl rfl Try.func17 (by kernel_rfl) rfl #[.slice A0 l0.length c0] rfl zM_ ?_;(with_reducible refine (laws_toOpS.calls k _ _ l0 t326 _ ?side1 ?side2 A9.out).mono ?_);(case side1 => exact zC_ (Kd.C_below HR0.out HB.out));(case side2 => exact HC0.out);rintro e w18 ⟨v327,rfl,ho0,hb⟩;refine ⟨_,rfl,?_⟩;have n0_ := As_ (Kd.R_elder' (zR_ HO320.out) (Kd.R_base ho0) hb);have n1_ := As_ (Kd.R_elder' (zR_ HO324.out) (Kd.R_base ho0) hb);have n2_ := As_ (Kd.R_lower (Kd.R_new' (Kd.R_new' ho0 (Kd.R_lt (zR_ HO320.out))) (Kd.R_lt (zR_ HO324.out))) (bwZ (zb0 HB.out)));have n3_ := As_ (bwT (zb0 HB.out) hb);clear HO320 HO324 HB;revert n0_ n1_ n2_ n3_;intro HO320 HO324 HO328 HB;obtain ⟨Ao19,co19,eo19⟩ := Kd.R_slice HO328.out;subst eo19)|((with_reducible refine gate_callee (f := 19) rfl ?_);refine goesL_ (some 25) rfl rfl Try.func19 (by kernel_rfl) rfl #[.slice Ao16 t322.length co16,.slice Ao19 t326.length co19] rfl zM_ ?_;(with_reducible refine (laws_eqOpS.calls k _ _ t322 _ _ t326 true _ ?side1 ?side2 ?side3 ?side4 A10.out).mono ?_);(case side1 => exact zC_ (Kd.R_reads' HO324.out).2.2);(case side2 => exact (Kd.R_reads' HO324.out).2.1);(case side3 => exact zC_ (Kd.R_reads' HO328.out).2.2);(case side4 => exact (Kd.R_reads' HO328.out).2.1);rintro e w20 ⟨rfl,hb⟩;refine ⟨_,rfl,?_⟩;have n0_ := As_ (Kd.R_below (zR_ HO320.out) hb);have n1_ := As_ (Kd.R_below (zR_ HO324.out) hb);have n2_ := As_ (Kd.R_below (zR_ HO328.out) hb);have n3_ := As_ (bwT (zb0 HB.out) hb);clear HO320 HO324 HO328 HB;revert n0_ n1_ n2_ n3_;intro HO320 HO324 HO328 HB))
  go_ret
  exact ⟨zE_,zb0 HB.out⟩
 replace c11 := Bool.eq_false_iff.mpr c11
 subst c11
 have H1 : (some false) = some r := by rw [if_neg (show ¬ (false = true) by decide)] at H;exact H
 clear H
 have H := H1
 clear H1
 obtain rfl := Option.some.inj H
 go_enter Try.func7,Try.ntmps7
 go_wp2_with (first|((with_reducible refine gate_callee (f := 15) rfl ?_);refine goesL_ (some 9) rfl rfl Try.func15 (by kernel_rfl) rfl #[.slice A0 l0.length c0,.int .i64 1048576] rfl zM_ ?_;(with_reducible refine (laws_szOpS.calls _ _ l0 1048576 t317 _ ?side1 ?side2 A2.out).mono ?_);(case side1 => repeat (first|exact HR0.out|(with_reducible refine Kd.C_alloc ?_ _)|(with_reducible refine Kd.C_drewN ?_ _)|(with_reducible refine Kd.C_drew ?_)));(case side2 => exact HC0.out);rintro e w' ⟨rfl,⟨nd,rfl⟩⟩;refine ⟨_,rfl,?_⟩)|((with_reducible refine gate_callee (f := 17) rfl ?_);refine goesL_ (some 13) rfl rfl Try.func17 (by kernel_rfl) rfl #[.slice A0 l0.length c0] rfl zM_ ?_;(with_reducible refine (laws_toOpS.calls k _ _ l0 t318 _ ?side1 ?side2 A4.out).mono ?_);(case side1 => repeat (first|exact HR0.out|(with_reducible refine Kd.C_alloc ?_ _)|(with_reducible refine Kd.C_drewN ?_ _)|(with_reducible refine Kd.C_drew ?_)));(case side2 => exact HC0.out);rintro e w21 ⟨v319,rfl,ho0,hb⟩;refine ⟨_,rfl,?_⟩;have n0_ := As_ (Kd.R_lower ho0 (bwZ (zb0 HB.out)));have n1_ := As_ (bwT (zb0 HB.out) hb);clear HB;revert n0_ n1_;intro HO320 HB;obtain ⟨Ao22,co22,eo22⟩ := Kd.R_slice HO320.out;subst eo22)|((with_reducible refine gate_callee (f := 30) rfl ?_);refine goesL_ (some 14) rfl rfl Try.func30 (by kernel_rfl) rfl #[.slice Ao22 t318.length co22] rfl zM_ ?_;(with_reducible refine (spec_SizeOf.calls k _ _ t318 t321 _ ?side1 ?side2 A5.out).mono ?_);(case side1 => exact zC_ (Kd.R_reads' HO320.out).2.2);(case side2 => exact (Kd.R_reads' HO320.out).2.1);rintro e w23 ⟨rfl,hb⟩;refine ⟨_,rfl,?_⟩;have n0_ := As_ (Kd.R_below (zR_ HO320.out) hb);have n1_ := As_ (bwT (zb0 HB.out) hb);clear HO320 HB;revert n0_ n1_;intro HO320 HB)|((with_reducible refine gate_callee (f := 17) rfl ?_);refine goesL_ (some 16) rfl rfl Try.func17 (by kernel_rfl) rfl #[.slice A0 l0.length c0] rfl zM_ ?_;(with_reducible refine (laws_toOpS.calls k _ _ l0 t322 _ ?side1 ?side2 A6.out).mono ?_);(case side1 => exact zC_ (Kd.C_below HR0.out HB.out));(case side2 => exact HC0.out);rintro e w24 ⟨v323,rfl,ho0,hb⟩;refine ⟨_,rfl,?_⟩;have n0_ := As_ (Kd.R_elder' (zR_ HO320.out) (Kd.R_base ho0) hb);have n1_ := As_ (Kd.R_lower (Kd.R_new' ho0 (Kd.R_lt (zR_ HO320.out))) (bwZ (zb0 HB.out)));have n2_ := As_ (bwT (zb0 HB.out) hb);clear HO320 HB;revert n0_ n1_ n2_;intro HO320 HO324 HB;obtain ⟨Ao25,co25,eo25⟩ := Kd.R_slice HO324.out;subst eo25)|((with_reducible refine gate_callee (f := 31) rfl ?_);refine goesL_ (some 18) rfl rfl Try.func31 (by kernel_rfl) rfl #[.slice Ao25 t322.length co25] rfl zM_ ?_;(with_reducible refine (impl_SizeOf.calls k _ _ t322 t325 _ ?side1 ?side2 A7.out).mono ?_);(case side1 => exact zC_ (Kd.R_reads' HO324.out).2.2);(case side2 => exact (Kd.R_reads' HO324.out).2.1);rintro e w26 ⟨rfl,hb⟩;refine ⟨_,rfl,?_⟩;have n0_ := As_ (Kd.R_below (zR_ HO320.out) hb);have n1_ := As_ (Kd.R_below (zR_ HO324.out) hb);have n2_ := As_ (bwT (zb0 HB.out) hb);clear HO320 HO324 HB;revert n0_ n1_ n2_;intro HO320 HO324 HB)|((with_reducible refine gate_callee (f := 17) rfl ?_);refine goesL_ (some 24) rfl rfl Try.func17 (by kernel_rfl) rfl #[.slice A0 l0.length c0] rfl zM_ ?_;(with_reducible refine (laws_toOpS.calls k _ _ l0 t326 _ ?side1 ?side2 A9.out).mono ?_);(case side1 => exact zC_ (Kd.C_below HR0.out HB.out));(case side2 => exact HC0.out);rintro e w27 ⟨v327,rfl,ho0,hb⟩;refine ⟨_,rfl,?_⟩;have n0_ := As_ (Kd.R_elder' (zR_ HO320.out) (Kd.R_base ho0) hb);have n1_ := As_ (Kd.R_elder' (zR_ HO324.out) (Kd.R_base ho0) hb);have n2_ := As_ (Kd.R_lower (Kd.R_new' (Kd.R_new' ho0 (Kd.R_lt (zR_ HO320.out))) (Kd.R_lt (zR_ HO324.out))) (bwZ (zb0 HB.out)));have n3_ := As_ (bwT (zb0 HB.out) hb);clear HO320 HO324 HB;revert n0_ n1_ n2_ n3_;intro HO320 HO324 HO328 HB;obtain ⟨Ao28,co28,eo28⟩ := Kd.R_slice HO328.out;subst eo28)|((with_reducible refine gate_callee (f := 19) rfl ?_);refine goesL_ (some 25) rfl rfl Try.func19 (by kernel_rfl) rfl #[.slice Ao25 t322.length co25,.slice Ao28 t326.length co28] rfl zM_ ?_;(with_reducible refine (laws_eqOpS.calls k _ _ t322 _ _ t326 false _ ?side1 ?side2 ?side3 ?side4 A10.out).mono ?_);(case side1 => exact zC_ (Kd.R_reads' HO324.out).2.2);(case side2 => exact (Kd.R_reads' HO324.out).2.1);(case side3 => exact zC_ (Kd.R_reads' HO328.out).2.2);(case side4 => exact (Kd.R_reads' HO328.out).2.1);rintro e w29 ⟨rfl,hb⟩;refine ⟨_,rfl,?_⟩;have n0_ := As_ (Kd.R_below (zR_ HO320.out) hb);have n1_ := As_ (Kd.R_below (zR_ HO324.out) hb);have n2_ := As_ (Kd.R_below (zR_ HO328.out) hb);have n3_ := As_ (bwT (zb0 HB.out) hb);clear HO320 HO324 HO328 HB;revert n0_ n1_ n2_ n3_;intro HO320 HO324 HO328 HB))
 go_ret
 exact ⟨zE_,zb0 HB.out⟩
/-- THE ONE PURE STATEMENT of laws_FnExactSizeOf. -/
def laws_FnExactSizeOf.Pure : Prop := ∀ (l0 : List (S51)),(l0.length ≤ maxLen ∧ (∀ x_ ∈ l0,(Lit.int .i64 x_.f0).wf = true ∧ (Lit.int .i64 x_.f1).wf = true)) → ∃ k,laws_FnExactSizeOf.f k l0 = some true
theorem laws_FnExactSizeOf.walk (P : laws_FnExactSizeOf.Pure) (A0 : Option Addr) (c0 : Nat) (l0 : List (S51)) (w : World) (hr0 : Kd.C k51 w A0 l0.length l0) (hc0 : l0.length ≤ c0) (hg0 : l0.length ≤ maxLen ∧ (∀ x_ ∈ l0,(Lit.int .i64 x_.f0).wf = true ∧ (Lit.int .i64 x_.f1).wf = true)) :
  Calls Try.prog 7 #[.slice A0 l0.length c0] w fun e w' => e = .returned (.bool true) ∧ Below w.heap.size w w' := by
 obtain ⟨k,h⟩ := P l0 hg0
 refine (laws_FnExactSizeOf.calls k _ _ l0 true w hr0 hc0 h).mono ?_
 rintro e w' ⟨rfl,hd⟩
 exact ⟨rfl,hd⟩

end Go.Proofs.Ytonppkaobnfldaa.Q
