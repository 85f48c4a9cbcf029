-- Written by wip/tools/qprint.py (a program of this claim's author) by means of the kit's printer.
import Derived.Test.YtbokjhdhpmmpfaaQ0
import Derived.Test.YtbokjhdhpmmpfaaQ12
import Derived.Test.YtbokjhdhpmmpfaaQ13
import Derived.Test.YtbokjhdhpmmpfaaQ16
import Derived.Test.YtbokjhdhpmmpfaaQ17
import Derived.Test.YtbokjhdhpmmpfaaQ18
import Derived.Test.YtbokjhdhpmmpfaaQ19
import Derived.Test.YtbokjhdhpmmpfaaQ94
namespace Go.Proofs.Ytbokjhdhpmmpfaa.Q
open Go.RowKit Go.Proofs.YtbokjhdhpmmpfaaW.PrintWords Go.Proofs.YtbokjhdhpmmpfaaW.PrintLast Go.Proofs.YtbokjhdhpmmpfaaW.PrintMore
attribute [local go_sem] max2_int min2_int max_two min_two max_three min_three max_four min_four   -- for this text's walks alone
set_option linter.unusedVariables false
set_option linter.unusedSimpArgs false

/-! ### laws_FnExactRecoverStream: function 3 -/
def laws_FnExactRecoverStream.j0 : Nat → List Int → List (S75) → List (S75) → Bool → Option (Bool)
 | 0,_,_,_,_ => none
 | k + 1,x0,x3,x5,x39 => if x39 = true then (some false) else ((laws_markOpS.f k x5 1).bind fun bt264 => ((laws_heldOpS.f k bt264.2 1).bind fun t266 => (if t266 < 0 then (some false) else (if t266 = bt264.1 then ((laws_toIntS.f k x0).bind fun t267 => ((impl_RecoverStream.f k t267).bind fun t270 => ((laws_eqOpS.f k t270 x3).bind fun t273 => (if t273 = true then ((laws_heldOpS.f k bt264.2 1).bind fun t274 => (if t274 < 0 then (some false) else (if t274 = bt264.1 then (some true) else (some false)))) else (some false))))) else (some false)))))
def laws_FnExactRecoverStream.f (k : Nat) (l0 : List Int) : Option (Bool) := if (l0.length : Int) > 1048576 then (some true) else ((laws_toIntS.f k l0).bind fun t244 => ((spec_RecoverStream.f k t244).bind fun t247 => ((laws_toIntS.f k l0).bind fun t250 => ((impl_RecoverStream.f k t250).bind fun t253 => ((laws_eqOpS.f k t253 t247).bind fun t256 => (if t256 = true then ((laws_toIntS.f k l0).bind fun t257 => ((laws_eqIntS.f k t250 t257).bind fun t260 => (if t260 = true then ((laws_markIntS.f k t250 1).bind fun bt261 => (if bt261.1 < 0 then (laws_FnExactRecoverStream.j0 k l0 t247 t253 true) else ((laws_eqOpS.f k t253 t247).bind fun t263 => (laws_FnExactRecoverStream.j0 k l0 t247 t253 (!t263))))) else (some false)))) else (some false)))))))
set_option maxRecDepth 100000 in
theorem laws_FnExactRecoverStream.mono_l : ∀ k,(∀ y0 y1 y2 y3,LeO (laws_FnExactRecoverStream.j0 k y0 y1 y2 y3) (laws_FnExactRecoverStream.j0 (k + 1) y0 y1 y2 y3))
 | 0 => fun _ _ _ _ r h => (by cases h)
 | k + 1 => by
  have ih0 := laws_FnExactRecoverStream.mono_l k
  ·intro y0 y1 y2 y3
   unfold laws_FnExactRecoverStream.j0
   repeat' first
   | (with_reducible exact ih0 _ _ _ _)
   | (with_reducible exact impl_RecoverStream.mono _ _)
   | (with_reducible exact laws_eqIntS.mono _ _ _)
   | (with_reducible exact laws_eqOpS.mono _ _ _)
   | (with_reducible exact laws_heldOpS.mono _ _ _)
   | (with_reducible exact laws_markIntS.mono _ _ _)
   | (with_reducible exact laws_markOpS.mono _ _ _)
   | (with_reducible exact laws_toIntS.mono _ _)
   | (with_reducible exact spec_RecoverStream.mono _ _)
   | (with_reducible exact LeO.refl _)
   | (with_reducible exact LeO.none _)
   | (with_reducible refine LeO.ite ?_ ?_)
   | (with_reducible refine LeO.bind ?_ (fun _ => ?_))
   | exact ih0 _ _ _ _
   | exact impl_RecoverStream.mono _ _
   | exact laws_eqIntS.mono _ _ _
   | exact laws_eqOpS.mono _ _ _
   | exact laws_heldOpS.mono _ _ _
   | exact laws_markIntS.mono _ _ _
   | exact laws_markOpS.mono _ _ _
   | exact laws_toIntS.mono _ _
   | exact spec_RecoverStream.mono _ _
   | exact LeO.none _
   | refine LeO.ite ?_ ?_
   | refine LeO.bind ?_ (fun _ => ?_)
set_option maxRecDepth 100000 in
theorem laws_FnExactRecoverStream.mono : ∀ a0 k,LeO (laws_FnExactRecoverStream.f k a0) (laws_FnExactRecoverStream.f (k + 1) a0) := by
 intro a0 k
 have ih0 := laws_FnExactRecoverStream.mono_l k
 unfold laws_FnExactRecoverStream.f
 repeat' first
   | (with_reducible exact ih0 _ _ _ _)
   | (with_reducible exact impl_RecoverStream.mono _ _)
   | (with_reducible exact laws_eqIntS.mono _ _ _)
   | (with_reducible exact laws_eqOpS.mono _ _ _)
   | (with_reducible exact laws_heldOpS.mono _ _ _)
   | (with_reducible exact laws_markIntS.mono _ _ _)
   | (with_reducible exact laws_markOpS.mono _ _ _)
   | (with_reducible exact laws_toIntS.mono _ _)
   | (with_reducible exact spec_RecoverStream.mono _ _)
   | (with_reducible exact LeO.refl _)
   | (with_reducible exact LeO.none _)
   | (with_reducible refine LeO.ite ?_ ?_)
   | (with_reducible refine LeO.bind ?_ (fun _ => ?_))
   | exact ih0 _ _ _ _
   | exact impl_RecoverStream.mono _ _
   | exact laws_eqIntS.mono _ _ _
   | exact laws_eqOpS.mono _ _ _
   | exact laws_heldOpS.mono _ _ _
   | exact laws_markIntS.mono _ _ _
   | exact laws_markOpS.mono _ _ _
   | exact laws_toIntS.mono _ _
   | exact spec_RecoverStream.mono _ _
   | exact LeO.none _
   | refine LeO.ite ?_ ?_
   | refine LeO.bind ?_ (fun _ => ?_)
set_option maxHeartbeats 8000000 in
set_option maxRecDepth 100000 in
theorem laws_FnExactRecoverStream.calls (k : Nat) (A0 : Option Addr) (c0 : Nat) (l0 : List Int) (r : Bool) (w : World) (hr0 : Kd.C (Kd.int .i64) w A0 l0.length l0) (hc0 : l0.length ≤ c0) (h : laws_FnExactRecoverStream.f k l0 = some r) :
  Calls Try.prog 3 #[.slice A0 l0.length c0] w fun e w' => e = .returned (.bool r) ∧ Below w.heap.size w w' := by
 have HR0 := As_ hr0
 have HC0 := As_ hc0
 clear hr0 hc0
 have HB := As_ (Below.refl w.heap.size w)
 have H : (if (l0.length : Int) > 1048576 then (some true) else ((laws_toIntS.f k l0).bind fun t244 => ((spec_RecoverStream.f k t244).bind fun t247 => ((laws_toIntS.f k l0).bind fun t250 => ((impl_RecoverStream.f k t250).bind fun t253 => ((laws_eqOpS.f k t253 t247).bind fun t256 => (if t256 = true then ((laws_toIntS.f k l0).bind fun t257 => ((laws_eqIntS.f k t250 t257).bind fun t260 => (if t260 = true then ((laws_markIntS.f k t250 1).bind fun bt261 => (if bt261.1 < 0 then (laws_FnExactRecoverStream.j0 k l0 t247 t253 true) else ((laws_eqOpS.f k t253 t247).bind fun t263 => (laws_FnExactRecoverStream.j0 k l0 t247 t253 (!t263))))) else (some false)))) else (some false)))))))) = some r := h
 clear h
 by_cases c2 : (l0.length : Int) > 1048576
 ·rw [if_pos c2] at H
  have c2b0 : decide (1048576 < (l0.length : Int)) = true := deT c2
  have c2b1 : decide (1048576 < l0.length) = true := deT (by omega)
  clear c2
  obtain rfl := Option.some.inj H
  go_enter Try.func3,Try.ntmps3
  go_wp2
  go_ret
  exact ⟨zE_,zb0 HB.out⟩
 rw [if_neg c2] at H
 have c2b0 : decide (1048576 < (l0.length : Int)) = false := deF c2
 have c2b1 : decide (1048576 < l0.length) = false := deF (by omega)
 clear c2
 replace H := obS H
 obtain ⟨t244,A30,H⟩ := H
 replace H : ((spec_RecoverStream.f k t244).bind fun t247 => ((laws_toIntS.f k l0).bind fun t250 => ((impl_RecoverStream.f k t250).bind fun t253 => ((laws_eqOpS.f k t253 t247).bind fun t256 => (if t256 = true then ((laws_toIntS.f k l0).bind fun t257 => ((laws_eqIntS.f k t250 t257).bind fun t260 => (if t260 = true then ((laws_markIntS.f k t250 1).bind fun bt261 => (if bt261.1 < 0 then (laws_FnExactRecoverStream.j0 k l0 t247 t253 true) else ((laws_eqOpS.f k t253 t247).bind fun t263 => (laws_FnExactRecoverStream.j0 k l0 t247 t253 (!t263))))) else (some false)))) else (some false)))))) = some r := H
 have A3 := As_ A30
 clear A30
 replace H := obS H
 obtain ⟨t247,A40,H⟩ := H
 replace H : ((laws_toIntS.f k l0).bind fun t250 => ((impl_RecoverStream.f k t250).bind fun t253 => ((laws_eqOpS.f k t253 t247).bind fun t256 => (if t256 = true then ((laws_toIntS.f k l0).bind fun t257 => ((laws_eqIntS.f k t250 t257).bind fun t260 => (if t260 = true then ((laws_markIntS.f k t250 1).bind fun bt261 => (if bt261.1 < 0 then (laws_FnExactRecoverStream.j0 k l0 t247 t253 true) else ((laws_eqOpS.f k t253 t247).bind fun t263 => (laws_FnExactRecoverStream.j0 k l0 t247 t253 (!t263))))) else (some false)))) else (some false))))) = some r := H
 have A4 := As_ A40
 clear A40
 replace H := obS H
 obtain ⟨t250,A50,H⟩ := H
 replace H : ((impl_RecoverStream.f k t250).bind fun t253 => ((laws_eqOpS.f k t253 t247).bind fun t256 => (if t256 = true then ((laws_toIntS.f k l0).bind fun t257 => ((laws_eqIntS.f k t250 t257).bind fun t260 => (if t260 = true then ((laws_markIntS.f k t250 1).bind fun bt261 => (if bt261.1 < 0 then (laws_FnExactRecoverStream.j0 k l0 t247 t253 true) else ((laws_eqOpS.f k t253 t247).bind fun t263 => (laws_FnExactRecoverStream.j0 k l0 t247 t253 (!t263))))) else (some false)))) else (some false)))) = some r := H
 have A5 := As_ A50
 clear A50
 replace H := obS H
 obtain ⟨t253,A60,H⟩ := H
 replace H : ((laws_eqOpS.f k t253 t247).bind fun t256 => (if t256 = true then ((laws_toIntS.f k l0).bind fun t257 => ((laws_eqIntS.f k t250 t257).bind fun t260 => (if t260 = true then ((laws_markIntS.f k t250 1).bind fun bt261 => (if bt261.1 < 0 then (laws_FnExactRecoverStream.j0 k l0 t247 t253 true) else ((laws_eqOpS.f k t253 t247).bind fun t263 => (laws_FnExactRecoverStream.j0 k l0 t247 t253 (!t263))))) else (some false)))) else (some false))) = some r := H
 have A6 := As_ A60
 clear A60
 replace H := obS H
 obtain ⟨t256,A70,H⟩ := H
 replace H : (if t256 = true then ((laws_toIntS.f k l0).bind fun t257 => ((laws_eqIntS.f k t250 t257).bind fun t260 => (if t260 = true then ((laws_markIntS.f k t250 1).bind fun bt261 => (if bt261.1 < 0 then (laws_FnExactRecoverStream.j0 k l0 t247 t253 true) else ((laws_eqOpS.f k t253 t247).bind fun t263 => (laws_FnExactRecoverStream.j0 k l0 t247 t253 (!t263))))) else (some false)))) else (some false)) = some r := H
 have A7 := As_ A70
 clear A70
 by_cases c8 : t256 = true
 rotate_left
 ·replace c8 := Bool.eq_false_iff.mpr c8
  subst c8
  have H1 : (some false) = some r := by rw [if_neg (show ¬ (false = true) by decide)] at H;exact H
  clear H
  have H := H1
  clear H1
  obtain rfl := Option.some.inj H
  go_enter Try.func3,Try.ntmps3
  go_wp2_with (first|((with_reducible refine gate_callee (f := 13) rfl ?_);refine goesL_ (some 14) rfl rfl Try.func13 (by kernel_rfl) rfl #[.slice A0 l0.length c0] rfl zM_ ?_;(with_reducible refine (laws_toIntS.calls k _ _ l0 t244 _ ?side1 ?side2 A3.out).mono ?_);(case side1 => repeat (first|exact HR0.out|(with_reducible refine Kd.C_alloc ?_ _)|(with_reducible refine Kd.C_drewN ?_ _)|(with_reducible refine Kd.C_drew ?_)));(case side2 => exact HC0.out);rintro e w78 ⟨v245,rfl,ho0,hb⟩;refine ⟨_,rfl,?_⟩;have n0_ := As_ (Kd.R_lower ho0 (bwZ (zb0 HB.out)));have n1_ := As_ (bwT (zb0 HB.out) hb);clear HB;revert n0_ n1_;intro HO246 HB;obtain ⟨Ao79,co79,eo79⟩ := Kd.R_slice HO246.out;subst eo79)|((with_reducible refine gate_callee (f := 12) rfl ?_);refine goesL_ (some 15) rfl rfl Try.func12 (by kernel_rfl) rfl #[.slice Ao79 t244.length co79] rfl zM_ ?_;(with_reducible refine (spec_RecoverStream.calls k _ _ t244 t247 _ ?side1 ?side2 A4.out).mono ?_);(case side1 => exact zC_ (Kd.R_reads' HO246.out).2.2);(case side2 => exact (Kd.R_reads' HO246.out).2.1);rintro e w80 ⟨v248,rfl,ho0,hb⟩;refine ⟨_,rfl,?_⟩;have n0_ := As_ (Kd.R_below (zR_ HO246.out) hb);have n1_ := As_ (Kd.R_lower ho0 (bwZ (zb0 HB.out)));have n2_ := As_ (bwT (zb0 HB.out) hb);clear HO246 HB;revert n0_ n1_ n2_;intro HO246 HO249 HB)|((with_reducible refine gate_callee (f := 13) rfl ?_);refine goesL_ (some 17) rfl rfl Try.func13 (by kernel_rfl) rfl #[.slice A0 l0.length c0] rfl zM_ ?_;(with_reducible refine (laws_toIntS.calls k _ _ l0 t250 _ ?side1 ?side2 A5.out).mono ?_);(case side1 => exact zC_ (Kd.C_below HR0.out HB.out));(case side2 => exact HC0.out);rintro e w81 ⟨v251,rfl,ho0,hb⟩;refine ⟨_,rfl,?_⟩;have n0_ := As_ (Kd.R_elder' (zR_ HO246.out) (Kd.R_base ho0) hb);have n1_ := As_ (Kd.R_below (zR_ HO249.out) hb);have n2_ := As_ (Kd.R_lower (Kd.R_new' ho0 (Kd.R_lt (zR_ HO246.out))) (bwZ (zb0 HB.out)));have n3_ := As_ (bwT (zb0 HB.out) hb);clear HO246 HO249 HB;revert n0_ n1_ n2_ n3_;intro HO246 HO249 HO252 HB;obtain ⟨Ao82,co82,eo82⟩ := Kd.R_slice HO252.out;subst eo82)|((with_reducible refine gate_callee (f := 14) rfl ?_);refine goesL_ (some 19) rfl rfl Try.func14 (by kernel_rfl) rfl #[.slice Ao82 t250.length co82] rfl zM_ ?_;(with_reducible refine (impl_RecoverStream.calls k _ _ t250 t253 _ ?side1 ?side2 A6.out).mono ?_);(case side1 => exact zC_ (Kd.R_reads' HO252.out).2.2);(case side2 => exact (Kd.R_reads' HO252.out).2.1);rintro e w83 ⟨Ao84,co84,rfl,ho0,hb⟩;refine ⟨_,rfl,?_⟩;have n0_ := As_ (Kd.R_below (zR_ HO246.out) hb);have n1_ := As_ (Kd.R_elder' (zR_ HO249.out) (Kd.R_base ho0) hb);have n2_ := As_ (Kd.R_below (zR_ HO252.out) hb);have n3_ := As_ (Kd.R_lower (Kd.R_new' ho0 (Kd.R_lt (zR_ HO249.out))) (bwZ (zb0 HB.out)));have n4_ := As_ (bwT (zb0 HB.out) hb);clear HO246 HO249 HO252 HB;revert n0_ n1_ n2_ n3_ n4_;intro HO246 HO249 HO252 HO255 HB;obtain ⟨Ao85,co85,eo85⟩ := Kd.R_slice HO249.out;subst eo85)|((with_reducible refine gate_callee (f := 15) rfl ?_);refine goesL_ (some 22) rfl rfl Try.func15 (by kernel_rfl) rfl #[.slice Ao84 t253.length t253.length,.slice Ao85 t247.length co85] rfl zM_ ?_;(with_reducible refine (laws_eqOpS.calls k _ _ t253 _ _ t247 false _ ?side1 ?side2 ?side3 ?side4 A7.out).mono ?_);(case side1 => exact zC_ (Kd.R_reads' HO255.out).2.2);(case side2 => exact Nat.le_refl _);(case side3 => exact zC_ (Kd.R_reads' HO249.out).2.2);(case side4 => exact (Kd.R_reads' HO249.out).2.1);rintro e w86 ⟨rfl,hb⟩;refine ⟨_,rfl,?_⟩;have n0_ := As_ (Kd.R_below (zR_ HO246.out) hb);have n1_ := As_ (Kd.R_below (zR_ HO249.out) hb);have n2_ := As_ (Kd.R_below (zR_ HO252.out) hb);have n3_ := As_ (Kd.R_below (zR_ HO255.out) hb);have n4_ := As_ (bwT (zb0 HB.out) hb);clear HO246 HO249 HO252 HO255 HB;revert n0_ n1_ n2_ n3_ n4_;intro HO246 HO249 HO252 HO255 HB))
  go_ret
  exact ⟨zE_,zb0 HB.out⟩

 subst c8
 have H1 : ((laws_toIntS.f k l0).bind fun t257 => ((laws_eqIntS.f k t250 t257).bind fun t260 => (if t260 = true then ((laws_markIntS.f k t250 1).bind fun bt261 => (if bt261.1 < 0 then (laws_FnExactRecoverStream.j0 k l0 t247 t253 true) else ((laws_eqOpS.f k t253 t247).bind fun t263 => (laws_FnExactRecoverStream.j0 k l0 t247 t253 (!t263))))) else (some false)))) = some r := by rw [if_pos rfl] at H;exact H
 clear H
 have H := H1
 clear H1
 replace H := obS H
 obtain ⟨t257,A90,H⟩ := H
 replace H : ((laws_eqIntS.f k t250 t257).bind fun t260 => (if t260 = true then ((laws_markIntS.f k t250 1).bind fun bt261 => (if bt261.1 < 0 then (laws_FnExactRecoverStream.j0 k l0 t247 t253 true) else ((laws_eqOpS.f k t253 t247).bind fun t263 => (laws_FnExactRecoverStream.j0 k l0 t247 t253 (!t263))))) else (some false))) = some r := H
 have A9 := As_ A90
 clear A90
 replace H := obS H
 obtain ⟨t260,A100,H⟩ := H
 replace H : (if t260 = true then ((laws_markIntS.f k t250 1).bind fun bt261 => (if bt261.1 < 0 then (laws_FnExactRecoverStream.j0 k l0 t247 t253 true) else ((laws_eqOpS.f k t253 t247).bind fun t263 => (laws_FnExactRecoverStream.j0 k l0 t247 t253 (!t263))))) else (some false)) = some r := H
 have A10 := As_ A100
 clear A100
 by_cases c11 : t260 = true
 rotate_left
 ·replace c11 := Bool.eq_false_iff.mpr c11
  subst c11
  have H1 : (some false) = some r := by rw [if_neg (show ¬ (false = true) by decide)] at H;exact H
  clear H
  have H := H1
  clear H1
  obtain rfl := Option.some.inj H
  go_enter Try.func3,Try.ntmps3
  go_wp2_with (first|((with_reducible refine gate_callee (f := 13) rfl ?_);refine goesL_ (some 14) rfl rfl Try.func13 (by kernel_rfl) rfl #[.slice A0 l0.length c0] rfl zM_ ?_;(with_reducible refine (laws_toIntS.calls k _ _ l0 t244 _ ?side1 ?side2 A3.out).mono ?_);(case side1 => repeat (first|exact HR0.out|(with_reducible refine Kd.C_alloc ?_ _)|(with_reducible refine Kd.C_drewN ?_ _)|(with_reducible refine Kd.C_drew ?_)));(case side2 => exact HC0.out);rintro e w67 ⟨v245,rfl,ho0,hb⟩;refine ⟨_,rfl,?_⟩;have n0_ := As_ (Kd.R_lower ho0 (bwZ (zb0 HB.out)));have n1_ := As_ (bwT (zb0 HB.out) hb);clear HB;revert n0_ n1_;intro HO246 HB;obtain ⟨Ao68,co68,eo68⟩ := Kd.R_slice HO246.out;subst eo68)|((with_reducible refine gate_callee (f := 12) rfl ?_);refine goesL_ (some 15) rfl rfl Try.func12 (by kernel_rfl) rfl #[.slice Ao68 t244.length co68] rfl zM_ ?_;(with_reducible refine (spec_RecoverStream.calls k _ _ t244 t247 _ ?side1 ?side2 A4.out).mono ?_);(case side1 => exact zC_ (Kd.R_reads' HO246.out).2.2);(case side2 => exact (Kd.R_reads' HO246.out).2.1);rintro e w69 ⟨v248,rfl,ho0,hb⟩;refine ⟨_,rfl,?_⟩;have n0_ := As_ (Kd.R_below (zR_ HO246.out) hb);have n1_ := As_ (Kd.R_lower ho0 (bwZ (zb0 HB.out)));have n2_ := As_ (bwT (zb0 HB.out) hb);clear HO246 HB;revert n0_ n1_ n2_;intro HO246 HO249 HB)|((with_reducible refine gate_callee (f := 13) rfl ?_);refine goesL_ (some 17) rfl rfl Try.func13 (by kernel_rfl) rfl #[.slice A0 l0.length c0] rfl zM_ ?_;(with_reducible refine (laws_toIntS.calls k _ _ l0 t250 _ ?side1 ?side2 A5.out).mono ?_);(case side1 => exact zC_ (Kd.C_below HR0.out HB.out));(case side2 => exact HC0.out);rintro e w70 ⟨v251,rfl,ho0,hb⟩;refine ⟨_,rfl,?_⟩;have n0_ := As_ (Kd.R_elder' (zR_ HO246.out) (Kd.R_base ho0) hb);have n1_ := As_ (Kd.R_below (zR_ HO249.out) hb);have n2_ := As_ (Kd.R_lower (Kd.R_new' ho0 (Kd.R_lt (zR_ HO246.out))) (bwZ (zb0 HB.out)));have n3_ := As_ (bwT (zb0 HB.out) hb);clear HO246 HO249 HB;revert n0_ n1_ n2_ n3_;intro HO246 HO249 HO252 HB;obtain ⟨Ao71,co71,eo71⟩ := Kd.R_slice HO252.out;subst eo71)|((with_reducible refine gate_callee (f := 14) rfl ?_);refine goesL_ (some 19) rfl rfl Try.func14 (by kernel_rfl) rfl #[.slice Ao71 t250.length co71] rfl zM_ ?_;(with_reducible refine (impl_RecoverStream.calls k _ _ t250 t253 _ ?side1 ?side2 A6.out).mono ?_);(case side1 => exact zC_ (Kd.R_reads' HO252.out).2.2);(case side2 => exact (Kd.R_reads' HO252.out).2.1);rintro e w72 ⟨Ao73,co73,rfl,ho0,hb⟩;refine ⟨_,rfl,?_⟩;have n0_ := As_ (Kd.R_below (zR_ HO246.out) hb);have n1_ := As_ (Kd.R_elder' (zR_ HO249.out) (Kd.R_base ho0) hb);have n2_ := As_ (Kd.R_below (zR_ HO252.out) hb);have n3_ := As_ (Kd.R_lower (Kd.R_new' ho0 (Kd.R_lt (zR_ HO249.out))) (bwZ (zb0 HB.out)));have n4_ := As_ (bwT (zb0 HB.out) hb);clear HO246 HO249 HO252 HB;revert n0_ n1_ n2_ n3_ n4_;intro HO246 HO249 HO252 HO255 HB;obtain ⟨Ao74,co74,eo74⟩ := Kd.R_slice HO249.out;subst eo74)|((with_reducible refine gate_callee (f := 15) rfl ?_);refine goesL_ (some 22) rfl rfl Try.func15 (by kernel_rfl) rfl #[.slice Ao73 t253.length t253.length,.slice Ao74 t247.length co74] rfl zM_ ?_;(with_reducible refine (laws_eqOpS.calls k _ _ t253 _ _ t247 true _ ?side1 ?side2 ?side3 ?side4 A7.out).mono ?_);(case side1 => exact zC_ (Kd.R_reads' HO255.out).2.2);(case side2 => exact Nat.le_refl _);(case side3 => exact zC_ (Kd.R_reads' HO249.out).2.2);(case side4 => exact (Kd.R_reads' HO249.out).2.1);rintro e w75 ⟨rfl,hb⟩;refine ⟨_,rfl,?_⟩;have n0_ := As_ (Kd.R_below (zR_ HO246.out) hb);have n1_ := As_ (Kd.R_below (zR_ HO249.out) hb);have n2_ := As_ (Kd.R_below (zR_ HO252.out) hb);have n3_ := As_ (Kd.R_below (zR_ HO255.out) hb);have n4_ := As_ (bwT (zb0 HB.out) hb);clear HO246 HO249 HO252 HO255 HB;revert n0_ n1_ n2_ n3_ n4_;intro HO246 HO249 HO252 HO255 HB)|((with_reducible refine gate_callee (f := 13) rfl ?_);refine goesL_ (some 26) rfl rfl Try.func13 (by kernel_rfl) rfl #[.slice A0 l0.length c0] rfl zM_ ?_;(with_reducible refine (laws_toIntS.calls k _ _ l0 t257 _ ?side1 ?side2 A9.out).mono ?_);(case side1 => exact zC_ (Kd.C_below HR0.out HB.out));(case side2 => exact HC0.out);rintro e w76 ⟨v258,rfl,ho0,hb⟩;refine ⟨_,rfl,?_⟩;have n0_ := As_ (Kd.R_elder' (zR_ HO246.out) (Kd.R_base ho0) hb);have n1_ := As_ (Kd.R_below (zR_ HO249.out) hb);have n2_ := As_ (Kd.R_elder' (zR_ HO252.out) (Kd.R_base ho0) hb);have n3_ := As_ (Kd.R_below (zR_ HO255.out) hb);have n4_ := As_ (Kd.R_lower (Kd.R_new' (Kd.R_new' ho0 (Kd.R_lt (zR_ HO246.out))) (Kd.R_lt (zR_ HO252.out))) (bwZ (zb0 HB.out)));have n5_ := As_ (bwT (zb0 HB.out) hb);clear HO246 HO249 HO252 HO255 HB;revert n0_ n1_ n2_ n3_ n4_ n5_;intro HO246 HO249 HO252 HO255 HO259 HB;obtain ⟨Ao77,co77,eo77⟩ := Kd.R_slice HO259.out;subst eo77)|((with_reducible refine gate_callee (f := 16) rfl ?_);refine goesL_ (some 27) rfl rfl Try.func16 (by kernel_rfl) rfl #[.slice Ao71 t250.length co71,.slice Ao77 t257.length co77] rfl zM_ ?_;(with_reducible refine (laws_eqIntS.calls k _ _ t250 _ _ t257 false _ ?side1 ?side2 ?side3 ?side4 A10.out).mono ?_);(case side1 => exact zC_ (Kd.R_reads' HO252.out).2.2);(case side2 => exact (Kd.R_reads' HO252.out).2.1);(case side3 => exact zC_ (Kd.R_reads' HO259.out).2.2);(case side4 => exact (Kd.R_reads' HO259.out).2.1);rintro e w' ⟨rfl,⟨nd,rfl⟩⟩;refine ⟨_,rfl,?_⟩))
  go_ret
  exact ⟨zE_,zb0 HB.out⟩
 subst c11
 have H1 : ((laws_markIntS.f k t250 1).bind fun bt261 => (if bt261.1 < 0 then (laws_FnExactRecoverStream.j0 k l0 t247 t253 true) else ((laws_eqOpS.f k t253 t247).bind fun t263 => (laws_FnExactRecoverStream.j0 k l0 t247 t253 (!t263))))) = some r := by rw [if_pos rfl] at H;exact H
 clear H
 have H := H1
 clear H1
 replace H := obS H
 obtain ⟨⟨t261,t262⟩,A120,H⟩ := H
 replace H : (if t261 < 0 then (laws_FnExactRecoverStream.j0 k l0 t247 t253 true) else ((laws_eqOpS.f k t253 t247).bind fun t263 => (laws_FnExactRecoverStream.j0 k l0 t247 t253 (!t263)))) = some r := H
 have A12 := As_ A120
 clear A120
 have HC13 := As_ H
 clear H
 go_enter Try.func3,Try.ntmps3
 go_upto_region 12 with (first|((with_reducible refine gate_callee (f := 13) rfl ?_);refine goesL_ (some 14) rfl rfl Try.func13 (by kernel_rfl) rfl #[.slice A0 l0.length c0] rfl zM_ ?_;(with_reducible refine (laws_toIntS.calls k _ _ l0 t244 _ ?side1 ?side2 A3.out).mono ?_);(case side1 => repeat (first|exact HR0.out|(with_reducible refine Kd.C_alloc ?_ _)|(with_reducible refine Kd.C_drewN ?_ _)|(with_reducible refine Kd.C_drew ?_)));(case side2 => exact HC0.out);rintro e w14 ⟨v245,rfl,ho0,hb⟩;refine ⟨_,rfl,?_⟩;have n0_ := As_ (Kd.R_lower ho0 (bwZ (zb0 HB.out)));have n1_ := As_ (bwT (zb0 HB.out) hb);clear HB;revert n0_ n1_;intro HO246 HB;obtain ⟨Ao15,co15,eo15⟩ := Kd.R_slice HO246.out;subst eo15)|((with_reducible refine gate_callee (f := 12) rfl ?_);refine goesL_ (some 15) rfl rfl Try.func12 (by kernel_rfl) rfl #[.slice Ao15 t244.length co15] rfl zM_ ?_;(with_reducible refine (spec_RecoverStream.calls k _ _ t244 t247 _ ?side1 ?side2 A4.out).mono ?_);(case side1 => exact zC_ (Kd.R_reads' HO246.out).2.2);(case side2 => exact (Kd.R_reads' HO246.out).2.1);rintro e w16 ⟨v248,rfl,ho0,hb⟩;refine ⟨_,rfl,?_⟩;have n0_ := As_ (Kd.R_below (zR_ HO246.out) hb);have n1_ := As_ (Kd.R_lower ho0 (bwZ (zb0 HB.out)));have n2_ := As_ (bwT (zb0 HB.out) hb);clear HO246 HB;revert n0_ n1_ n2_;intro HO246 HO249 HB)|((with_reducible refine gate_callee (f := 13) rfl ?_);refine goesL_ (some 17) rfl rfl Try.func13 (by kernel_rfl) rfl #[.slice A0 l0.length c0] rfl zM_ ?_;(with_reducible refine (laws_toIntS.calls k _ _ l0 t250 _ ?side1 ?side2 A5.out).mono ?_);(case side1 => exact zC_ (Kd.C_below HR0.out HB.out));(case side2 => exact HC0.out);rintro e w17 ⟨v251,rfl,ho0,hb⟩;refine ⟨_,rfl,?_⟩;have n0_ := As_ (Kd.R_elder' (zR_ HO246.out) (Kd.R_base ho0) hb);have n1_ := As_ (Kd.R_below (zR_ HO249.out) hb);have n2_ := As_ (Kd.R_lower (Kd.R_new' ho0 (Kd.R_lt (zR_ HO246.out))) (bwZ (zb0 HB.out)));have n3_ := As_ (bwT (zb0 HB.out) hb);clear HO246 HO249 HB;revert n0_ n1_ n2_ n3_;intro HO246 HO249 HO252 HB;obtain ⟨Ao18,co18,eo18⟩ := Kd.R_slice HO252.out;subst eo18)|((with_reducible refine gate_callee (f := 14) rfl ?_);refine goesL_ (some 19) rfl rfl Try.func14 (by kernel_rfl) rfl #[.slice Ao18 t250.length co18] rfl zM_ ?_;(with_reducible refine (impl_RecoverStream.calls k _ _ t250 t253 _ ?side1 ?side2 A6.out).mono ?_);(case side1 => exact zC_ (Kd.R_reads' HO252.out).2.2);(case side2 => exact (Kd.R_reads' HO252.out).2.1);rintro e w19 ⟨Ao20,co20,rfl,ho0,hb⟩;refine ⟨_,rfl,?_⟩;have n0_ := As_ (Kd.R_below (zR_ HO246.out) hb);have n1_ := As_ (Kd.R_elder' (zR_ HO249.out) (Kd.R_base ho0) hb);have n2_ := As_ (Kd.R_below (zR_ HO252.out) hb);have n3_ := As_ (Kd.R_lower (Kd.R_new' ho0 (Kd.R_lt (zR_ HO249.out))) (bwZ (zb0 HB.out)));have n4_ := As_ (bwT (zb0 HB.out) hb);clear HO246 HO249 HO252 HB;revert n0_ n1_ n2_ n3_ n4_;intro HO246 HO249 HO252 HO255 HB;obtain ⟨Ao21,co21,eo21⟩ := Kd.R_slice HO249.out;subst eo21)|((with_reducible refine gate_callee (f := 15) rfl ?_);refine goesL_ (some 22) rfl rfl Try.func15 (by kernel_rfl) rfl #[.slice Ao20 t253.length t253.length,.slice Ao21 t247.length co21] rfl zM_ ?_;(with_reducible refine (laws_eqOpS.calls k _ _ t253 _ _ t247 true _ ?side1 ?side2 ?side3 ?side4 A7.out).mono ?_);(case side1 => exact zC_ (Kd.R_reads' HO255.out).2.2);(case side2 => exact Nat.le_refl _);(case side3 => exact zC_ (Kd.R_reads' HO249.out).2.2);(case side4 => exact (Kd.R_reads' HO249.out).2.1);rintro e w22 ⟨rfl,hb⟩;refine ⟨_,rfl,?_⟩;have n0_ := As_ (Kd.R_below (zR_ HO246.out) hb);have n1_ := As_ (Kd.R_below (zR_ HO249.out) hb);have n2_ := As_ (Kd.R_below (zR_ HO252.out) hb);have n3_ := As_ (Kd.R_below (zR_ HO255.out) hb);have n4_ := As_ (bwT (zb0 HB.out) hb);clear HO246 HO249 HO252 HO255 HB;revert n0_ n1_ n2_ n3_ n4_;intro HO246 HO249 HO252 HO255 HB)|((with_reducible refine gate_callee (f := 13) rfl ?_);refine goesL_ (some 26) rfl rfl Try.func13 (by kernel_rfl) rfl #[.slice A0 l0.length c0] rfl zM_ ?_;(with_reducible refine (laws_toIntS.calls k _ _ l0 t257 _ ?side1 ?side2 A9.out).mono ?_);(case side1 => exact zC_ (Kd.C_below HR0.out HB.out));(case side2 => exact HC0.out);rintro e w23 ⟨v258,rfl,ho0,hb⟩;refine ⟨_,rfl,?_⟩;have n0_ := As_ (Kd.R_elder' (zR_ HO246.out) (Kd.R_base ho0) hb);have n1_ := As_ (Kd.R_below (zR_ HO249.out) hb);have n2_ := As_ (Kd.R_elder' (zR_ HO252.out) (Kd.R_base ho0) hb);have n3_ := As_ (Kd.R_below (zR_ HO255.out) hb);have n4_ := As_ (Kd.R_lower (Kd.R_new' (Kd.R_new' ho0 (Kd.R_lt (zR_ HO246.out))) (Kd.R_lt (zR_ HO252.out))) (bwZ (zb0 HB.out)));have n5_ := As_ (bwT (zb0 HB.out) hb);clear HO246 HO249 HO252 HO255 HB;revert n0_ n1_ n2_ n3_ n4_ n5_;intro HO246 HO249 HO252 HO255 HO259 HB;obtain ⟨Ao24,co24,eo24⟩ := Kd.R_slice HO259.out;subst eo24)|((with_reducible refine gate_callee (f := 16) rfl ?_);refine goesL_ (some 27) rfl rfl Try.func16 (by kernel_rfl) rfl #[.slice Ao18 t250.length co18,.slice Ao24 t257.length co24] rfl zM_ ?_;(with_reducible refine (laws_eqIntS.calls k _ _ t250 _ _ t257 true _ ?side1 ?side2 ?side3 ?side4 A10.out).mono ?_);(case side1 => exact zC_ (Kd.R_reads' HO252.out).2.2);(case side2 => exact (Kd.R_reads' HO252.out).2.1);(case side3 => exact zC_ (Kd.R_reads' HO259.out).2.2);(case side4 => exact (Kd.R_reads' HO259.out).2.1);rintro e w' ⟨rfl,⟨nd,rfl⟩⟩;refine ⟨_,rfl,?_⟩)|((with_reducible refine gate_callee (f := 17) rfl ?_);refine goesL_ (some 31) rfl rfl Try.func17 (by kernel_rfl) rfl #[.slice Ao18 t250.length co18,.int .i64 1] rfl zM_ ?_;(with_reducible refine (laws_markIntS.calls k (fun k_ => some k_ = (.slice Ao18 t250.length co18 : Value).ownBlock) (.slice Ao18 t250.length co18) t250 1 t261 t262 w _ ?side1 ?side2 A12.out).mono ?_);(case side1 => exact zb0 HB.out);(case side2 => exact Kd.R_tight rfl HO252.out);rintro e w25 ⟨rfl,hy0,hb,hkp⟩;refine ⟨_,rfl,?_⟩;have n0_ := As_ (Kd.R_mono (ok' := fun k_ => some k_ ≠ (.slice Ao18 t250.length co18 : Value).ownBlock ∧ some k_ ≠ (.slice Ao24 t257.length co24 : Value).ownBlock) (Kd.R_keptB (HO246.out) hkp (fun k_ hk_ hs_ => (hk_.1.2) hs_)) (fun k_ hk_ => ⟨hk_.1.1.2,hk_.1.2⟩));have n1_ := As_ (Kd.R_mono (ok' := fun k_ => some k_ ≠ (.slice Ao20 t253.length co20 : Value).ownBlock) (Kd.R_keptB ((Kd.R_apart' HO249.out (Kd.R_typed HO252.out) (by decide))) hkp (fun k_ hk_ hs_ => (hk_.2) hs_)) (fun k_ hk_ => hk_.1.1.2));have n2_ := As_ (Kd.R_reok rfl hy0 (fun k_ e_ => HO252.out.1 k_ e_));have n3_ := As_ (Kd.R_mono (ok' := fun k_ => some k_ ≠ (.slice Ao21 t247.length co21 : Value).ownBlock) (Kd.R_keptB ((Kd.R_apart' HO255.out (Kd.R_typed HO252.out) (by decide))) hkp (fun k_ hk_ hs_ => (hk_.2) hs_)) (fun k_ hk_ => hk_.1.1.2));have n4_ := As_ (Kd.R_mono (ok' := fun k_ => some k_ ≠ (.slice Ao15 t244.length co15 : Value).ownBlock ∧ some k_ ≠ (.slice Ao18 t250.length co18 : Value).ownBlock) (Kd.R_keptB (HO259.out) hkp (fun k_ hk_ hs_ => (hk_.2) hs_)) (fun k_ hk_ => ⟨hk_.1.1.2,hk_.1.2⟩));have n5_ := As_ (hb);clear HO246 HO249 HO252 HO255 HO259 HB;revert n0_ n1_ n2_ n3_ n4_ n5_;intro HO246 HO249 HO252 HO255 HO259 HB))
 (try simp only [Act.put,List.setIfInBounds_toArray,List.set_cons_zero,List.set_cons_succ])
 go_cut [39] (fun v39 wc => ∃ (kq : Nat) (x39_12 : Bool),v39 = .bool x39_12 ∧ Aside0 (laws_FnExactRecoverStream.j0 kq l0 t247 t253 x39_12 = some r) ∧ Aside0 (kq ≤ k) ∧ Aside0 (Kd.R k75 75 wc w.heap.size (fun k_ => some k_ ≠ ((.slice Ao20 t253.length co20) : Value).ownBlock) (.slice Ao21 t247.length co21) t247) ∧ Aside0 (Kd.R k75 75 wc w.heap.size (fun k_ => some k_ ≠ ((.slice Ao21 t247.length co21) : Value).ownBlock) (.slice Ao20 t253.length co20) t253) ∧ Aside0 (Below w.heap.size w wc))
 case first =>
  have H := HC13.out
  clear HC13
  by_cases c26 : t261 < 0
  ·rw [if_pos c26] at H
   have c26b0 : decide (t261 < 0) = true := deT c26
   clear c26
   (first|rw [c26b0]|(simp only [i64_w,i32_w];rw [c26b0])|skip)
   have H' := As_ H
   clear H
   go_wp2
   go_meet
   case rel => exact ⟨_,(true),zT_,H',⟨by first|omega|exact Nat.le_refl _⟩,⟨by (with_reducible repeat (first|apply Kd.R_alloc|apply Kd.R_drewN|apply Kd.R_drew));exact HO249.out⟩,⟨by (with_reducible repeat (first|apply Kd.R_alloc|apply Kd.R_drewN|apply Kd.R_drew));exact HO255.out⟩,⟨zb0 HB.out⟩⟩
  rw [if_neg c26] at H
  have c26b0 : decide (t261 < 0) = false := deF c26
  clear c26
  (first|rw [c26b0]|(simp only [i64_w,i32_w];rw [c26b0])|skip)
  replace H := obS H
  obtain ⟨t263,A270,H⟩ := H
  replace H : (laws_FnExactRecoverStream.j0 k l0 t247 t253 (!t263)) = some r := H
  have A27 := As_ A270
  clear A270
  have H' := As_ H
  clear H
  go_wp2_with (first|(go_at_call 15;(with_reducible refine (laws_eqOpS.calls k _ _ t253 _ _ t247 t263 _ ?side1 ?side2 ?side3 ?side4 A27.out).mono ?_);(case side1 => exact zC_ (Kd.R_reads' HO255.out).2.2);(case side2 => exact Nat.le_refl _);(case side3 => exact zC_ (Kd.R_reads' HO249.out).2.2);(case side4 => exact (Kd.R_reads' HO249.out).2.1);rintro e w28 ⟨rfl,hb⟩;have n0_ := As_ (Kd.R_below (zR_ HO246.out) hb);have n1_ := As_ (Kd.R_below (zR_ HO249.out) hb);have n2_ := As_ (Kd.R_below (zR_ HO252.out) hb);have n3_ := As_ (Kd.R_below (zR_ HO255.out) hb);have n4_ := As_ (Kd.R_below (zR_ HO259.out) hb);have n5_ := As_ (bwT (zb0 HB.out) hb);clear HO246 HO249 HO252 HO255 HO259 HB;revert n0_ n1_ n2_ n3_ n4_ n5_;intro HO246 HO249 HO252 HO255 HO259 HB))
  go_meet
  case rel => exact ⟨_,(!t263),zT_,H',⟨by first|omega|exact Nat.le_refl _⟩,⟨by (with_reducible repeat (first|apply Kd.R_alloc|apply Kd.R_drewN|apply Kd.R_drew));exact HO249.out⟩,⟨by (with_reducible repeat (first|apply Kd.R_alloc|apply Kd.R_drewN|apply Kd.R_drew));exact HO255.out⟩,⟨zb0 HB.out⟩⟩
 case rest =>
  clear HC13
  obtain ⟨kq,x39_12,rfl,HA,HJ12,HO_3,HO_5,HB⟩ := hcut
  cases kq with
  | zero => exact absurd HA.out (fun h_ => (by cases h_))
  | succ kj12 =>
   have H := HA.out
   clear HA
   simp only [laws_FnExactRecoverStream.j0] at H
   by_cases c29 : x39_12 = true
   ·subst c29
    have H1 : (some false) = some r := by rw [if_pos rfl] at H;exact H
    clear H
    have H := H1
    clear H1
    obtain rfl := Option.some.inj H
    go_wp2
    go_ret
    exact ⟨zE_,zb0 HB.out⟩
   replace c29 := Bool.eq_false_iff.mpr c29
   subst c29
   have H1 : ((laws_markOpS.f kj12 t253 1).bind fun bt264 => ((laws_heldOpS.f kj12 bt264.2 1).bind fun t266 => (if t266 < 0 then (some false) else (if t266 = bt264.1 then ((laws_toIntS.f kj12 l0).bind fun t267 => ((impl_RecoverStream.f kj12 t267).bind fun t270 => ((laws_eqOpS.f kj12 t270 t247).bind fun t273 => (if t273 = true then ((laws_heldOpS.f kj12 bt264.2 1).bind fun t274 => (if t274 < 0 then (some false) else (if t274 = bt264.1 then (some true) else (some false)))) else (some false))))) else (some false))))) = some r := by rw [if_neg (show ¬ (false = true) by decide)] at H;exact H
   clear H
   have H := H1
   clear H1
   replace H := obS H
   obtain ⟨⟨t264,t265⟩,A300,H⟩ := H
   replace H : ((laws_heldOpS.f kj12 t265 1).bind fun t266 => (if t266 < 0 then (some false) else (if t266 = t264 then ((laws_toIntS.f kj12 l0).bind fun t267 => ((impl_RecoverStream.f kj12 t267).bind fun t270 => ((laws_eqOpS.f kj12 t270 t247).bind fun t273 => (if t273 = true then ((laws_heldOpS.f kj12 t265 1).bind fun t274 => (if t274 < 0 then (some false) else (if t274 = t264 then (some true) else (some false)))) else (some false))))) else (some false)))) = some r := H
   have A30 := As_ A300
   clear A300
   replace H := obS H
   obtain ⟨t266,A310,H⟩ := H
   replace H : (if t266 < 0 then (some false) else (if t266 = t264 then ((laws_toIntS.f kj12 l0).bind fun t267 => ((impl_RecoverStream.f kj12 t267).bind fun t270 => ((laws_eqOpS.f kj12 t270 t247).bind fun t273 => (if t273 = true then ((laws_heldOpS.f kj12 t265 1).bind fun t274 => (if t274 < 0 then (some false) else (if t274 = t264 then (some true) else (some false)))) else (some false))))) else (some false))) = some r := H
   have A31 := As_ A310
   clear A310
   by_cases c32 : t266 < 0
   ·rw [if_pos c32] at H
    have c32b0 : decide (t266 < 0) = true := deT c32
    clear c32
    obtain rfl := Option.some.inj H
    go_wp2_with (first|((with_reducible refine gate_callee (f := 18) rfl ?_);refine goesL_ (some 42) rfl rfl Try.func18 (by kernel_rfl) rfl #[.slice Ao20 t253.length t253.length,.int .i64 1] rfl zM_ ?_;(with_reducible refine (laws_markOpS.cut t253.length kj12 (fun k_ => some k_ = (.slice Ao20 t253.length co20 : Value).ownBlock) Ao20 t253.length co20 t253 1 t264 t265 w _ ?side1 ?side2 A30.out).mono ?_);(case side1 => exact zb0 HB.out);(case side2 => exact Kd.R_tight rfl HO_5.out);rintro e w33 ⟨rfl,hy0,hb,hkp⟩;refine ⟨_,rfl,?_⟩;have n0_ := As_ (Kd.R_mono (ok' := fun k_ => some k_ ≠ (.slice Ao20 t253.length co20 : Value).ownBlock) (Kd.R_keptB (HO_3.out) hkp (fun k_ hk_ hs_ => (hk_) hs_)) (fun k_ hk_ => hk_.1));have n1_ := As_ (Kd.R_reok rfl hy0 (fun k_ e_ => HO_5.out.1 k_ e_));have n2_ := As_ (hb);clear HO_3 HO_5 HB;revert n0_ n1_ n2_;intro HO_3 HO_5 HB)|((with_reducible refine gate_callee (f := 19) rfl ?_);refine goesL_ (some 45) rfl rfl Try.func19 (by kernel_rfl) rfl #[.slice Ao20 t265.length t265.length,.int .i64 1] rfl (by (try simp only [List.map_toArray,List.map_cons,List.map_nil]);first|done|(rw [show t265.length = t253.length from (Kd.R_reads' HO_5.out).1.symm] <;> rfl)|rfl|(simp only [List.length_drop,List.length_take];rfl)) ?_;(with_reducible refine (laws_heldOpS.calls kj12 _ _ t265 1 t266 _ ?side1 ?side2 A31.out).mono ?_);(case side1 => exact zC_ (Kd.R_reads' HO_5.out).2.2);(case side2 => exact Nat.le_refl _);rintro e w' ⟨rfl,⟨nd,rfl⟩⟩;refine ⟨_,rfl,?_⟩))
    go_ret
    exact ⟨zE_,zb0 HB.out⟩
   rw [if_neg c32] at H
   have c32b0 : decide (t266 < 0) = false := deF c32
   clear c32
   by_cases c34 : t266 = t264
   rotate_left
   ·rw [if_neg c34] at H
    have c34b0 : (t266 == t264) = false := beq_eq_false_iff_ne.mpr c34
    have c34b1 : (t266 != t264) = true := bne_iff_ne.mpr c34
    obtain rfl := Option.some.inj H
    go_wp2_with (first|((with_reducible refine gate_callee (f := 18) rfl ?_);refine goesL_ (some 42) rfl rfl Try.func18 (by kernel_rfl) rfl #[.slice Ao20 t253.length t253.length,.int .i64 1] rfl zM_ ?_;(with_reducible refine (laws_markOpS.cut t253.length kj12 (fun k_ => some k_ = (.slice Ao20 t253.length co20 : Value).ownBlock) Ao20 t253.length co20 t253 1 t264 t265 w _ ?side1 ?side2 A30.out).mono ?_);(case side1 => exact zb0 HB.out);(case side2 => exact Kd.R_tight rfl HO_5.out);rintro e w66 ⟨rfl,hy0,hb,hkp⟩;refine ⟨_,rfl,?_⟩;have n0_ := As_ (Kd.R_mono (ok' := fun k_ => some k_ ≠ (.slice Ao20 t253.length co20 : Value).ownBlock) (Kd.R_keptB (HO_3.out) hkp (fun k_ hk_ hs_ => (hk_) hs_)) (fun k_ hk_ => hk_.1));have n1_ := As_ (Kd.R_reok rfl hy0 (fun k_ e_ => HO_5.out.1 k_ e_));have n2_ := As_ (hb);clear HO_3 HO_5 HB;revert n0_ n1_ n2_;intro HO_3 HO_5 HB)|((with_reducible refine gate_callee (f := 19) rfl ?_);refine goesL_ (some 45) rfl rfl Try.func19 (by kernel_rfl) rfl #[.slice Ao20 t265.length t265.length,.int .i64 1] rfl (by (try simp only [List.map_toArray,List.map_cons,List.map_nil]);first|done|(rw [show t265.length = t253.length from (Kd.R_reads' HO_5.out).1.symm] <;> rfl)|rfl|(simp only [List.length_drop,List.length_take];rfl)) ?_;(with_reducible refine (laws_heldOpS.calls kj12 _ _ t265 1 t266 _ ?side1 ?side2 A31.out).mono ?_);(case side1 => exact zC_ (Kd.R_reads' HO_5.out).2.2);(case side2 => exact Nat.le_refl _);rintro e w' ⟨rfl,⟨nd,rfl⟩⟩;refine ⟨_,rfl,?_⟩))
    go_ret
    exact ⟨zE_,zb0 HB.out⟩
   rw [if_pos c34] at H
   have c34b0 : (t266 == t264) = true := beq_iff_eq.mpr c34
   have c34b1 : (t266 != t264) = false := bne_eq_false_iff_eq.mpr c34
   clear c34
   replace H := obS H
   obtain ⟨t267,A350,H⟩ := H
   replace H : ((impl_RecoverStream.f kj12 t267).bind fun t270 => ((laws_eqOpS.f kj12 t270 t247).bind fun t273 => (if t273 = true then ((laws_heldOpS.f kj12 t265 1).bind fun t274 => (if t274 < 0 then (some false) else (if t274 = t264 then (some true) else (some false)))) else (some false)))) = some r := H
   have A35 := As_ A350
   clear A350
   replace H := obS H
   obtain ⟨t270,A360,H⟩ := H
   replace H : ((laws_eqOpS.f kj12 t270 t247).bind fun t273 => (if t273 = true then ((laws_heldOpS.f kj12 t265 1).bind fun t274 => (if t274 < 0 then (some false) else (if t274 = t264 then (some true) else (some false)))) else (some false))) = some r := H
   have A36 := As_ A360
   clear A360
   replace H := obS H
   obtain ⟨t273,A370,H⟩ := H
   replace H : (if t273 = true then ((laws_heldOpS.f kj12 t265 1).bind fun t274 => (if t274 < 0 then (some false) else (if t274 = t264 then (some true) else (some false)))) else (some false)) = some r := H
   have A37 := As_ A370
   clear A370
   by_cases c38 : t273 = true
   rotate_left
   ·replace c38 := Bool.eq_false_iff.mpr c38
    subst c38
    have H1 : (some false) = some r := by rw [if_neg (show ¬ (false = true) by decide)] at H;exact H
    clear H
    have H := H1
    clear H1
    obtain rfl := Option.some.inj H
    go_wp2_with (first|((with_reducible refine gate_callee (f := 18) rfl ?_);refine goesL_ (some 42) rfl rfl Try.func18 (by kernel_rfl) rfl #[.slice Ao20 t253.length t253.length,.int .i64 1] rfl zM_ ?_;(with_reducible refine (laws_markOpS.cut t253.length kj12 (fun k_ => some k_ = (.slice Ao20 t253.length co20 : Value).ownBlock) Ao20 t253.length co20 t253 1 t264 t265 w _ ?side1 ?side2 A30.out).mono ?_);(case side1 => exact zb0 HB.out);(case side2 => exact Kd.R_tight rfl HO_5.out);rintro e w60 ⟨rfl,hy0,hb,hkp⟩;refine ⟨_,rfl,?_⟩;have n0_ := As_ (Kd.R_mono (ok' := fun k_ => some k_ ≠ (.slice Ao20 t253.length co20 : Value).ownBlock) (Kd.R_keptB (HO_3.out) hkp (fun k_ hk_ hs_ => (hk_) hs_)) (fun k_ hk_ => hk_.1));have n1_ := As_ (Kd.R_reok rfl hy0 (fun k_ e_ => HO_5.out.1 k_ e_));have n2_ := As_ (hb);clear HO_3 HO_5 HB;revert n0_ n1_ n2_;intro HO_3 HO_5 HB)|((with_reducible refine gate_callee (f := 19) rfl ?_);refine goesL_ (some 45) rfl rfl Try.func19 (by kernel_rfl) rfl #[.slice Ao20 t265.length t265.length,.int .i64 1] rfl (by (try simp only [List.map_toArray,List.map_cons,List.map_nil]);first|done|(rw [show t265.length = t253.length from (Kd.R_reads' HO_5.out).1.symm] <;> rfl)|rfl|(simp only [List.length_drop,List.length_take];rfl)) ?_;(with_reducible refine (laws_heldOpS.calls kj12 _ _ t265 1 t266 _ ?side1 ?side2 A31.out).mono ?_);(case side1 => exact zC_ (Kd.R_reads' HO_5.out).2.2);(case side2 => exact Nat.le_refl _);rintro e w' ⟨rfl,⟨nd,rfl⟩⟩;refine ⟨_,rfl,?_⟩)|((with_reducible refine gate_callee (f := 13) rfl ?_);refine goesL_ (some 52) rfl rfl Try.func13 (by kernel_rfl) rfl #[.slice A0 l0.length c0] rfl zM_ ?_;(with_reducible refine (laws_toIntS.calls kj12 _ _ l0 t267 _ ?side1 ?side2 A35.out).mono ?_);(case side1 => repeat (first|exact (Kd.C_below HR0.out (zb0 HB.out))|(with_reducible refine Kd.C_alloc ?_ _)|(with_reducible refine Kd.C_drewN ?_ _)|(with_reducible refine Kd.C_drew ?_)));(case side2 => exact HC0.out);rintro e w61 ⟨v268,rfl,ho0,hb⟩;refine ⟨_,rfl,?_⟩;have n0_ := As_ (Kd.R_below (zR_ HO_3.out) hb);have n1_ := As_ (Kd.R_below (zR_ HO_5.out) hb);have n2_ := As_ (Kd.R_lower ho0 (bwZ (zb0 HB.out)));have n3_ := As_ (bwT (zb0 HB.out) hb);clear HO_3 HO_5 HB;revert n0_ n1_ n2_ n3_;intro HO_3 HO_5 HO269 HB;obtain ⟨Ao62,co62,eo62⟩ := Kd.R_slice HO269.out;subst eo62)|((with_reducible refine gate_callee (f := 14) rfl ?_);refine goesL_ (some 53) rfl rfl Try.func14 (by kernel_rfl) rfl #[.slice Ao62 t267.length co62] rfl zM_ ?_;(with_reducible refine (impl_RecoverStream.calls kj12 _ _ t267 t270 _ ?side1 ?side2 A36.out).mono ?_);(case side1 => exact zC_ (Kd.R_reads' HO269.out).2.2);(case side2 => exact (Kd.R_reads' HO269.out).2.1);rintro e w63 ⟨Ao64,co64,rfl,ho0,hb⟩;refine ⟨_,rfl,?_⟩;have n0_ := As_ (Kd.R_elder' (zR_ HO_3.out) (Kd.R_base ho0) hb);have n1_ := As_ (Kd.R_elder' (zR_ HO_5.out) (Kd.R_base ho0) hb);have n2_ := As_ (Kd.R_below (zR_ HO269.out) hb);have n3_ := As_ (Kd.R_lower (Kd.R_new' (Kd.R_new' ho0 (Kd.R_lt (zR_ HO_3.out))) (Kd.R_lt (zR_ HO_5.out))) (bwZ (zb0 HB.out)));have n4_ := As_ (bwT (zb0 HB.out) hb);clear HO_3 HO_5 HO269 HB;revert n0_ n1_ n2_ n3_ n4_;intro HO_3 HO_5 HO269 HO272 HB)|((with_reducible refine gate_callee (f := 15) rfl ?_);refine goesL_ (some 56) rfl rfl Try.func15 (by kernel_rfl) rfl #[.slice Ao64 t270.length t270.length,.slice Ao21 t247.length co21] rfl zM_ ?_;(with_reducible refine (laws_eqOpS.calls kj12 _ _ t270 _ _ t247 false _ ?side1 ?side2 ?side3 ?side4 A37.out).mono ?_);(case side1 => exact zC_ (Kd.R_reads' HO272.out).2.2);(case side2 => exact Nat.le_refl _);(case side3 => exact zC_ (Kd.R_reads' HO_3.out).2.2);(case side4 => exact (Kd.R_reads' HO_3.out).2.1);rintro e w65 ⟨rfl,hb⟩;refine ⟨_,rfl,?_⟩;have n0_ := As_ (Kd.R_below (zR_ HO_3.out) hb);have n1_ := As_ (Kd.R_below (zR_ HO_5.out) hb);have n2_ := As_ (Kd.R_below (zR_ HO269.out) hb);have n3_ := As_ (Kd.R_below (zR_ HO272.out) hb);have n4_ := As_ (bwT (zb0 HB.out) hb);clear HO_3 HO_5 HO269 HO272 HB;revert n0_ n1_ n2_ n3_ n4_;intro HO_3 HO_5 HO269 HO272 HB))
    go_ret
    exact ⟨zE_,zb0 HB.out⟩
   subst c38
   have H1 : ((laws_heldOpS.f kj12 t265 1).bind fun t274 => (if t274 < 0 then (some false) else (if t274 = t264 then (some true) else (some false)))) = some r := by rw [if_pos rfl] at H;exact H
   clear H
   have H := H1
   clear H1
   replace H := obS H
   obtain ⟨t274,A390,H⟩ := H
   replace H : (if t274 < 0 then (some false) else (if t274 = t264 then (some true) else (some false))) = some r := H
   have A39 := As_ A390
   clear A390
   by_cases c40 : t274 < 0
   ·rw [if_pos c40] at H
    have c40b0 : decide (t274 < 0) = true := deT c40
    clear c40
    obtain rfl := Option.some.inj H
    go_wp2_with (first|((with_reducible refine gate_callee (f := 18) rfl ?_);refine goesL_ (some 42) rfl rfl Try.func18 (by kernel_rfl) rfl #[.slice Ao20 t253.length t253.length,.int .i64 1] rfl zM_ ?_;(with_reducible refine (laws_markOpS.cut t253.length kj12 (fun k_ => some k_ = (.slice Ao20 t253.length co20 : Value).ownBlock) Ao20 t253.length co20 t253 1 t264 t265 w _ ?side1 ?side2 A30.out).mono ?_);(case side1 => exact zb0 HB.out);(case side2 => exact Kd.R_tight rfl HO_5.out);rintro e w41 ⟨rfl,hy0,hb,hkp⟩;refine ⟨_,rfl,?_⟩;have n0_ := As_ (Kd.R_mono (ok' := fun k_ => some k_ ≠ (.slice Ao20 t253.length co20 : Value).ownBlock) (Kd.R_keptB (HO_3.out) hkp (fun k_ hk_ hs_ => (hk_) hs_)) (fun k_ hk_ => hk_.1));have n1_ := As_ (Kd.R_reok rfl hy0 (fun k_ e_ => HO_5.out.1 k_ e_));have n2_ := As_ (hb);clear HO_3 HO_5 HB;revert n0_ n1_ n2_;intro HO_3 HO_5 HB)|((with_reducible refine gate_callee (f := 19) rfl ?_);refine goesL_ (some 45) rfl rfl Try.func19 (by kernel_rfl) rfl #[.slice Ao20 t265.length t265.length,.int .i64 1] rfl (by (try simp only [List.map_toArray,List.map_cons,List.map_nil]);first|done|(rw [show t265.length = t253.length from (Kd.R_reads' HO_5.out).1.symm] <;> rfl)|rfl|(simp only [List.length_drop,List.length_take];rfl)) ?_;(with_reducible refine (laws_heldOpS.calls kj12 _ _ t265 1 t266 _ ?side1 ?side2 A31.out).mono ?_);(case side1 => exact zC_ (Kd.R_reads' HO_5.out).2.2);(case side2 => exact Nat.le_refl _);rintro e w' ⟨rfl,⟨nd,rfl⟩⟩;refine ⟨_,rfl,?_⟩)|((with_reducible refine gate_callee (f := 13) rfl ?_);refine goesL_ (some 52) rfl rfl Try.func13 (by kernel_rfl) rfl #[.slice A0 l0.length c0] rfl zM_ ?_;(with_reducible refine (laws_toIntS.calls kj12 _ _ l0 t267 _ ?side1 ?side2 A35.out).mono ?_);(case side1 => repeat (first|exact (Kd.C_below HR0.out (zb0 HB.out))|(with_reducible refine Kd.C_alloc ?_ _)|(with_reducible refine Kd.C_drewN ?_ _)|(with_reducible refine Kd.C_drew ?_)));(case side2 => exact HC0.out);rintro e w42 ⟨v268,rfl,ho0,hb⟩;refine ⟨_,rfl,?_⟩;have n0_ := As_ (Kd.R_below (zR_ HO_3.out) hb);have n1_ := As_ (Kd.R_below (zR_ HO_5.out) hb);have n2_ := As_ (Kd.R_lower ho0 (bwZ (zb0 HB.out)));have n3_ := As_ (bwT (zb0 HB.out) hb);clear HO_3 HO_5 HB;revert n0_ n1_ n2_ n3_;intro HO_3 HO_5 HO269 HB;obtain ⟨Ao43,co43,eo43⟩ := Kd.R_slice HO269.out;subst eo43)|((with_reducible refine gate_callee (f := 14) rfl ?_);refine goesL_ (some 53) rfl rfl Try.func14 (by kernel_rfl) rfl #[.slice Ao43 t267.length co43] rfl zM_ ?_;(with_reducible refine (impl_RecoverStream.calls kj12 _ _ t267 t270 _ ?side1 ?side2 A36.out).mono ?_);(case side1 => exact zC_ (Kd.R_reads' HO269.out).2.2);(case side2 => exact (Kd.R_reads' HO269.out).2.1);rintro e w44 ⟨Ao45,co45,rfl,ho0,hb⟩;refine ⟨_,rfl,?_⟩;have n0_ := As_ (Kd.R_elder' (zR_ HO_3.out) (Kd.R_base ho0) hb);have n1_ := As_ (Kd.R_elder' (zR_ HO_5.out) (Kd.R_base ho0) hb);have n2_ := As_ (Kd.R_below (zR_ HO269.out) hb);have n3_ := As_ (Kd.R_lower (Kd.R_new' (Kd.R_new' ho0 (Kd.R_lt (zR_ HO_3.out))) (Kd.R_lt (zR_ HO_5.out))) (bwZ (zb0 HB.out)));have n4_ := As_ (bwT (zb0 HB.out) hb);clear HO_3 HO_5 HO269 HB;revert n0_ n1_ n2_ n3_ n4_;intro HO_3 HO_5 HO269 HO272 HB)|((with_reducible refine gate_callee (f := 15) rfl ?_);refine goesL_ (some 56) rfl rfl Try.func15 (by kernel_rfl) rfl #[.slice Ao45 t270.length t270.length,.slice Ao21 t247.length co21] rfl zM_ ?_;(with_reducible refine (laws_eqOpS.calls kj12 _ _ t270 _ _ t247 true _ ?side1 ?side2 ?side3 ?side4 A37.out).mono ?_);(case side1 => exact zC_ (Kd.R_reads' HO272.out).2.2);(case side2 => exact Nat.le_refl _);(case side3 => exact zC_ (Kd.R_reads' HO_3.out).2.2);(case side4 => exact (Kd.R_reads' HO_3.out).2.1);rintro e w46 ⟨rfl,hb⟩;refine ⟨_,rfl,?_⟩;have n0_ := As_ (Kd.R_below (zR_ HO_3.out) hb);have n1_ := As_ (Kd.R_below (zR_ HO_5.out) hb);have n2_ := As_ (Kd.R_below (zR_ HO269.out) hb);have n3_ := As_ (Kd.R_below (zR_ HO272.out) hb);have n4_ := As_ (bwT (zb0 HB.out) hb);clear HO_3 HO_5 HO269 HO272 HB;revert n0_ n1_ n2_ n3_ n4_;intro HO_3 HO_5 HO269 HO272 HB)|((with_reducible refine gate_callee (f := 19) rfl ?_);refine goesL_ (some 60) rfl rfl Try.func19 (by kernel_rfl) rfl #[.slice Ao20 t265.length t265.length,.int .i64 1] rfl (by (try simp only [List.map_toArray,List.map_cons,List.map_nil]);first|done|(rw [show t265.length = t253.length from (Kd.R_reads' HO_5.out).1.symm] <;> rfl)|rfl|(simp only [List.length_drop,List.length_take];rfl)) ?_;(with_reducible refine (laws_heldOpS.calls kj12 _ _ t265 1 t274 _ ?side1 ?side2 A39.out).mono ?_);(case side1 => exact zC_ (Kd.R_reads' HO_5.out).2.2);(case side2 => exact Nat.le_refl _);rintro e w' ⟨rfl,⟨nd,rfl⟩⟩;refine ⟨_,rfl,?_⟩))
    go_ret
    exact ⟨zE_,zb0 HB.out⟩
   rw [if_neg c40] at H
   have c40b0 : decide (t274 < 0) = false := deF c40
   clear c40
   by_cases c47 : t274 = t264
   rotate_left
   ·rw [if_neg c47] at H
    have c47b0 : (t274 == t264) = false := beq_eq_false_iff_ne.mpr c47
    have c47b1 : (t274 != t264) = true := bne_iff_ne.mpr c47
    obtain rfl := Option.some.inj H
    go_wp2_with (first|((with_reducible refine gate_callee (f := 18) rfl ?_);refine goesL_ (some 42) rfl rfl Try.func18 (by kernel_rfl) rfl #[.slice Ao20 t253.length t253.length,.int .i64 1] rfl zM_ ?_;(with_reducible refine (laws_markOpS.cut t253.length kj12 (fun k_ => some k_ = (.slice Ao20 t253.length co20 : Value).ownBlock) Ao20 t253.length co20 t253 1 t264 t265 w _ ?side1 ?side2 A30.out).mono ?_);(case side1 => exact zb0 HB.out);(case side2 => exact Kd.R_tight rfl HO_5.out);rintro e w54 ⟨rfl,hy0,hb,hkp⟩;refine ⟨_,rfl,?_⟩;have n0_ := As_ (Kd.R_mono (ok' := fun k_ => some k_ ≠ (.slice Ao20 t253.length co20 : Value).ownBlock) (Kd.R_keptB (HO_3.out) hkp (fun k_ hk_ hs_ => (hk_) hs_)) (fun k_ hk_ => hk_.1));have n1_ := As_ (Kd.R_reok rfl hy0 (fun k_ e_ => HO_5.out.1 k_ e_));have n2_ := As_ (hb);clear HO_3 HO_5 HB;revert n0_ n1_ n2_;intro HO_3 HO_5 HB)|((with_reducible refine gate_callee (f := 19) rfl ?_);refine goesL_ (some 45) rfl rfl Try.func19 (by kernel_rfl) rfl #[.slice Ao20 t265.length t265.length,.int .i64 1] rfl (by (try simp only [List.map_toArray,List.map_cons,List.map_nil]);first|done|(rw [show t265.length = t253.length from (Kd.R_reads' HO_5.out).1.symm] <;> rfl)|rfl|(simp only [List.length_drop,List.length_take];rfl)) ?_;(with_reducible refine (laws_heldOpS.calls kj12 _ _ t265 1 t266 _ ?side1 ?side2 A31.out).mono ?_);(case side1 => exact zC_ (Kd.R_reads' HO_5.out).2.2);(case side2 => exact Nat.le_refl _);rintro e w' ⟨rfl,⟨nd,rfl⟩⟩;refine ⟨_,rfl,?_⟩)|((with_reducible refine gate_callee (f := 13) rfl ?_);refine goesL_ (some 52) rfl rfl Try.func13 (by kernel_rfl) rfl #[.slice A0 l0.length c0] rfl zM_ ?_;(with_reducible refine (laws_toIntS.calls kj12 _ _ l0 t267 _ ?side1 ?side2 A35.out).mono ?_);(case side1 => repeat (first|exact (Kd.C_below HR0.out (zb0 HB.out))|(with_reducible refine Kd.C_alloc ?_ _)|(with_reducible refine Kd.C_drewN ?_ _)|(with_reducible refine Kd.C_drew ?_)));(case side2 => exact HC0.out);rintro e w55 ⟨v268,rfl,ho0,hb⟩;refine ⟨_,rfl,?_⟩;have n0_ := As_ (Kd.R_below (zR_ HO_3.out) hb);have n1_ := As_ (Kd.R_below (zR_ HO_5.out) hb);have n2_ := As_ (Kd.R_lower ho0 (bwZ (zb0 HB.out)));have n3_ := As_ (bwT (zb0 HB.out) hb);clear HO_3 HO_5 HB;revert n0_ n1_ n2_ n3_;intro HO_3 HO_5 HO269 HB;obtain ⟨Ao56,co56,eo56⟩ := Kd.R_slice HO269.out;subst eo56)|((with_reducible refine gate_callee (f := 14) rfl ?_);refine goesL_ (some 53) rfl rfl Try.func14 (by kernel_rfl) rfl #[.slice Ao56 t267.length co56] rfl zM_ ?_;(with_reducible refine (impl_RecoverStream.calls kj12 _ _ t267 t270 _ ?side1 ?side2 A36.out).mono ?_);(case side1 => exact zC_ (Kd.R_reads' HO269.out).2.2);(case side2 => exact (Kd.R_reads' HO269.out).2.1);rintro e w57 ⟨Ao58,co58,rfl,ho0,hb⟩;refine ⟨_,rfl,?_⟩;have n0_ := As_ (Kd.R_elder' (zR_ HO_3.out) (Kd.R_base ho0) hb);have n1_ := As_ (Kd.R_elder' (zR_ HO_5.out) (Kd.R_base ho0) hb);have n2_ := As_ (Kd.R_below (zR_ HO269.out) hb);have n3_ := As_ (Kd.R_lower (Kd.R_new' (Kd.R_new' ho0 (Kd.R_lt (zR_ HO_3.out))) (Kd.R_lt (zR_ HO_5.out))) (bwZ (zb0 HB.out)));have n4_ := As_ (bwT (zb0 HB.out) hb);clear HO_3 HO_5 HO269 HB;revert n0_ n1_ n2_ n3_ n4_;intro HO_3 HO_5 HO269 HO272 HB)|((with_reducible refine gate_callee (f := 15) rfl ?_);refine goesL_ (some 56) rfl rfl Try.func15 (by kernel_rfl) rfl #[.slice Ao58 t270.length t270.length,.slice Ao21 t247.length co21] rfl zM_ ?_;(with_reducible refine (laws_eqOpS.calls kj12 _ _ t270 _ _ t247 true _ ?side1 ?side2 ?side3 ?side4 A37.out).mono ?_);(case side1 => exact zC_ (Kd.R_reads' HO272.out).2.2);(case side2 => exact Nat.le_refl _);(case side3 => exact zC_ (Kd.R_reads' HO_3.out).2.2);(case side4 => exact (Kd.R_reads' HO_3.out).2.1);rintro e w59 ⟨rfl,hb⟩;refine ⟨_,rfl,?_⟩;have n0_ := As_ (Kd.R_below (zR_ HO_3.out) hb);have n1_ := As_ (Kd.R_below (zR_ HO_5.out) hb);have n2_ := As_ (Kd.R_below (zR_ HO269.out) hb);have n3_ := As_ (Kd.R_below (zR_ HO272.out) hb);have n4_ := As_ (bwT (zb0 HB.out) hb);clear HO_3 HO_5 HO269 HO272 HB;revert n0_ n1_ n2_ n3_ n4_;intro HO_3 HO_5 HO269 HO272 HB)|((with_reducible refine gate_callee (f := 19) rfl ?_);refine goesL_ (some 60) rfl rfl Try.func19 (by kernel_rfl) rfl #[.slice Ao20 t265.length t265.length,.int .i64 1] rfl (by (try simp only [List.map_toArray,List.map_cons,List.map_nil]);first|done|(rw [show t265.length = t253.length from (Kd.R_reads' HO_5.out).1.symm] <;> rfl)|rfl|(simp only [List.length_drop,List.length_take];rfl)) ?_;(with_reducible refine (laws_heldOpS.calls kj12 _ _ t265 1 t274 _ ?side1 ?side2 A39.out).mono ?_);(case side1 => exact zC_ (Kd.R_reads' HO_5.out).2.2);(case side2 => exact Nat.le_refl _);rintro e w' ⟨rfl,⟨nd,rfl⟩⟩;refine ⟨_,rfl,?_⟩))
    go_ret
    exact ⟨zE_,zb0 HB.out⟩
   rw [if_pos c47] at H
   have c47b0 : (t274 == t264) = true := beq_iff_eq.mpr c47
   have c47b1 : (t274 != t264) = false := bne_eq_false_iff_eq.mpr c47
   clear c47
   obtain rfl := Option.some.inj H
   go_wp2_with (first|((with_reducible refine gate_callee (f := 18) rfl ?_);refine goesL_ (some 42) rfl rfl Try.func18 (by kernel_rfl) rfl #[.slice Ao20 t253.length t253.length,.int .i64 1] rfl zM_ ?_;(with_reducible refine (laws_markOpS.cut t253.length kj12 (fun k_ => some k_ = (.slice Ao20 t253.length co20 : Value).ownBlock) Ao20 t253.length co20 t253 1 t264 t265 w _ ?side1 ?side2 A30.out).mono ?_);(case side1 => exact zb0 HB.out);(case side2 => exact Kd.R_tight rfl HO_5.out);rintro e w48 ⟨rfl,hy0,hb,hkp⟩;refine ⟨_,rfl,?_⟩;have n0_ := As_ (Kd.R_mono (ok' := fun k_ => some k_ ≠ (.slice Ao20 t253.length co20 : Value).ownBlock) (Kd.R_keptB (HO_3.out) hkp (fun k_ hk_ hs_ => (hk_) hs_)) (fun k_ hk_ => hk_.1));have n1_ := As_ (Kd.R_reok rfl hy0 (fun k_ e_ => HO_5.out.1 k_ e_));have n2_ := As_ (hb);clear HO_3 HO_5 HB;revert n0_ n1_ n2_;intro HO_3 HO_5 HB)|((with_reducible refine gate_callee (f := 19) rfl ?_);refine goesL_ (some 45) rfl rfl Try.func19 (by kernel_rfl) rfl #[.slice Ao20 t265.length t265.length,.int .i64 1] rfl (by (try simp only [List.map_toArray,List.map_cons,List.map_nil]);first|done|(rw [show t265.length = t253.length from (Kd.R_reads' HO_5.out).1.symm] <;> rfl)|rfl|(simp only [List.length_drop,List.length_take];rfl)) ?_;(with_reducible refine (laws_heldOpS.calls kj12 _ _ t265 1 t266 _ ?side1 ?side2 A31.out).mono ?_);(case side1 => exact zC_ (Kd.R_reads' HO_5.out).2.2);(case side2 => exact Nat.le_refl _);rintro e w' ⟨rfl,⟨nd,rfl⟩⟩;refine ⟨_,rfl,?_⟩)|((with_reducible refine gate_callee (f := 13) rfl ?_);refine goesL_ (some 52) rfl rfl Try.func13 (by kernel_rfl) rfl #[.slice A0 l0.length c0] rfl zM_ ?_;(with_reducible refine (laws_toIntS.calls kj12 _ _ l0 t267 _ ?side1 ?side2 A35.out).mono ?_);(case side1 => repeat (first|exact (Kd.C_below HR0.out (zb0 HB.out))|(with_reducible refine Kd.C_alloc ?_ _)|(with_reducible refine Kd.C_drewN ?_ _)|(with_reducible refine Kd.C_drew ?_)));(case side2 => exact HC0.out);rintro e w49 ⟨v268,rfl,ho0,hb⟩;refine ⟨_,rfl,?_⟩;have n0_ := As_ (Kd.R_below (zR_ HO_3.out) hb);have n1_ := As_ (Kd.R_below (zR_ HO_5.out) hb);have n2_ := As_ (Kd.R_lower ho0 (bwZ (zb0 HB.out)));have n3_ := As_ (bwT (zb0 HB.out) hb);clear HO_3 HO_5 HB;revert n0_ n1_ n2_ n3_;intro HO_3 HO_5 HO269 HB;obtain ⟨Ao50,co50,eo50⟩ := Kd.R_slice HO269.out;subst eo50)|((with_reducible refine gate_callee (f := 14) rfl ?_);refine goesL_ (some 53) rfl rfl Try.func14 (by kernel_rfl) rfl #[.slice Ao50 t267.length co50] rfl zM_ ?_;(with_reducible refine (impl_RecoverStream.calls kj12 _ _ t267 t270 _ ?side1 ?side2 A36.out).mono ?_);(case side1 => exact zC_ (Kd.R_reads' HO269.out).2.2);(case side2 => exact (Kd.R_reads' HO269.out).2.1);rintro e w51 ⟨Ao52,co52,rfl,ho0,hb⟩;refine ⟨_,rfl,?_⟩;have n0_ := As_ (Kd.R_elder' (zR_ HO_3.out) (Kd.R_base ho0) hb);have n1_ := As_ (Kd.R_elder' (zR_ HO_5.out) (Kd.R_base ho0) hb);have n2_ := As_ (Kd.R_below (zR_ HO269.out) hb);have n3_ := As_ (Kd.R_lower (Kd.R_new' (Kd.R_new' ho0 (Kd.R_lt (zR_ HO_3.out))) (Kd.R_lt (zR_ HO_5.out))) (bwZ (zb0 HB.out)));have n4_ := As_ (bwT (zb0 HB.out) hb);clear HO_3 HO_5 HO269 HB;revert n0_ n1_ n2_ n3_ n4_;intro HO_3 HO_5 HO269 HO272 HB)|((with_reducible refine gate_callee (f := 15) rfl ?_);refine goesL_ (some 56) rfl rfl Try.func15 (by kernel_rfl) rfl #[.slice Ao52 t270.length t270.length,.slice Ao21 t247.length co21] rfl zM_ ?_;(with_reducible refine (laws_eqOpS.calls kj12 _ _ t270 _ _ t247 true _ ?side1 ?side2 ?side3 ?side4 A37.out).mono ?_);(case side1 => exact zC_ (Kd.R_reads' HO272.out).2.2);(case side2 => exact Nat.le_refl _);(case side3 => exact zC_ (Kd.R_reads' HO_3.out).2.2);(case side4 => exact (Kd.R_reads' HO_3.out).2.1);rintro e w53 ⟨rfl,hb⟩;refine ⟨_,rfl,?_⟩;have n0_ := As_ (Kd.R_below (zR_ HO_3.out) hb);have n1_ := As_ (Kd.R_below (zR_ HO_5.out) hb);have n2_ := As_ (Kd.R_below (zR_ HO269.out) hb);have n3_ := As_ (Kd.R_below (zR_ HO272.out) hb);have n4_ := As_ (bwT (zb0 HB.out) hb);clear HO_3 HO_5 HO269 HO272 HB;revert n0_ n1_ n2_ n3_ n4_;intro HO_3 HO_5 HO269 HO272 HB)|((with_reducible refine gate_callee (f := 19) rfl ?_);refine goesL_ (some 60) rfl rfl Try.func19 (by kernel_rfl) rfl #[.slice Ao20 t265.length t265.length,.int .i64 1] rfl (by (try simp only [List.map_toArray,List.map_cons,List.map_nil]);first|done|(rw [show t265.length = t253.length from (Kd.R_reads' HO_5.out).1.symm] <;> rfl)|rfl|(simp only [List.length_drop,List.length_take];rfl)) ?_;(with_reducible refine (laws_heldOpS.calls kj12 _ _ t265 1 t274 _ ?side1 ?side2 A39.out).mono ?_);(case side1 => exact zC_ (Kd.R_reads' HO_5.out).2.2);(case side2 => exact Nat.le_refl _);rintro e w' ⟨rfl,⟨nd,rfl⟩⟩;refine ⟨_,rfl,?_⟩))
   go_ret
   exact ⟨zE_,zb0 HB.out⟩
/-- THE ONE PURE STATEMENT of laws_FnExactRecoverStream: yours. -/
def laws_FnExactRecoverStream.Pure : Prop := ∀ (l0 : List Int),l0.length ≤ maxLen → l0.length * 8 ≤ 140737488351232 → (∀ x ∈ l0,(Lit.int .i64 x).wf = true) → ∃ k,laws_FnExactRecoverStream.f k l0 = some true
theorem laws_FnExactRecoverStream.walk (P : laws_FnExactRecoverStream.Pure) (a0 : Option Addr) (len0 cap0 : Nat) (z0 : List Int) (w : World) (w0 : (a0 = none ∧ len0 = 0 ∧ cap0 = 0 ∧ z0 = []) ∨ ∃ x,a0 = some x ∧ len0 ≤ cap0 ∧ cap0 ≤ maxLen ∧ z0.length = cap0 ∧ (∀ i,i < z0.length → w.cell? (x.add i) = some (.int .i64 (z0.getD i 0))) ∧ ∀ n ∈ z0,(Lit.int .i64 n).wf = true) (y0 : len0 * 8 ≤ 140737488351232) :
  Calls Try.prog 3 #[.slice a0 len0 cap0] w fun e w' => e = .returned (.bool true) ∧ Below w.heap.size w w' := by
 obtain ⟨l0,rfl,hr0,hm0,hw0,hc0⟩ := ReadsInt.ofRowC w0
 obtain ⟨k,h⟩ := P l0 hm0 y0 hw0
 refine (laws_FnExactRecoverStream.calls k _ _ l0 true w (Kd.C_of_reads (d := (0 : Int)) (h1 := fun _ => rfl) hr0) hc0 h).mono ?_
 rintro e w' ⟨rfl,hd⟩
 exact ⟨rfl,hd⟩

end Go.Proofs.Ytbokjhdhpmmpfaa.Q
