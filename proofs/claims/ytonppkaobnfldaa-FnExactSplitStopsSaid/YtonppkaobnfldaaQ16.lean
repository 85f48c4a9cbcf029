-- Written by wip/tools/qprint.py (a program of this claim's author) by means of the kit's printer.
import Derived.Test.YtonppkaobnfldaaQ0
import Derived.Test.YtonppkaobnfldaaQ15
import Derived.Test.YtonppkaobnfldaaQ77
namespace Go.Proofs.Ytonppkaobnfldaa.Q
open Go.RowKit Go.Proofs.YtonppkaobnfldaaW.PrintWords Go.Proofs.YtonppkaobnfldaaW.PrintLast Go.Proofs.YtonppkaobnfldaaW.PrintMore
attribute [local go_sem] max2_int min2_int max_two min_two max_three min_three max_four min_four   -- for this text's walks alone
set_option linter.unusedVariables false
set_option linter.unusedSimpArgs false

/-! ### spec_ValidOps: function 16 -/
def spec_ValidOps.f (k : Nat) (l0 : List (S49)) : Option (Bool) := (spec_validOps.f k l0).bind fun t108 => (some t108)
set_option maxRecDepth 100000 in
theorem spec_ValidOps.mono : ∀ a0 k, LeO (spec_ValidOps.f k a0) (spec_ValidOps.f (k + 1) a0) := by
  intro a0 k
  unfold spec_ValidOps.f
  repeat' first
      | (with_reducible exact spec_validOps.mono _ _)
      | (with_reducible exact LeO.refl _)
      | (with_reducible exact LeO.none _)
      | (with_reducible refine LeO.ite ?_ ?_)
      | (with_reducible refine LeO.bind ?_ (fun _ => ?_))
      | exact spec_validOps.mono _ _
      | exact LeO.none _
      | refine LeO.ite ?_ ?_
      | refine LeO.bind ?_ (fun _ => ?_)
set_option maxHeartbeats 8000000 in
set_option maxRecDepth 100000 in
theorem spec_ValidOps.calls (k : Nat) (A0 : Option Addr) (c0 : Nat) (l0 : List (S49)) (r : Bool) (w : World) (hr0 : Kd.C k49 w A0 l0.length l0) (hc0 : l0.length ≤ c0) (h : spec_ValidOps.f k l0 = some r) :
    Calls Try.prog 16 #[.slice A0 l0.length c0] w fun e w' => e = .returned (.bool r) ∧ Below w.heap.size w w' := by
  have HR0 := As_ hr0
  have HC0 := As_ hc0
  clear hr0 hc0
  have HB := As_ (Below.refl w.heap.size w)
  have H : ((spec_validOps.f k l0).bind fun t108 => (some t108)) = some r := h
  clear h
  replace H := obS H
  obtain ⟨t108, A20, H⟩ := H
  replace H : (some t108) = some r := H
  have A2 := As_ A20
  clear A20
  obtain rfl := Option.some.inj H
  go_enter Try.func16, Try.ntmps16
  go_wp2_with (first | ((with_reducible refine gate_callee (f := 51) rfl ?_); refine goesL_ (some 4) rfl rfl Try.func51 (by kernel_rfl) rfl #[.slice A0 l0.length c0] rfl (by (try simp only [List.map_toArray, List.map_cons, List.map_nil]); first | done | rfl | (simp only [List.length_drop, List.length_take]; rfl)) ?_; (with_reducible refine (spec_validOps.calls k _ _ l0 t108 _ ?side1 ?side2 A2.out).mono ?_); (case side1 => repeat (first | exact HR0.out | (with_reducible refine Kd.C_alloc ?_ _) | (with_reducible refine Kd.C_drewN ?_ _) | (with_reducible refine Kd.C_drew ?_))); (case side2 => exact HC0.out); rintro e w3 ⟨rfl, hb⟩; refine ⟨_, rfl, ?_⟩; have n0_ := As_ (bwT (by repeat (first | (with_reducible first | exact HB.out | apply bwA | apply bwN | apply bwD) | exact HB.out)) hb); clear HB; have HB := n0_; clear n0_; (try clear hb); (try clear hb2); (try clear hk); (try clear hi)))
  go_ret
  exact ⟨by first | rfl | (simp [errW_none, errW_some] <;> rfl) | (simp [*, errW_none, errW_some] <;> rfl), by repeat (first | (with_reducible first | exact HB.out | apply bwA | apply bwN | apply bwD) | exact HB.out)⟩

/-! ### laws_FnExactValidOps: function 3 -/
def laws_FnExactValidOps.f (k : Nat) (l0 : List (S51)) : Option (Bool) := (laws_szOpS.f l0 1048576).bind fun t129 => (if t129 < 0 then (some true) else ((laws_toOpS.f k l0).bind fun t130 => ((spec_ValidOps.f k t130).bind fun t133 => ((laws_toOpS.f k l0).bind fun t134 => ((impl_ValidOps.f k t134).bind fun t137 => (if (t137 != t133) = true then (some false) else ((laws_toOpS.f k l0).bind fun t138 => ((laws_eqOpS.f k t134 t138).bind fun t141 => (if t141 = true then (some true) else (some false))))))))))
set_option maxRecDepth 100000 in
theorem laws_FnExactValidOps.mono : ∀ a0 k,LeO (laws_FnExactValidOps.f k a0) (laws_FnExactValidOps.f (k + 1) a0) := by
 intro a0 k
 unfold laws_FnExactValidOps.f
 repeat' first
   | (with_reducible exact impl_ValidOps.mono _ _)
   | (with_reducible exact laws_eqOpS.mono _ _ _)
   | (with_reducible exact laws_toOpS.mono _ _)
   | (with_reducible exact spec_ValidOps.mono _ _)
   | (with_reducible exact LeO.refl _)
   | (with_reducible exact LeO.none _)
   | (with_reducible refine LeO.ite ?_ ?_)
   | (with_reducible refine LeO.bind ?_ (fun _ => ?_))
   | exact impl_ValidOps.mono _ _
   | exact laws_eqOpS.mono _ _ _
   | exact laws_toOpS.mono _ _
   | exact spec_ValidOps.mono _ _
   | exact LeO.none _
   | refine LeO.ite ?_ ?_
   | refine LeO.bind ?_ (fun _ => ?_)
set_option maxHeartbeats 8000000 in
set_option maxRecDepth 100000 in
theorem laws_FnExactValidOps.calls (k : Nat) (A0 : Option Addr) (c0 : Nat) (l0 : List (S51)) (r : Bool) (w : World) (hr0 : Kd.C k51 w A0 l0.length l0) (hc0 : l0.length ≤ c0) (h : laws_FnExactValidOps.f k l0 = some r) :
  Calls Try.prog 3 #[.slice A0 l0.length c0] w fun e w' => e = .returned (.bool r) ∧ Below w.heap.size w w' := by
 have HR0 := As_ hr0
 have HC0 := As_ hc0
 clear hr0 hc0
 have HB := As_ (Below.refl w.heap.size w)
 have H : ((laws_szOpS.f l0 1048576).bind fun t129 => (if t129 < 0 then (some true) else ((laws_toOpS.f k l0).bind fun t130 => ((spec_ValidOps.f k t130).bind fun t133 => ((laws_toOpS.f k l0).bind fun t134 => ((impl_ValidOps.f k t134).bind fun t137 => (if (t137 != t133) = true then (some false) else ((laws_toOpS.f k l0).bind fun t138 => ((laws_eqOpS.f k t134 t138).bind fun t141 => (if t141 = true then (some true) else (some false))))))))))) = some r := h
 clear h
 replace H := obS H
 obtain ⟨t129,A20,H⟩ := H
 replace H : (if t129 < 0 then (some true) else ((laws_toOpS.f k l0).bind fun t130 => ((spec_ValidOps.f k t130).bind fun t133 => ((laws_toOpS.f k l0).bind fun t134 => ((impl_ValidOps.f k t134).bind fun t137 => (if (t137 != t133) = true then (some false) else ((laws_toOpS.f k l0).bind fun t138 => ((laws_eqOpS.f k t134 t138).bind fun t141 => (if t141 = true then (some true) else (some false)))))))))) = some r := H
 have A2 := As_ A20
 clear A20
 by_cases c3 : t129 < 0
 ·rw [if_pos c3] at H
  have c3b0 : decide (t129 < 0) = true := deT c3
  clear c3
  obtain rfl := Option.some.inj H
  go_enter Try.func3,Try.ntmps3
  go_wp2_with (first|((with_reducible refine gate_callee (f := 15) rfl ?_);refine goesL_ (some 9) rfl rfl Try.func15 (by kernel_rfl) rfl #[.slice A0 l0.length c0,.int .i64 1048576] rfl zM_ ?_;(with_reducible refine (laws_szOpS.calls _ _ l0 1048576 t129 _ ?side1 ?side2 A2.out).mono ?_);(case side1 => repeat (first|exact HR0.out|(with_reducible refine Kd.C_alloc ?_ _)|(with_reducible refine Kd.C_drewN ?_ _)|(with_reducible refine Kd.C_drew ?_)));(case side2 => exact HC0.out);rintro e w' ⟨rfl,⟨nd,rfl⟩⟩;refine ⟨_,rfl,?_⟩))
  go_ret
  exact ⟨zE_,zb0 HB.out⟩
 rw [if_neg c3] at H
 have c3b0 : decide (t129 < 0) = false := deF c3
 clear c3
 replace H := obS H
 obtain ⟨t130,A40,H⟩ := H
 replace H : ((spec_ValidOps.f k t130).bind fun t133 => ((laws_toOpS.f k l0).bind fun t134 => ((impl_ValidOps.f k t134).bind fun t137 => (if (t137 != t133) = true then (some false) else ((laws_toOpS.f k l0).bind fun t138 => ((laws_eqOpS.f k t134 t138).bind fun t141 => (if t141 = true then (some true) else (some false)))))))) = some r := H
 have A4 := As_ A40
 clear A40
 replace H := obS H
 obtain ⟨t133,A50,H⟩ := H
 replace H : ((laws_toOpS.f k l0).bind fun t134 => ((impl_ValidOps.f k t134).bind fun t137 => (if (t137 != t133) = true then (some false) else ((laws_toOpS.f k l0).bind fun t138 => ((laws_eqOpS.f k t134 t138).bind fun t141 => (if t141 = true then (some true) else (some false))))))) = some r := H
 have A5 := As_ A50
 clear A50
 replace H := obS H
 obtain ⟨t134,A60,H⟩ := H
 replace H : ((impl_ValidOps.f k t134).bind fun t137 => (if (t137 != t133) = true then (some false) else ((laws_toOpS.f k l0).bind fun t138 => ((laws_eqOpS.f k t134 t138).bind fun t141 => (if t141 = true then (some true) else (some false)))))) = some r := H
 have A6 := As_ A60
 clear A60
 replace H := obS H
 obtain ⟨t137,A70,H⟩ := H
 replace H : (if (t137 != t133) = true then (some false) else ((laws_toOpS.f k l0).bind fun t138 => ((laws_eqOpS.f k t134 t138).bind fun t141 => (if t141 = true then (some true) else (some false))))) = some r := H
 have A7 := As_ A70
 clear A70
 by_cases c8 : (t137 != t133) = true
 ·rw [if_pos c8] at H
  have c8b0 : (t137 != t133) = true := c8
  (try (have c8b1 : decide (t137 = t133) = false := by simpa using c8))
  (try (have c8b2 : (t137 == t133) = false := by simpa using c8))
  (try (have c8b3 : ¬ (t137 = t133) := by simpa using c8))
  clear c8
  obtain rfl := Option.some.inj H
  go_enter Try.func3,Try.ntmps3
  go_wp2_with (first|((with_reducible refine gate_callee (f := 15) rfl ?_);refine goesL_ (some 9) rfl rfl Try.func15 (by kernel_rfl) rfl #[.slice A0 l0.length c0,.int .i64 1048576] rfl zM_ ?_;(with_reducible refine (laws_szOpS.calls _ _ l0 1048576 t129 _ ?side1 ?side2 A2.out).mono ?_);(case side1 => repeat (first|exact HR0.out|(with_reducible refine Kd.C_alloc ?_ _)|(with_reducible refine Kd.C_drewN ?_ _)|(with_reducible refine Kd.C_drew ?_)));(case side2 => exact HC0.out);rintro e w' ⟨rfl,⟨nd,rfl⟩⟩;refine ⟨_,rfl,?_⟩)|((with_reducible refine gate_callee (f := 17) rfl ?_);refine goesL_ (some 13) rfl rfl Try.func17 (by kernel_rfl) rfl #[.slice A0 l0.length c0] rfl zM_ ?_;(with_reducible refine (laws_toOpS.calls k _ _ l0 t130 _ ?side1 ?side2 A4.out).mono ?_);(case side1 => repeat (first|exact HR0.out|(with_reducible refine Kd.C_alloc ?_ _)|(with_reducible refine Kd.C_drewN ?_ _)|(with_reducible refine Kd.C_drew ?_)));(case side2 => exact HC0.out);rintro e w9 ⟨v131,rfl,ho0,hb⟩;refine ⟨_,rfl,?_⟩;have n0_ := As_ (Kd.R_lower ho0 (bwZ (zb0 HB.out)));have n1_ := As_ (bwT (zb0 HB.out) hb);clear HB;revert n0_ n1_;intro HO132 HB;obtain ⟨Ao10,co10,eo10⟩ := Kd.R_slice HO132.out;subst eo10)|((with_reducible refine gate_callee (f := 16) rfl ?_);refine goesL_ (some 14) rfl rfl Try.func16 (by kernel_rfl) rfl #[.slice Ao10 t130.length co10] rfl zM_ ?_;(with_reducible refine (spec_ValidOps.calls k _ _ t130 t133 _ ?side1 ?side2 A5.out).mono ?_);(case side1 => exact zC_ (Kd.R_reads' HO132.out).2.2);(case side2 => exact (Kd.R_reads' HO132.out).2.1);rintro e w11 ⟨rfl,hb⟩;refine ⟨_,rfl,?_⟩;have n0_ := As_ (Kd.R_below (zR_ HO132.out) hb);have n1_ := As_ (bwT (zb0 HB.out) hb);clear HO132 HB;revert n0_ n1_;intro HO132 HB)|((with_reducible refine gate_callee (f := 17) rfl ?_);refine goesL_ (some 16) rfl rfl Try.func17 (by kernel_rfl) rfl #[.slice A0 l0.length c0] rfl zM_ ?_;(with_reducible refine (laws_toOpS.calls k _ _ l0 t134 _ ?side1 ?side2 A6.out).mono ?_);(case side1 => exact zC_ (Kd.C_below HR0.out HB.out));(case side2 => exact HC0.out);rintro e w12 ⟨v135,rfl,ho0,hb⟩;refine ⟨_,rfl,?_⟩;have n0_ := As_ (Kd.R_elder' (zR_ HO132.out) (Kd.R_base ho0) hb);have n1_ := As_ (Kd.R_lower (Kd.R_new' ho0 (Kd.R_lt (zR_ HO132.out))) (bwZ (zb0 HB.out)));have n2_ := As_ (bwT (zb0 HB.out) hb);clear HO132 HB;revert n0_ n1_ n2_;intro HO132 HO136 HB;obtain ⟨Ao13,co13,eo13⟩ := Kd.R_slice HO136.out;subst eo13)|((with_reducible refine gate_callee (f := 18) rfl ?_);refine goesL_ (some 18) rfl rfl Try.func18 (by kernel_rfl) rfl #[.slice Ao13 t134.length co13] rfl zM_ ?_;(with_reducible refine (impl_ValidOps.calls k _ _ t134 t137 _ ?side1 ?side2 A7.out).mono ?_);(case side1 => exact zC_ (Kd.R_reads' HO136.out).2.2);(case side2 => exact (Kd.R_reads' HO136.out).2.1);rintro e w14 ⟨rfl,hb⟩;refine ⟨_,rfl,?_⟩;have n0_ := As_ (Kd.R_below (zR_ HO132.out) hb);have n1_ := As_ (Kd.R_below (zR_ HO136.out) hb);have n2_ := As_ (bwT (zb0 HB.out) hb);clear HO132 HO136 HB;revert n0_ n1_ n2_;intro HO132 HO136 HB))
  go_ret
  exact ⟨zE_,zb0 HB.out⟩
 rw [if_neg c8] at H
 have c8b0 : (t137 != t133) = false := by simpa using c8
 (try (have c8b1 : decide (t137 = t133) = true := by simpa using c8))
 (try (have c8b2 : (t137 == t133) = true := by simpa using c8))
 clear c8
 replace H := obS H
 obtain ⟨t138,A150,H⟩ := H
 replace H : ((laws_eqOpS.f k t134 t138).bind fun t141 => (if t141 = true then (some true) else (some false))) = some r := H
 have A15 := As_ A150
 clear A150
 replace H := obS H
 obtain ⟨t141,A160,H⟩ := H
 replace H : (if t141 = true then (some true) else (some false)) = some r := H
 have A16 := As_ A160
 clear A160
 by_cases c17 : t141 = true
 ·subst c17
  have H1 : (some true) = some r := by rw [if_pos rfl] at H;exact H
  clear H
  have H := H1
  clear H1
  obtain rfl := Option.some.inj H
  go_enter Try.func3,Try.ntmps3
  go_wp2_with (first|((with_reducible refine gate_callee (f := 15) rfl ?_);refine goesL_ (some 9) rfl rfl Try.func15 (by kernel_rfl) rfl #[.slice A0 l0.length c0,.int .i64 1048576] rfl zM_ ?_;(with_reducible refine (laws_szOpS.calls _ _ l0 1048576 t129 _ ?side1 ?side2 A2.out).mono ?_);(case side1 => repeat (first|exact HR0.out|(with_reducible refine Kd.C_alloc ?_ _)|(with_reducible refine Kd.C_drewN ?_ _)|(with_reducible refine Kd.C_drew ?_)));(case side2 => exact HC0.out);rintro e w' ⟨rfl,⟨nd,rfl⟩⟩;refine ⟨_,rfl,?_⟩)|((with_reducible refine gate_callee (f := 17) rfl ?_);refine goesL_ (some 13) rfl rfl Try.func17 (by kernel_rfl) rfl #[.slice A0 l0.length c0] rfl zM_ ?_;(with_reducible refine (laws_toOpS.calls k _ _ l0 t130 _ ?side1 ?side2 A4.out).mono ?_);(case side1 => repeat (first|exact HR0.out|(with_reducible refine Kd.C_alloc ?_ _)|(with_reducible refine Kd.C_drewN ?_ _)|(with_reducible refine Kd.C_drew ?_)));(case side2 => exact HC0.out);rintro e w18 ⟨v131,rfl,ho0,hb⟩;refine ⟨_,rfl,?_⟩;have n0_ := As_ (Kd.R_lower ho0 (bwZ (zb0 HB.out)));have n1_ := As_ (bwT (zb0 HB.out) hb);clear HB;revert n0_ n1_;intro HO132 HB;obtain ⟨Ao19,co19,eo19⟩ := Kd.R_slice HO132.out;subst eo19)|((with_reducible refine gate_callee (f := 16) rfl ?_);refine goesL_ (some 14) rfl rfl Try.func16 (by kernel_rfl) rfl #[.slice Ao19 t130.length co19] rfl zM_ ?_;(with_reducible refine (spec_ValidOps.calls k _ _ t130 t133 _ ?side1 ?side2 A5.out).mono ?_);(case side1 => exact zC_ (Kd.R_reads' HO132.out).2.2);(case side2 => exact (Kd.R_reads' HO132.out).2.1);rintro e w20 ⟨rfl,hb⟩;refine ⟨_,rfl,?_⟩;have n0_ := As_ (Kd.R_below (zR_ HO132.out) hb);have n1_ := As_ (bwT (zb0 HB.out) hb);clear HO132 HB;revert n0_ n1_;intro HO132 HB)|((with_reducible refine gate_callee (f := 17) rfl ?_);refine goesL_ (some 16) rfl rfl Try.func17 (by kernel_rfl) rfl #[.slice A0 l0.length c0] rfl zM_ ?_;(with_reducible refine (laws_toOpS.calls k _ _ l0 t134 _ ?side1 ?side2 A6.out).mono ?_);(case side1 => exact zC_ (Kd.C_below HR0.out HB.out));(case side2 => exact HC0.out);rintro e w21 ⟨v135,rfl,ho0,hb⟩;refine ⟨_,rfl,?_⟩;have n0_ := As_ (Kd.R_elder' (zR_ HO132.out) (Kd.R_base ho0) hb);have n1_ := As_ (Kd.R_lower (Kd.R_new' ho0 (Kd.R_lt (zR_ HO132.out))) (bwZ (zb0 HB.out)));have n2_ := As_ (bwT (zb0 HB.out) hb);clear HO132 HB;revert n0_ n1_ n2_;intro HO132 HO136 HB;obtain ⟨Ao22,co22,eo22⟩ := Kd.R_slice HO136.out;subst eo22)|((with_reducible refine gate_callee (f := 18) rfl ?_);refine goesL_ (some 18) rfl rfl Try.func18 (by kernel_rfl) rfl #[.slice Ao22 t134.length co22] rfl zM_ ?_;(with_reducible refine (impl_ValidOps.calls k _ _ t134 t137 _ ?side1 ?side2 A7.out).mono ?_);(case side1 => exact zC_ (Kd.R_reads' HO136.out).2.2);(case side2 => exact (Kd.R_reads' HO136.out).2.1);rintro e w23 ⟨rfl,hb⟩;refine ⟨_,rfl,?_⟩;have n0_ := As_ (Kd.R_below (zR_ HO132.out) hb);have n1_ := As_ (Kd.R_below (zR_ HO136.out) hb);have n2_ := As_ (bwT (zb0 HB.out) hb);clear HO132 HO136 HB;revert n0_ n1_ n2_;intro HO132 HO136 HB)|((with_reducible refine gate_callee (f := 17) rfl ?_);refine goesL_ (some 24) rfl rfl Try.func17 (by kernel_rfl) rfl #[.slice A0 l0.length c0] rfl zM_ ?_;(with_reducible refine (laws_toOpS.calls k _ _ l0 t138 _ ?side1 ?side2 A15.out).mono ?_);(case side1 => exact zC_ (Kd.C_below HR0.out HB.out));(case side2 => exact HC0.out);rintro e w24 ⟨v139,rfl,ho0,hb⟩;refine ⟨_,rfl,?_⟩;have n0_ := As_ (Kd.R_elder' (zR_ HO132.out) (Kd.R_base ho0) hb);have n1_ := As_ (Kd.R_elder' (zR_ HO136.out) (Kd.R_base ho0) hb);have n2_ := As_ (Kd.R_lower (Kd.R_new' (Kd.R_new' ho0 (Kd.R_lt (zR_ HO132.out))) (Kd.R_lt (zR_ HO136.out))) (bwZ (zb0 HB.out)));have n3_ := As_ (bwT (zb0 HB.out) hb);clear HO132 HO136 HB;revert n0_ n1_ n2_ n3_;intro HO132 HO136 HO140 HB;obtain ⟨Ao25,co25,eo25⟩ := Kd.R_slice HO140.out;subst eo25)|((with_reducible refine gate_callee (f := 19) rfl ?_);refine goesL_ (some 25) rfl rfl Try.func19 (by kernel_rfl) rfl #[.slice Ao22 t134.length co22,.slice Ao25 t138.length co25] rfl zM_ ?_;(with_reducible refine (laws_eqOpS.calls k _ _ t134 _ _ t138 true _ ?side1 ?side2 ?side3 ?side4 A16.out).mono ?_);(case side1 => exact zC_ (Kd.R_reads' HO136.out).2.2);(case side2 => exact (Kd.R_reads' HO136.out).2.1);(case side3 => exact zC_ (Kd.R_reads' HO140.out).2.2);(case side4 => exact (Kd.R_reads' HO140.out).2.1);rintro e w26 ⟨rfl,hb⟩;refine ⟨_,rfl,?_⟩;have n0_ := As_ (Kd.R_below (zR_ HO132.out) hb);have n1_ := As_ (Kd.R_below (zR_ HO136.out) hb);have n2_ := As_ (Kd.R_below (zR_ HO140.out) hb);have n3_ := As_ (bwT (zb0 HB.out) hb);clear HO132 HO136 HO140 HB;revert n0_ n1_ n2_ n3_;intro HO132 HO136 HO140 HB))
  go_ret
  exact ⟨zE_,zb0 HB.out⟩
 replace c17 := Bool.eq_false_iff.mpr c17
 subst c17
 have H1 : (some false) = some r := by rw [if_neg (show ¬ (false = true) by decide)] at H;exact H
 clear H
 have H := H1
 clear H1
 obtain rfl := Option.some.inj H
 go_enter Try.func3,Try.ntmps3
 go_wp2_with (first|((with_reducible refine gate_callee (f := 15) rfl ?_);refine goesL_ (some 9) rfl rfl Try.func15 (by kernel_rfl) rfl #[.slice A0 l0.length c0,.int .i64 1048576] rfl zM_ ?_;(with_reducible refine (laws_szOpS.calls _ _ l0 1048576 t129 _ ?side1 ?side2 A2.out).mono ?_);(case side1 => repeat (first|exact HR0.out|(with_reducible refine Kd.C_alloc ?_ _)|(with_reducible refine Kd.C_drewN ?_ _)|(with_reducible refine Kd.C_drew ?_)));(case side2 => exact HC0.out);rintro e w' ⟨rfl,⟨nd,rfl⟩⟩;refine ⟨_,rfl,?_⟩)|((with_reducible refine gate_callee (f := 17) rfl ?_);refine goesL_ (some 13) rfl rfl Try.func17 (by kernel_rfl) rfl #[.slice A0 l0.length c0] rfl zM_ ?_;(with_reducible refine (laws_toOpS.calls k _ _ l0 t130 _ ?side1 ?side2 A4.out).mono ?_);(case side1 => repeat (first|exact HR0.out|(with_reducible refine Kd.C_alloc ?_ _)|(with_reducible refine Kd.C_drewN ?_ _)|(with_reducible refine Kd.C_drew ?_)));(case side2 => exact HC0.out);rintro e w27 ⟨v131,rfl,ho0,hb⟩;refine ⟨_,rfl,?_⟩;have n0_ := As_ (Kd.R_lower ho0 (bwZ (zb0 HB.out)));have n1_ := As_ (bwT (zb0 HB.out) hb);clear HB;revert n0_ n1_;intro HO132 HB;obtain ⟨Ao28,co28,eo28⟩ := Kd.R_slice HO132.out;subst eo28)|((with_reducible refine gate_callee (f := 16) rfl ?_);refine goesL_ (some 14) rfl rfl Try.func16 (by kernel_rfl) rfl #[.slice Ao28 t130.length co28] rfl zM_ ?_;(with_reducible refine (spec_ValidOps.calls k _ _ t130 t133 _ ?side1 ?side2 A5.out).mono ?_);(case side1 => exact zC_ (Kd.R_reads' HO132.out).2.2);(case side2 => exact (Kd.R_reads' HO132.out).2.1);rintro e w29 ⟨rfl,hb⟩;refine ⟨_,rfl,?_⟩;have n0_ := As_ (Kd.R_below (zR_ HO132.out) hb);have n1_ := As_ (bwT (zb0 HB.out) hb);clear HO132 HB;revert n0_ n1_;intro HO132 HB)|((with_reducible refine gate_callee (f := 17) rfl ?_);refine goesL_ (some 16) rfl rfl Try.func17 (by kernel_rfl) rfl #[.slice A0 l0.length c0] rfl zM_ ?_;(with_reducible refine (laws_toOpS.calls k _ _ l0 t134 _ ?side1 ?side2 A6.out).mono ?_);(case side1 => exact zC_ (Kd.C_below HR0.out HB.out));(case side2 => exact HC0.out);rintro e w30 ⟨v135,rfl,ho0,hb⟩;refine ⟨_,rfl,?_⟩;have n0_ := As_ (Kd.R_elder' (zR_ HO132.out) (Kd.R_base ho0) hb);have n1_ := As_ (Kd.R_lower (Kd.R_new' ho0 (Kd.R_lt (zR_ HO132.out))) (bwZ (zb0 HB.out)));have n2_ := As_ (bwT (zb0 HB.out) hb);clear HO132 HB;revert n0_ n1_ n2_;intro HO132 HO136 HB;obtain ⟨Ao31,co31,eo31⟩ := Kd.R_slice HO136.out;subst eo31)|((with_reducible refine gate_callee (f := 18) rfl ?_);refine goesL_ (some 18) rfl rfl Try.func18 (by kernel_rfl) rfl #[.slice Ao31 t134.length co31] rfl zM_ ?_;(with_reducible refine (impl_ValidOps.calls k _ _ t134 t137 _ ?side1 ?side2 A7.out).mono ?_);(case side1 => exact zC_ (Kd.R_reads' HO136.out).2.2);(case side2 => exact (Kd.R_reads' HO136.out).2.1);rintro e w32 ⟨rfl,hb⟩;refine ⟨_,rfl,?_⟩;have n0_ := As_ (Kd.R_below (zR_ HO132.out) hb);have n1_ := As_ (Kd.R_below (zR_ HO136.out) hb);have n2_ := As_ (bwT (zb0 HB.out) hb);clear HO132 HO136 HB;revert n0_ n1_ n2_;intro HO132 HO136 HB)|((with_reducible refine gate_callee (f := 17) rfl ?_);refine goesL_ (some 24) rfl rfl Try.func17 (by kernel_rfl) rfl #[.slice A0 l0.length c0] rfl zM_ ?_;(with_reducible refine (laws_toOpS.calls k _ _ l0 t138 _ ?side1 ?side2 A15.out).mono ?_);(case side1 => exact zC_ (Kd.C_below HR0.out HB.out));(case side2 => exact HC0.out);rintro e w33 ⟨v139,rfl,ho0,hb⟩;refine ⟨_,rfl,?_⟩;have n0_ := As_ (Kd.R_elder' (zR_ HO132.out) (Kd.R_base ho0) hb);have n1_ := As_ (Kd.R_elder' (zR_ HO136.out) (Kd.R_base ho0) hb);have n2_ := As_ (Kd.R_lower (Kd.R_new' (Kd.R_new' ho0 (Kd.R_lt (zR_ HO132.out))) (Kd.R_lt (zR_ HO136.out))) (bwZ (zb0 HB.out)));have n3_ := As_ (bwT (zb0 HB.out) hb);clear HO132 HO136 HB;revert n0_ n1_ n2_ n3_;intro HO132 HO136 HO140 HB;obtain ⟨Ao34,co34,eo34⟩ := Kd.R_slice HO140.out;subst eo34)|((with_reducible refine gate_callee (f := 19) rfl ?_);refine goesL_ (some 25) rfl rfl Try.func19 (by kernel_rfl) rfl #[.slice Ao31 t134.length co31,.slice Ao34 t138.length co34] rfl zM_ ?_;(with_reducible refine (laws_eqOpS.calls k _ _ t134 _ _ t138 false _ ?side1 ?side2 ?side3 ?side4 A16.out).mono ?_);(case side1 => exact zC_ (Kd.R_reads' HO136.out).2.2);(case side2 => exact (Kd.R_reads' HO136.out).2.1);(case side3 => exact zC_ (Kd.R_reads' HO140.out).2.2);(case side4 => exact (Kd.R_reads' HO140.out).2.1);rintro e w35 ⟨rfl,hb⟩;refine ⟨_,rfl,?_⟩;have n0_ := As_ (Kd.R_below (zR_ HO132.out) hb);have n1_ := As_ (Kd.R_below (zR_ HO136.out) hb);have n2_ := As_ (Kd.R_below (zR_ HO140.out) hb);have n3_ := As_ (bwT (zb0 HB.out) hb);clear HO132 HO136 HO140 HB;revert n0_ n1_ n2_ n3_;intro HO132 HO136 HO140 HB))
 go_ret
 exact ⟨zE_,zb0 HB.out⟩

/-- THE ONE PURE STATEMENT of laws_FnExactValidOps. -/
def laws_FnExactValidOps.Pure : Prop := ∀ (l0 : List (S51)),(l0.length ≤ maxLen ∧ (∀ x_ ∈ l0,(Lit.int .i64 x_.f0).wf = true ∧ (Lit.int .i64 x_.f1).wf = true)) → ∃ k,laws_FnExactValidOps.f k l0 = some true
theorem laws_FnExactValidOps.walk (P : laws_FnExactValidOps.Pure) (A0 : Option Addr) (c0 : Nat) (l0 : List (S51)) (w : World) (hr0 : Kd.C k51 w A0 l0.length l0) (hc0 : l0.length ≤ c0) (hg0 : l0.length ≤ maxLen ∧ (∀ x_ ∈ l0,(Lit.int .i64 x_.f0).wf = true ∧ (Lit.int .i64 x_.f1).wf = true)) :
  Calls Try.prog 3 #[.slice A0 l0.length c0] w fun e w' => e = .returned (.bool true) ∧ Below w.heap.size w w' := by
 obtain ⟨k,h⟩ := P l0 hg0
 refine (laws_FnExactValidOps.calls k _ _ l0 true w hr0 hc0 h).mono ?_
 rintro e w' ⟨rfl,hd⟩
 exact ⟨rfl,hd⟩

end Go.Proofs.Ytonppkaobnfldaa.Q
