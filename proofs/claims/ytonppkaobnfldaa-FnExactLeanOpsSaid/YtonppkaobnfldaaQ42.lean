-- Written by wip/tools/qprint.py (a program of this claim's author) by means of the kit's printer.
import Derived.Test.YtonppkaobnfldaaQ0
import Derived.Test.YtonppkaobnfldaaQ15
import Derived.Test.YtonppkaobnfldaaQ23
import Derived.Test.YtonppkaobnfldaaQ25
import Derived.Test.YtonppkaobnfldaaQ34
import Derived.Test.YtonppkaobnfldaaQ64
import Derived.Test.YtonppkaobnfldaaQ77
namespace Go.Proofs.Ytonppkaobnfldaa.Q
open Go.RowKit Go.Proofs.YtonppkaobnfldaaW.PrintWords Go.Proofs.YtonppkaobnfldaaW.PrintLast Go.Proofs.YtonppkaobnfldaaW.PrintMore
attribute [local go_sem] max2_int min2_int max_two min_two max_three min_three max_four min_four   -- for this text's walks alone
set_option linter.unusedVariables false
set_option linter.unusedSimpArgs false

/-! ### spec_IdlePuts: function 42 -/
def spec_IdlePuts.l0 : Nat → List (S49) → List Int → Int → Option (List Int)
 | 0,_,_,_ => none
 | k + 1,x0,x3,x4 => if x4 < (x0.length : Int) then ((spec_idle.f k x0 x4).bind fun t500 => (if t500 = true then (if x3.length < 17592186044416 then (spec_IdlePuts.l0 k x0 (x3 ++ [x4]) (wrap64 (x4 + 1))) else (none)) else (spec_IdlePuts.l0 k x0 x3 (wrap64 (x4 + 1))))) else (some x3)
def spec_IdlePuts.f (k : Nat) (l0 : List (S49)) : Option (List Int) := (spec_validOps.f k l0).bind fun t496 => (if t496 = true then (spec_IdlePuts.l0 k l0 (([] : List Int)) 0) else (some ([] : List Int)))
set_option maxRecDepth 100000 in
theorem spec_IdlePuts.mono_l : ∀ k,(∀ y0 y1 y2,LeO (spec_IdlePuts.l0 k y0 y1 y2) (spec_IdlePuts.l0 (k + 1) y0 y1 y2))
 | 0 => fun _ _ _ r h => (by cases h)
 | k + 1 => by
  have ih0 := spec_IdlePuts.mono_l k
  ·intro y0 y1 y2
   unfold spec_IdlePuts.l0
   repeat' first
   | (with_reducible exact ih0 _ _ _)
   | (with_reducible exact spec_idle.mono _ _ _)
   | (with_reducible exact spec_validOps.mono _ _)
   | (with_reducible exact LeO.refl _)
   | (with_reducible exact LeO.none _)
   | (with_reducible refine LeO.ite ?_ ?_)
   | (with_reducible refine LeO.bind ?_ (fun _ => ?_))
   | exact ih0 _ _ _
   | exact spec_idle.mono _ _ _
   | exact spec_validOps.mono _ _
   | exact LeO.none _
   | refine LeO.ite ?_ ?_
   | refine LeO.bind ?_ (fun _ => ?_)
set_option maxRecDepth 100000 in
theorem spec_IdlePuts.mono : ∀ a0 k,LeO (spec_IdlePuts.f k a0) (spec_IdlePuts.f (k + 1) a0) := by
 intro a0 k
 have ih0 := spec_IdlePuts.mono_l k
 unfold spec_IdlePuts.f
 repeat' first
   | (with_reducible exact ih0 _ _ _)
   | (with_reducible exact spec_idle.mono _ _ _)
   | (with_reducible exact spec_validOps.mono _ _)
   | (with_reducible exact LeO.refl _)
   | (with_reducible exact LeO.none _)
   | (with_reducible refine LeO.ite ?_ ?_)
   | (with_reducible refine LeO.bind ?_ (fun _ => ?_))
   | exact ih0 _ _ _
   | exact spec_idle.mono _ _ _
   | exact spec_validOps.mono _ _
   | exact LeO.none _
   | refine LeO.ite ?_ ?_
   | refine LeO.bind ?_ (fun _ => ?_)
set_option maxHeartbeats 8000000 in
set_option maxRecDepth 100000 in
theorem spec_IdlePuts.calls (k : Nat) (A0 : Option Addr) (c0 : Nat) (l0 : List (S49)) (r : List Int) (w : World) (hr0 : Kd.C k49 w A0 l0.length l0) (hc0 : l0.length ≤ c0) (h : spec_IdlePuts.f k l0 = some r) :
  Calls Try.prog 42 #[.slice A0 l0.length c0] w fun e w' => ∃ v0_ : Value,e = .returned (v0_) ∧ Kd.R (Kd.int .i64) 3 w' w.heap.size (fun _ => True) v0_ r ∧ Below w.heap.size w w' := by
 have HR0 := As_ hr0
 have HC0 := As_ hc0
 clear hr0 hc0
 have HB := As_ (Below.refl w.heap.size w)
 have H : ((spec_validOps.f k l0).bind fun t496 => (if t496 = true then (spec_IdlePuts.l0 k l0 (([] : List Int)) 0) else (some ([] : List Int)))) = some r := h
 clear h
 replace H := obS H
 obtain ⟨t496,A20,H⟩ := H
 replace H : (if t496 = true then (spec_IdlePuts.l0 k l0 (([] : List Int)) 0) else (some ([] : List Int))) = some r := H
 have A2 := As_ A20
 clear A20
 by_cases c3 : t496 = true
 rotate_left
 ·replace c3 := Bool.eq_false_iff.mpr c3
  subst c3
  have H1 : (some ([] : List Int)) = some r := by rw [if_neg (show ¬ (false = true) by decide)] at H;exact H
  clear H
  have H := H1
  clear H1
  obtain rfl := Option.some.inj H
  go_enter Try.func42,Try.ntmps42
  go_wp2_with (first|((with_reducible refine gate_callee (f := 51) rfl ?_);refine goesL_ (some 6) rfl rfl Try.func51 (by kernel_rfl) rfl #[.slice A0 l0.length c0] rfl zM_ ?_;(with_reducible refine (spec_validOps.calls k _ _ l0 false _ ?side1 ?side2 A2.out).mono ?_);(case side1 => repeat (first|exact HR0.out|(with_reducible refine Kd.C_alloc ?_ _)|(with_reducible refine Kd.C_drewN ?_ _)|(with_reducible refine Kd.C_drew ?_)));(case side2 => exact HC0.out);rintro e w12 ⟨rfl,hb⟩;refine ⟨_,rfl,?_⟩;have n0_ := As_ (bwT (zb0 HB.out) hb);clear HB;revert n0_;intro HB))
  go_ret
  exact ⟨_,zE_,by first|exact Kd.R_nil _ _ _ _ _|exact Kd.N_nil _ _ _ _ _|exact Kd.V_nil _ _ _ _ _|exact Kd.Q_nil _ _ _ _ _|exact Kd.S_nil _ _ _ _ _,zb0 HB.out⟩

 subst c3
 have H1 : (spec_IdlePuts.l0 k l0 (([] : List Int)) 0) = some r := by rw [if_pos rfl] at H;exact H
 clear H
 have H := H1
 clear H1
 obtain ⟨y497,hy497⟩ : ∃ y_ : List Int,y_ = (([] : List Int)) := ⟨_,rfl⟩
 replace H : (spec_IdlePuts.l0 k l0 y497 0) = some r := zH_ H hy497
 have Ny497 := As_ hy497
 clear hy497
 have H' := As_ H
 clear H
 go_enter Try.func42,Try.ntmps42
 go_wp2_with (first|((with_reducible refine gate_callee (f := 51) rfl ?_);refine goesL_ (some 6) rfl rfl Try.func51 (by kernel_rfl) rfl #[.slice A0 l0.length c0] rfl zM_ ?_;(with_reducible refine (spec_validOps.calls k _ _ l0 true _ ?side1 ?side2 A2.out).mono ?_);(case side1 => repeat (first|exact HR0.out|(with_reducible refine Kd.C_alloc ?_ _)|(with_reducible refine Kd.C_drewN ?_ _)|(with_reducible refine Kd.C_drew ?_)));(case side2 => exact HC0.out);rintro e w4 ⟨rfl,hb⟩;refine ⟨_,rfl,?_⟩;have n0_ := As_ (bwT (zb0 HB.out) hb);clear HB;revert n0_;intro HB)|((with_reducible refine gate_dst (N := 8) rfl ?_);refine Kd.R_lit (Kd.int .i64) _ 3 ?hg (N := 8) ?hd (xs := ([] : List Int)) (inner := []) (ok := fun _ => True) (okp := fun _ => True) ?hr ?hp (fun _ hk => hk) trivial (Below.refl _ _) (Nat.le_refl _) (by simp) ?_;(case hd => rfl);(case hg => rfl);(case hr => go_simp <;> rfl);(case hp => exact (Reps.none _ _));intro v498 w5 ho6 hb hg_ hnew_;clear hg_ hnew_;(first|rw [← Ny497.out] at ho6|(simp only [Int.reduceToNat] at ho6;rw [← Ny497.out] at ho6));have n0_ := As_ (Kd.R_lower ho6 (bwZ (zb0 HB.out)));have n1_ := As_ (bwT (zb0 HB.out) hb);clear HB;revert n0_ n1_;intro HO499 HB;clear hb ho6))
 go_loopg [3,4] k (fun kq v3 v4 w' => ∃ (x3_1 : List Int) (x4_1 : Int),v4 = .int .i64 x4_1 ∧ Aside0 (spec_IdlePuts.l0 kq l0 x3_1 x4_1 = some r) ∧ Aside0 (kq ≤ k) ∧ Aside0 (Kd.R (Kd.int .i64) 3 w' w.heap.size (fun _ => True) v3 x3_1) ∧ Aside0 (Below w.heap.size w w'))
 case atStart => exact ⟨(y497),(0),zT_,H',⟨Nat.le_refl _⟩,⟨by (with_reducible repeat (first|apply Kd.R_alloc|apply Kd.R_drewN|apply Kd.R_drew));exact HO499.out⟩,⟨zb0 HB.out⟩⟩
 case round =>
  clear H'
  obtain ⟨x3_1,x4_1,rfl,HA,HK1,HO_3,HB⟩ := hrel
  cases gk with
  | zero => exact absurd HA.out (fun h_ => (by cases h_))
  | succ k1 =>
   have H := HA.out
   clear HA
   simp only [spec_IdlePuts.l0] at H
   by_cases c7 : x4_1 < (l0.length : Int)
   rotate_left
   ·rw [if_neg c7] at H
    have c7b0 : decide (x4_1 < (l0.length : Int)) = false := deF c7
    clear c7
    obtain rfl := Option.some.inj H
    go_wp2
    go_ret
    exact ⟨_,zE_,by (with_reducible repeat (first|apply Kd.R_alloc|apply Kd.R_drewN|apply Kd.R_drew));exact HO_3.out,zb0 HB.out⟩
   rw [if_pos c7] at H
   have c7b0 : decide (x4_1 < (l0.length : Int)) = true := deT c7
   clear c7
   replace H := obS H
   obtain ⟨t500,A80,H⟩ := H
   replace H : (if t500 = true then (if x3_1.length < 17592186044416 then (spec_IdlePuts.l0 k1 l0 (x3_1 ++ [x4_1]) (wrap64 (x4_1 + 1))) else (none)) else (spec_IdlePuts.l0 k1 l0 x3_1 (wrap64 (x4_1 + 1)))) = some r := H
   have A8 := As_ A80
   clear A80
   by_cases c9 : t500 = true
   rotate_left
   ·replace c9 := Bool.eq_false_iff.mpr c9
    subst c9
    have H1 : (spec_IdlePuts.l0 k1 l0 x3_1 (wrap64 (x4_1 + 1))) = some r := by rw [if_neg (show ¬ (false = true) by decide)] at H;exact H
    clear H
    have H := H1
    clear H1
    have H' := As_ H
    clear H
    go_wp2_with (first|((with_reducible refine gate_callee (f := 64) rfl ?_);refine goesL_ (some 17) rfl rfl Try.func64 (by kernel_rfl) rfl #[.slice A0 l0.length c0,.int .i64 x4_1] rfl zM_ ?_;(with_reducible refine (spec_idle.calls k1 _ _ l0 x4_1 false _ ?side1 ?side2 A8.out).mono ?_);(case side1 => exact zC_ (Kd.C_below HR0.out HB.out));(case side2 => exact HC0.out);rintro e w' ⟨rfl,⟨nd,rfl⟩⟩;refine ⟨_,rfl,?_⟩))
    go_roundg k1
    case measure => have := HK1.out;omega
    case rel => exact ⟨(x3_1),(wrap64 (x4_1 + 1)),zT_,H',⟨by have := HK1.out;omega⟩,⟨by (with_reducible repeat (first|apply Kd.R_alloc|apply Kd.R_drewN|apply Kd.R_drew));exact HO_3.out⟩,⟨zb0 HB.out⟩⟩
   subst c9
   have H1 : (if x3_1.length < 17592186044416 then (spec_IdlePuts.l0 k1 l0 (x3_1 ++ [x4_1]) (wrap64 (x4_1 + 1))) else (none)) = some r := by rw [if_pos rfl] at H;exact H
   clear H
   have H := H1
   clear H1
   by_cases c10 : x3_1.length < 17592186044416
   rotate_left
   ·rw [if_neg c10] at H
    exact absurd H (by simp)
   rw [if_pos c10] at H
   have LMc10 := As_ c10
   clear c10
   obtain ⟨y501,hy501⟩ : ∃ y_ : List Int,y_ = (x3_1 ++ [x4_1]) := ⟨_,rfl⟩
   replace H : (spec_IdlePuts.l0 k1 l0 y501 (wrap64 (x4_1 + 1))) = some r := zH_ H hy501
   have Ny501 := As_ hy501
   clear hy501
   have H' := As_ H
   clear H
   go_wp2_with (first|((with_reducible refine gate_callee (f := 64) rfl ?_);refine goesL_ (some 17) rfl rfl Try.func64 (by kernel_rfl) rfl #[.slice A0 l0.length c0,.int .i64 x4_1] rfl zM_ ?_;(with_reducible refine (spec_idle.calls k1 _ _ l0 x4_1 true _ ?side1 ?side2 A8.out).mono ?_);(case side1 => exact zC_ (Kd.C_below HR0.out HB.out));(case side2 => exact HC0.out);rintro e w' ⟨rfl,⟨nd,rfl⟩⟩;refine ⟨_,rfl,?_⟩)|((with_reducible refine gate_builtin (b := .append) (xs := #[.tmp 18,.tmp 20]) rfl ?_);at_builtin;refine Kd.R_append (Kd.int .i64) (w0 := w) w.heap.size rfl (.tmp 18) (.tmp 20) 29 3 (.int .i64 0) 8 rfl Try.underlying29 info3 rfl (by decide) (by omega) u3 x3_1 x4_1 [.int .i64 x4_1] (fun _ => True) (fun _ => False) rfl rfl ?aP (fun _ hk => hk.elim) ?aF ?aO ?aB ?aS ?aL ?_;(case aP => exact rfl);(case aB => exact (zb0 HB.out));(case aF => exact (fun _ _ => trivial));(case aO => exact (zR_ HO_3.out));(case aS => exact (bwZ (zb0 HB.out)));(case aL => have := LMc10.out;omega);intro v502 w11 ho hb hg hat;rw [← Ny501.out] at ho;have n0_ := As_ (hb);have n1_ := As_ (ho);clear HB HO_3;revert n0_ n1_;intro HB HO503;clear ho hb hg hat))
   go_roundg k1
   case measure => have := HK1.out;omega
   case rel => exact ⟨(y501),(wrap64 (x4_1 + 1)),zT_,H',⟨by have := HK1.out;omega⟩,⟨by (with_reducible repeat (first|apply Kd.R_alloc|apply Kd.R_drewN|apply Kd.R_drew));exact HO503.out⟩,⟨zb0 HB.out⟩⟩
/-! ### impl_IdlePuts: function 43 -/
def impl_IdlePuts.f (k : Nat) (l0 : List (S49)) : Option (List Int) := (impl_ValidOps.f k l0).bind fun t521 => (if t521 = true then ((impl_idlePuts.f k l0).bind fun t522 => (some t522)) else (some ([] : List Int)))
set_option maxRecDepth 100000 in
theorem impl_IdlePuts.mono : ∀ a0 k,LeO (impl_IdlePuts.f k a0) (impl_IdlePuts.f (k + 1) a0) := by
 intro a0 k
 unfold impl_IdlePuts.f
 repeat' first
   | (with_reducible exact impl_ValidOps.mono _ _)
   | (with_reducible exact impl_idlePuts.mono _ _)
   | (with_reducible exact LeO.refl _)
   | (with_reducible exact LeO.none _)
   | (with_reducible refine LeO.ite ?_ ?_)
   | (with_reducible refine LeO.bind ?_ (fun _ => ?_))
   | exact impl_ValidOps.mono _ _
   | exact impl_idlePuts.mono _ _
   | exact LeO.none _
   | refine LeO.ite ?_ ?_
   | refine LeO.bind ?_ (fun _ => ?_)
set_option maxHeartbeats 8000000 in
set_option maxRecDepth 100000 in
theorem impl_IdlePuts.calls (k : Nat) (A0 : Option Addr) (c0 : Nat) (l0 : List (S49)) (r : List Int) (w : World) (hr0 : Kd.C k49 w A0 l0.length l0) (hc0 : l0.length ≤ c0) (h : impl_IdlePuts.f k l0 = some r) :
  Calls Try.prog 43 #[.slice A0 l0.length c0] w fun e w' => ∃ v0_ : Value,e = .returned (v0_) ∧ Kd.R (Kd.int .i64) 3 w' w.heap.size (fun _ => True) v0_ r ∧ Below w.heap.size w w' := by
 have HR0 := As_ hr0
 have HC0 := As_ hc0
 clear hr0 hc0
 have HB := As_ (Below.refl w.heap.size w)
 have H : ((impl_ValidOps.f k l0).bind fun t521 => (if t521 = true then ((impl_idlePuts.f k l0).bind fun t522 => (some t522)) else (some ([] : List Int)))) = some r := h
 clear h
 replace H := obS H
 obtain ⟨t521,A20,H⟩ := H
 replace H : (if t521 = true then ((impl_idlePuts.f k l0).bind fun t522 => (some t522)) else (some ([] : List Int))) = some r := H
 have A2 := As_ A20
 clear A20
 by_cases c3 : t521 = true
 rotate_left
 ·replace c3 := Bool.eq_false_iff.mpr c3
  subst c3
  have H1 : (some ([] : List Int)) = some r := by rw [if_neg (show ¬ (false = true) by decide)] at H;exact H
  clear H
  have H := H1
  clear H1
  obtain rfl := Option.some.inj H
  go_enter Try.func43,Try.ntmps43
  go_wp2_with (first|((with_reducible refine gate_callee (f := 18) rfl ?_);refine goesL_ (some 4) rfl rfl Try.func18 (by kernel_rfl) rfl #[.slice A0 l0.length c0] rfl zM_ ?_;(with_reducible refine (impl_ValidOps.calls k _ _ l0 false _ ?side1 ?side2 A2.out).mono ?_);(case side1 => repeat (first|exact HR0.out|(with_reducible refine Kd.C_alloc ?_ _)|(with_reducible refine Kd.C_drewN ?_ _)|(with_reducible refine Kd.C_drew ?_)));(case side2 => exact HC0.out);rintro e w7 ⟨rfl,hb⟩;refine ⟨_,rfl,?_⟩;have n0_ := As_ (bwT (zb0 HB.out) hb);clear HB;revert n0_;intro HB))
  go_ret
  exact ⟨_,zE_,by first|exact Kd.R_nil _ _ _ _ _|exact Kd.N_nil _ _ _ _ _|exact Kd.V_nil _ _ _ _ _|exact Kd.Q_nil _ _ _ _ _|exact Kd.S_nil _ _ _ _ _,zb0 HB.out⟩

 subst c3
 have H1 : ((impl_idlePuts.f k l0).bind fun t522 => (some t522)) = some r := by rw [if_pos rfl] at H;exact H
 clear H
 have H := H1
 clear H1
 replace H := obS H
 obtain ⟨t522,A40,H⟩ := H
 replace H : (some t522) = some r := H
 have A4 := As_ A40
 clear A40
 obtain rfl := Option.some.inj H
 go_enter Try.func43,Try.ntmps43
 go_wp2_with (first|((with_reducible refine gate_callee (f := 18) rfl ?_);refine goesL_ (some 4) rfl rfl Try.func18 (by kernel_rfl) rfl #[.slice A0 l0.length c0] rfl zM_ ?_;(with_reducible refine (impl_ValidOps.calls k _ _ l0 true _ ?side1 ?side2 A2.out).mono ?_);(case side1 => repeat (first|exact HR0.out|(with_reducible refine Kd.C_alloc ?_ _)|(with_reducible refine Kd.C_drewN ?_ _)|(with_reducible refine Kd.C_drew ?_)));(case side2 => exact HC0.out);rintro e w5 ⟨rfl,hb⟩;refine ⟨_,rfl,?_⟩;have n0_ := As_ (bwT (zb0 HB.out) hb);clear HB;revert n0_;intro HB)|((with_reducible refine gate_callee (f := 65) rfl ?_);refine goesL_ (some 7) rfl rfl Try.func65 (by kernel_rfl) rfl #[.slice A0 l0.length c0] rfl zM_ ?_;(with_reducible refine (impl_idlePuts.calls k _ _ l0 t522 _ ?side1 ?side2 A4.out).mono ?_);(case side1 => exact zC_ (Kd.C_below HR0.out HB.out));(case side2 => exact HC0.out);rintro e w6 ⟨v523,rfl,ho0,hb⟩;refine ⟨_,rfl,?_⟩;have n0_ := As_ (Kd.R_lower ho0 (bwZ (zb0 HB.out)));have n1_ := As_ (bwT (zb0 HB.out) hb);clear HB;revert n0_ n1_;intro HO524 HB))
 go_ret
 exact ⟨_,zE_,by (with_reducible repeat (first|apply Kd.R_alloc|apply Kd.R_drewN|apply Kd.R_drew));exact HO524.out,zb0 HB.out⟩
/-! ### laws_FnExactIdlePuts: function 11 -/
def laws_FnExactIdlePuts.j0 : Nat → List (S51) → List Int → List Int → Bool → Option (Bool)
 | 0,_,_,_,_ => none
 | k + 1,x0,x4,x6,x42 => if x42 = true then (some false) else ((laws_markIntS.f k x6 1).bind fun bt546 => ((laws_heldIntS.f k bt546.2 1).bind fun t548 => (if t548 < 0 then (some false) else (if t548 = bt546.1 then ((laws_toOpS.f k x0).bind fun t549 => ((impl_IdlePuts.f k t549).bind fun t552 => ((laws_eqIntS.f k t552 x4).bind fun t555 => (if t555 = true then ((laws_heldIntS.f k bt546.2 1).bind fun t556 => (if t556 < 0 then (some false) else (if t556 = bt546.1 then (some true) else (some false)))) else (some false))))) else (some false)))))
def laws_FnExactIdlePuts.f (k : Nat) (l0 : List (S51)) : Option (Bool) := (laws_szOpS.f l0 1048576).bind fun t525 => (if t525 < 0 then (some true) else ((laws_toOpS.f k l0).bind fun t526 => ((spec_IdlePuts.f k t526).bind fun t529 => ((laws_toOpS.f k l0).bind fun t532 => ((impl_IdlePuts.f k t532).bind fun t535 => ((laws_eqIntS.f k t535 t529).bind fun t538 => (if t538 = true then ((laws_toOpS.f k l0).bind fun t539 => ((laws_eqOpS.f k t532 t539).bind fun t542 => (if t542 = true then ((laws_markOpS.f k t532 1).bind fun bt543 => (if bt543.1 < 0 then (laws_FnExactIdlePuts.j0 k l0 t529 t535 true) else ((laws_eqIntS.f k t535 t529).bind fun t545 => (laws_FnExactIdlePuts.j0 k l0 t529 t535 (!t545))))) else (some false)))) else (some false))))))))
set_option maxRecDepth 100000 in
theorem laws_FnExactIdlePuts.mono_l : ∀ k,(∀ y0 y1 y2 y3,LeO (laws_FnExactIdlePuts.j0 k y0 y1 y2 y3) (laws_FnExactIdlePuts.j0 (k + 1) y0 y1 y2 y3))
 | 0 => fun _ _ _ _ r h => (by cases h)
 | k + 1 => by
  have ih0 := laws_FnExactIdlePuts.mono_l k
  ·intro y0 y1 y2 y3
   unfold laws_FnExactIdlePuts.j0
   repeat' first
   | (with_reducible exact ih0 _ _ _ _)
   | (with_reducible exact impl_IdlePuts.mono _ _)
   | (with_reducible exact laws_eqIntS.mono _ _ _)
   | (with_reducible exact laws_eqOpS.mono _ _ _)
   | (with_reducible exact laws_heldIntS.mono _ _ _)
   | (with_reducible exact laws_markIntS.mono _ _ _)
   | (with_reducible exact laws_markOpS.mono _ _ _)
   | (with_reducible exact laws_toOpS.mono _ _)
   | (with_reducible exact spec_IdlePuts.mono _ _)
   | (with_reducible exact LeO.refl _)
   | (with_reducible exact LeO.none _)
   | (with_reducible refine LeO.ite ?_ ?_)
   | (with_reducible refine LeO.bind ?_ (fun _ => ?_))
   | exact ih0 _ _ _ _
   | exact impl_IdlePuts.mono _ _
   | exact laws_eqIntS.mono _ _ _
   | exact laws_eqOpS.mono _ _ _
   | exact laws_heldIntS.mono _ _ _
   | exact laws_markIntS.mono _ _ _
   | exact laws_markOpS.mono _ _ _
   | exact laws_toOpS.mono _ _
   | exact spec_IdlePuts.mono _ _
   | exact LeO.none _
   | refine LeO.ite ?_ ?_
   | refine LeO.bind ?_ (fun _ => ?_)
set_option maxRecDepth 100000 in
theorem laws_FnExactIdlePuts.mono : ∀ a0 k,LeO (laws_FnExactIdlePuts.f k a0) (laws_FnExactIdlePuts.f (k + 1) a0) := by
 intro a0 k
 have ih0 := laws_FnExactIdlePuts.mono_l k
 unfold laws_FnExactIdlePuts.f
 repeat' first
   | (with_reducible exact ih0 _ _ _ _)
   | (with_reducible exact impl_IdlePuts.mono _ _)
   | (with_reducible exact laws_eqIntS.mono _ _ _)
   | (with_reducible exact laws_eqOpS.mono _ _ _)
   | (with_reducible exact laws_heldIntS.mono _ _ _)
   | (with_reducible exact laws_markIntS.mono _ _ _)
   | (with_reducible exact laws_markOpS.mono _ _ _)
   | (with_reducible exact laws_toOpS.mono _ _)
   | (with_reducible exact spec_IdlePuts.mono _ _)
   | (with_reducible exact LeO.refl _)
   | (with_reducible exact LeO.none _)
   | (with_reducible refine LeO.ite ?_ ?_)
   | (with_reducible refine LeO.bind ?_ (fun _ => ?_))
   | exact ih0 _ _ _ _
   | exact impl_IdlePuts.mono _ _
   | exact laws_eqIntS.mono _ _ _
   | exact laws_eqOpS.mono _ _ _
   | exact laws_heldIntS.mono _ _ _
   | exact laws_markIntS.mono _ _ _
   | exact laws_markOpS.mono _ _ _
   | exact laws_toOpS.mono _ _
   | exact spec_IdlePuts.mono _ _
   | exact LeO.none _
   | refine LeO.ite ?_ ?_
   | refine LeO.bind ?_ (fun _ => ?_)
set_option maxHeartbeats 8000000 in
set_option maxRecDepth 100000 in
theorem laws_FnExactIdlePuts.calls (k : Nat) (A0 : Option Addr) (c0 : Nat) (l0 : List (S51)) (r : Bool) (w : World) (hr0 : Kd.C k51 w A0 l0.length l0) (hc0 : l0.length ≤ c0) (h : laws_FnExactIdlePuts.f k l0 = some r) :
  Calls Try.prog 11 #[.slice A0 l0.length c0] w fun e w' => e = .returned (.bool r) ∧ Below w.heap.size w w' := by
 have HR0 := As_ hr0
 have HC0 := As_ hc0
 clear hr0 hc0
 have HB := As_ (Below.refl w.heap.size w)
 have H : ((laws_szOpS.f l0 1048576).bind fun t525 => (if t525 < 0 then (some true) else ((laws_toOpS.f k l0).bind fun t526 => ((spec_IdlePuts.f k t526).bind fun t529 => ((laws_toOpS.f k l0).bind fun t532 => ((impl_IdlePuts.f k t532).bind fun t535 => ((laws_eqIntS.f k t535 t529).bind fun t538 => (if t538 = true then ((laws_toOpS.f k l0).bind fun t539 => ((laws_eqOpS.f k t532 t539).bind fun t542 => (if t542 = true then ((laws_markOpS.f k t532 1).bind fun bt543 => (if bt543.1 < 0 then (laws_FnExactIdlePuts.j0 k l0 t529 t535 true) else ((laws_eqIntS.f k t535 t529).bind fun t545 => (laws_FnExactIdlePuts.j0 k l0 t529 t535 (!t545))))) else (some false)))) else (some false))))))))) = some r := h
 clear h
 replace H := obS H
 obtain ⟨t525,A20,H⟩ := H
 replace H : (if t525 < 0 then (some true) else ((laws_toOpS.f k l0).bind fun t526 => ((spec_IdlePuts.f k t526).bind fun t529 => ((laws_toOpS.f k l0).bind fun t532 => ((impl_IdlePuts.f k t532).bind fun t535 => ((laws_eqIntS.f k t535 t529).bind fun t538 => (if t538 = true then ((laws_toOpS.f k l0).bind fun t539 => ((laws_eqOpS.f k t532 t539).bind fun t542 => (if t542 = true then ((laws_markOpS.f k t532 1).bind fun bt543 => (if bt543.1 < 0 then (laws_FnExactIdlePuts.j0 k l0 t529 t535 true) else ((laws_eqIntS.f k t535 t529).bind fun t545 => (laws_FnExactIdlePuts.j0 k l0 t529 t535 (!t545))))) else (some false)))) else (some false)))))))) = some r := H
 have A2 := As_ A20
 clear A20
 by_cases c3 : t525 < 0
 ·rw [if_pos c3] at H
  have c3b0 : decide (t525 < 0) = true := deT c3
  clear c3
  obtain rfl := Option.some.inj H
  go_enter Try.func11,Try.ntmps11
  go_wp2_with (first|((with_reducible refine gate_callee (f := 15) rfl ?_);refine goesL_ (some 13) rfl rfl Try.func15 (by kernel_rfl) rfl #[.slice A0 l0.length c0,.int .i64 1048576] rfl zM_ ?_;(with_reducible refine (laws_szOpS.calls _ _ l0 1048576 t525 _ ?side1 ?side2 A2.out).mono ?_);(case side1 => repeat (first|exact HR0.out|(with_reducible refine Kd.C_alloc ?_ _)|(with_reducible refine Kd.C_drewN ?_ _)|(with_reducible refine Kd.C_drew ?_)));(case side2 => exact HC0.out);rintro e w' ⟨rfl,⟨nd,rfl⟩⟩;refine ⟨_,rfl,?_⟩))
  go_ret
  exact ⟨zE_,zb0 HB.out⟩
 rw [if_neg c3] at H
 have c3b0 : decide (t525 < 0) = false := deF c3
 clear c3
 replace H := obS H
 obtain ⟨t526,A40,H⟩ := H
 replace H : ((spec_IdlePuts.f k t526).bind fun t529 => ((laws_toOpS.f k l0).bind fun t532 => ((impl_IdlePuts.f k t532).bind fun t535 => ((laws_eqIntS.f k t535 t529).bind fun t538 => (if t538 = true then ((laws_toOpS.f k l0).bind fun t539 => ((laws_eqOpS.f k t532 t539).bind fun t542 => (if t542 = true then ((laws_markOpS.f k t532 1).bind fun bt543 => (if bt543.1 < 0 then (laws_FnExactIdlePuts.j0 k l0 t529 t535 true) else ((laws_eqIntS.f k t535 t529).bind fun t545 => (laws_FnExactIdlePuts.j0 k l0 t529 t535 (!t545))))) else (some false)))) else (some false)))))) = some r := H
 have A4 := As_ A40
 clear A40
 replace H := obS H
 obtain ⟨t529,A50,H⟩ := H
 replace H : ((laws_toOpS.f k l0).bind fun t532 => ((impl_IdlePuts.f k t532).bind fun t535 => ((laws_eqIntS.f k t535 t529).bind fun t538 => (if t538 = true then ((laws_toOpS.f k l0).bind fun t539 => ((laws_eqOpS.f k t532 t539).bind fun t542 => (if t542 = true then ((laws_markOpS.f k t532 1).bind fun bt543 => (if bt543.1 < 0 then (laws_FnExactIdlePuts.j0 k l0 t529 t535 true) else ((laws_eqIntS.f k t535 t529).bind fun t545 => (laws_FnExactIdlePuts.j0 k l0 t529 t535 (!t545))))) else (some false)))) else (some false))))) = some r := H
 have A5 := As_ A50
 clear A50
 replace H := obS H
 obtain ⟨t532,A60,H⟩ := H
 replace H : ((impl_IdlePuts.f k t532).bind fun t535 => ((laws_eqIntS.f k t535 t529).bind fun t538 => (if t538 = true then ((laws_toOpS.f k l0).bind fun t539 => ((laws_eqOpS.f k t532 t539).bind fun t542 => (if t542 = true then ((laws_markOpS.f k t532 1).bind fun bt543 => (if bt543.1 < 0 then (laws_FnExactIdlePuts.j0 k l0 t529 t535 true) else ((laws_eqIntS.f k t535 t529).bind fun t545 => (laws_FnExactIdlePuts.j0 k l0 t529 t535 (!t545))))) else (some false)))) else (some false)))) = some r := H
 have A6 := As_ A60
 clear A60
 replace H := obS H
 obtain ⟨t535,A70,H⟩ := H
 replace H : ((laws_eqIntS.f k t535 t529).bind fun t538 => (if t538 = true then ((laws_toOpS.f k l0).bind fun t539 => ((laws_eqOpS.f k t532 t539).bind fun t542 => (if t542 = true then ((laws_markOpS.f k t532 1).bind fun bt543 => (if bt543.1 < 0 then (laws_FnExactIdlePuts.j0 k l0 t529 t535 true) else ((laws_eqIntS.f k t535 t529).bind fun t545 => (laws_FnExactIdlePuts.j0 k l0 t529 t535 (!t545))))) else (some false)))) else (some false))) = some r := H
 have A7 := As_ A70
 clear A70
 replace H := obS H
 obtain ⟨t538,A80,H⟩ := H
 replace H : (if t538 = true then ((laws_toOpS.f k l0).bind fun t539 => ((laws_eqOpS.f k t532 t539).bind fun t542 => (if t542 = true then ((laws_markOpS.f k t532 1).bind fun bt543 => (if bt543.1 < 0 then (laws_FnExactIdlePuts.j0 k l0 t529 t535 true) else ((laws_eqIntS.f k t535 t529).bind fun t545 => (laws_FnExactIdlePuts.j0 k l0 t529 t535 (!t545))))) else (some false)))) else (some false)) = some r := H
 have A8 := As_ A80
 clear A80
 by_cases c9 : t538 = true
 rotate_left
 ·replace c9 := Bool.eq_false_iff.mpr c9
  subst c9
  have H1 : (some false) = some r := by rw [if_neg (show ¬ (false = true) by decide)] at H;exact H
  clear H
  have H := H1
  clear H1
  obtain rfl := Option.some.inj H
  go_enter Try.func11,Try.ntmps11
  go_wp2_with (first|((with_reducible refine gate_callee (f := 15) rfl ?_);refine goesL_ (some 13) rfl rfl Try.func15 (by kernel_rfl) rfl #[.slice A0 l0.length c0,.int .i64 1048576] rfl zM_ ?_;(with_reducible refine (laws_szOpS.calls _ _ l0 1048576 t525 _ ?side1 ?side2 A2.out).mono ?_);(case side1 => repeat (first|exact HR0.out|(with_reducible refine Kd.C_alloc ?_ _)|(with_reducible refine Kd.C_drewN ?_ _)|(with_reducible refine Kd.C_drew ?_)));(case side2 => exact HC0.out);rintro e w' ⟨rfl,⟨nd,rfl⟩⟩;refine ⟨_,rfl,?_⟩)|((with_reducible refine gate_callee (f := 17) rfl ?_);refine goesL_ (some 17) rfl rfl Try.func17 (by kernel_rfl) rfl #[.slice A0 l0.length c0] rfl zM_ ?_;(with_reducible refine (laws_toOpS.calls k _ _ l0 t526 _ ?side1 ?side2 A4.out).mono ?_);(case side1 => repeat (first|exact HR0.out|(with_reducible refine Kd.C_alloc ?_ _)|(with_reducible refine Kd.C_drewN ?_ _)|(with_reducible refine Kd.C_drew ?_)));(case side2 => exact HC0.out);rintro e w74 ⟨v527,rfl,ho0,hb⟩;refine ⟨_,rfl,?_⟩;have n0_ := As_ (Kd.R_lower ho0 (bwZ (zb0 HB.out)));have n1_ := As_ (bwT (zb0 HB.out) hb);clear HB;revert n0_ n1_;intro HO528 HB;obtain ⟨Ao75,co75,eo75⟩ := Kd.R_slice HO528.out;subst eo75)|((with_reducible refine gate_callee (f := 42) rfl ?_);refine goesL_ (some 18) rfl rfl Try.func42 (by kernel_rfl) rfl #[.slice Ao75 t526.length co75] rfl zM_ ?_;(with_reducible refine (spec_IdlePuts.calls k _ _ t526 t529 _ ?side1 ?side2 A5.out).mono ?_);(case side1 => exact zC_ (Kd.R_reads' HO528.out).2.2);(case side2 => exact (Kd.R_reads' HO528.out).2.1);rintro e w76 ⟨v530,rfl,ho0,hb⟩;refine ⟨_,rfl,?_⟩;have n0_ := As_ (Kd.R_below (zR_ HO528.out) hb);have n1_ := As_ (Kd.R_lower ho0 (bwZ (zb0 HB.out)));have n2_ := As_ (bwT (zb0 HB.out) hb);clear HO528 HB;revert n0_ n1_ n2_;intro HO528 HO531 HB)|((with_reducible refine gate_callee (f := 17) rfl ?_);refine goesL_ (some 20) rfl rfl Try.func17 (by kernel_rfl) rfl #[.slice A0 l0.length c0] rfl zM_ ?_;(with_reducible refine (laws_toOpS.calls k _ _ l0 t532 _ ?side1 ?side2 A6.out).mono ?_);(case side1 => exact zC_ (Kd.C_below HR0.out HB.out));(case side2 => exact HC0.out);rintro e w77 ⟨v533,rfl,ho0,hb⟩;refine ⟨_,rfl,?_⟩;have n0_ := As_ (Kd.R_elder' (zR_ HO528.out) (Kd.R_base ho0) hb);have n1_ := As_ (Kd.R_below (zR_ HO531.out) hb);have n2_ := As_ (Kd.R_lower (Kd.R_new' ho0 (Kd.R_lt (zR_ HO528.out))) (bwZ (zb0 HB.out)));have n3_ := As_ (bwT (zb0 HB.out) hb);clear HO528 HO531 HB;revert n0_ n1_ n2_ n3_;intro HO528 HO531 HO534 HB;obtain ⟨Ao78,co78,eo78⟩ := Kd.R_slice HO534.out;subst eo78)|((with_reducible refine gate_callee (f := 43) rfl ?_);refine goesL_ (some 22) rfl rfl Try.func43 (by kernel_rfl) rfl #[.slice Ao78 t532.length co78] rfl zM_ ?_;(with_reducible refine (impl_IdlePuts.calls k _ _ t532 t535 _ ?side1 ?side2 A7.out).mono ?_);(case side1 => exact zC_ (Kd.R_reads' HO534.out).2.2);(case side2 => exact (Kd.R_reads' HO534.out).2.1);rintro e w79 ⟨v536,rfl,ho0,hb⟩;refine ⟨_,rfl,?_⟩;have n0_ := As_ (Kd.R_below (zR_ HO528.out) hb);have n1_ := As_ (Kd.R_elder' (zR_ HO531.out) (Kd.R_base ho0) hb);have n2_ := As_ (Kd.R_below (zR_ HO534.out) hb);have n3_ := As_ (Kd.R_lower (Kd.R_new' ho0 (Kd.R_lt (zR_ HO531.out))) (bwZ (zb0 HB.out)));have n4_ := As_ (bwT (zb0 HB.out) hb);clear HO528 HO531 HO534 HB;revert n0_ n1_ n2_ n3_ n4_;intro HO528 HO531 HO534 HO537 HB;obtain ⟨Ao80,co80,eo80⟩ := Kd.R_slice HO537.out;subst eo80;obtain ⟨Ao81,co81,eo81⟩ := Kd.R_slice HO531.out;subst eo81)|((with_reducible refine gate_callee (f := 23) rfl ?_);refine goesL_ (some 25) rfl rfl Try.func23 (by kernel_rfl) rfl #[.slice Ao80 t535.length co80,.slice Ao81 t529.length co81] rfl zM_ ?_;(with_reducible refine (laws_eqIntS.calls k _ _ t535 _ _ t529 false _ ?side1 ?side2 ?side3 ?side4 A8.out).mono ?_);(case side1 => exact zC_ (Kd.R_reads' HO537.out).2.2);(case side2 => exact (Kd.R_reads' HO537.out).2.1);(case side3 => exact zC_ (Kd.R_reads' HO531.out).2.2);(case side4 => exact (Kd.R_reads' HO531.out).2.1);rintro e w' ⟨rfl,⟨nd,rfl⟩⟩;refine ⟨_,rfl,?_⟩))
  go_ret
  exact ⟨zE_,zb0 HB.out⟩

 subst c9
 have H1 : ((laws_toOpS.f k l0).bind fun t539 => ((laws_eqOpS.f k t532 t539).bind fun t542 => (if t542 = true then ((laws_markOpS.f k t532 1).bind fun bt543 => (if bt543.1 < 0 then (laws_FnExactIdlePuts.j0 k l0 t529 t535 true) else ((laws_eqIntS.f k t535 t529).bind fun t545 => (laws_FnExactIdlePuts.j0 k l0 t529 t535 (!t545))))) else (some false)))) = some r := by rw [if_pos rfl] at H;exact H
 clear H
 have H := H1
 clear H1
 replace H := obS H
 obtain ⟨t539,A100,H⟩ := H
 replace H : ((laws_eqOpS.f k t532 t539).bind fun t542 => (if t542 = true then ((laws_markOpS.f k t532 1).bind fun bt543 => (if bt543.1 < 0 then (laws_FnExactIdlePuts.j0 k l0 t529 t535 true) else ((laws_eqIntS.f k t535 t529).bind fun t545 => (laws_FnExactIdlePuts.j0 k l0 t529 t535 (!t545))))) else (some false))) = some r := H
 have A10 := As_ A100
 clear A100
 replace H := obS H
 obtain ⟨t542,A110,H⟩ := H
 replace H : (if t542 = true then ((laws_markOpS.f k t532 1).bind fun bt543 => (if bt543.1 < 0 then (laws_FnExactIdlePuts.j0 k l0 t529 t535 true) else ((laws_eqIntS.f k t535 t529).bind fun t545 => (laws_FnExactIdlePuts.j0 k l0 t529 t535 (!t545))))) else (some false)) = some r := H
 have A11 := As_ A110
 clear A110
 by_cases c12 : t542 = true
 rotate_left
 ·replace c12 := Bool.eq_false_iff.mpr c12
  subst c12
  have H1 : (some false) = some r := by rw [if_neg (show ¬ (false = true) by decide)] at H;exact H
  clear H
  have H := H1
  clear H1
  obtain rfl := Option.some.inj H
  go_enter Try.func11,Try.ntmps11
  go_wp2_with (first|((with_reducible refine gate_callee (f := 15) rfl ?_);refine goesL_ (some 13) rfl rfl Try.func15 (by kernel_rfl) rfl #[.slice A0 l0.length c0,.int .i64 1048576] rfl zM_ ?_;(with_reducible refine (laws_szOpS.calls _ _ l0 1048576 t525 _ ?side1 ?side2 A2.out).mono ?_);(case side1 => repeat (first|exact HR0.out|(with_reducible refine Kd.C_alloc ?_ _)|(with_reducible refine Kd.C_drewN ?_ _)|(with_reducible refine Kd.C_drew ?_)));(case side2 => exact HC0.out);rintro e w' ⟨rfl,⟨nd,rfl⟩⟩;refine ⟨_,rfl,?_⟩)|((with_reducible refine gate_callee (f := 17) rfl ?_);refine goesL_ (some 17) rfl rfl Try.func17 (by kernel_rfl) rfl #[.slice A0 l0.length c0] rfl zM_ ?_;(with_reducible refine (laws_toOpS.calls k _ _ l0 t526 _ ?side1 ?side2 A4.out).mono ?_);(case side1 => repeat (first|exact HR0.out|(with_reducible refine Kd.C_alloc ?_ _)|(with_reducible refine Kd.C_drewN ?_ _)|(with_reducible refine Kd.C_drew ?_)));(case side2 => exact HC0.out);rintro e w63 ⟨v527,rfl,ho0,hb⟩;refine ⟨_,rfl,?_⟩;have n0_ := As_ (Kd.R_lower ho0 (bwZ (zb0 HB.out)));have n1_ := As_ (bwT (zb0 HB.out) hb);clear HB;revert n0_ n1_;intro HO528 HB;obtain ⟨Ao64,co64,eo64⟩ := Kd.R_slice HO528.out;subst eo64)|((with_reducible refine gate_callee (f := 42) rfl ?_);refine goesL_ (some 18) rfl rfl Try.func42 (by kernel_rfl) rfl #[.slice Ao64 t526.length co64] rfl zM_ ?_;(with_reducible refine (spec_IdlePuts.calls k _ _ t526 t529 _ ?side1 ?side2 A5.out).mono ?_);(case side1 => exact zC_ (Kd.R_reads' HO528.out).2.2);(case side2 => exact (Kd.R_reads' HO528.out).2.1);rintro e w65 ⟨v530,rfl,ho0,hb⟩;refine ⟨_,rfl,?_⟩;have n0_ := As_ (Kd.R_below (zR_ HO528.out) hb);have n1_ := As_ (Kd.R_lower ho0 (bwZ (zb0 HB.out)));have n2_ := As_ (bwT (zb0 HB.out) hb);clear HO528 HB;revert n0_ n1_ n2_;intro HO528 HO531 HB)|((with_reducible refine gate_callee (f := 17) rfl ?_);refine goesL_ (some 20) rfl rfl Try.func17 (by kernel_rfl) rfl #[.slice A0 l0.length c0] rfl zM_ ?_;(with_reducible refine (laws_toOpS.calls k _ _ l0 t532 _ ?side1 ?side2 A6.out).mono ?_);(case side1 => exact zC_ (Kd.C_below HR0.out HB.out));(case side2 => exact HC0.out);rintro e w66 ⟨v533,rfl,ho0,hb⟩;refine ⟨_,rfl,?_⟩;have n0_ := As_ (Kd.R_elder' (zR_ HO528.out) (Kd.R_base ho0) hb);have n1_ := As_ (Kd.R_below (zR_ HO531.out) hb);have n2_ := As_ (Kd.R_lower (Kd.R_new' ho0 (Kd.R_lt (zR_ HO528.out))) (bwZ (zb0 HB.out)));have n3_ := As_ (bwT (zb0 HB.out) hb);clear HO528 HO531 HB;revert n0_ n1_ n2_ n3_;intro HO528 HO531 HO534 HB;obtain ⟨Ao67,co67,eo67⟩ := Kd.R_slice HO534.out;subst eo67)|((with_reducible refine gate_callee (f := 43) rfl ?_);refine goesL_ (some 22) rfl rfl Try.func43 (by kernel_rfl) rfl #[.slice Ao67 t532.length co67] rfl zM_ ?_;(with_reducible refine (impl_IdlePuts.calls k _ _ t532 t535 _ ?side1 ?side2 A7.out).mono ?_);(case side1 => exact zC_ (Kd.R_reads' HO534.out).2.2);(case side2 => exact (Kd.R_reads' HO534.out).2.1);rintro e w68 ⟨v536,rfl,ho0,hb⟩;refine ⟨_,rfl,?_⟩;have n0_ := As_ (Kd.R_below (zR_ HO528.out) hb);have n1_ := As_ (Kd.R_elder' (zR_ HO531.out) (Kd.R_base ho0) hb);have n2_ := As_ (Kd.R_below (zR_ HO534.out) hb);have n3_ := As_ (Kd.R_lower (Kd.R_new' ho0 (Kd.R_lt (zR_ HO531.out))) (bwZ (zb0 HB.out)));have n4_ := As_ (bwT (zb0 HB.out) hb);clear HO528 HO531 HO534 HB;revert n0_ n1_ n2_ n3_ n4_;intro HO528 HO531 HO534 HO537 HB;obtain ⟨Ao69,co69,eo69⟩ := Kd.R_slice HO537.out;subst eo69;obtain ⟨Ao70,co70,eo70⟩ := Kd.R_slice HO531.out;subst eo70)|((with_reducible refine gate_callee (f := 23) rfl ?_);refine goesL_ (some 25) rfl rfl Try.func23 (by kernel_rfl) rfl #[.slice Ao69 t535.length co69,.slice Ao70 t529.length co70] rfl zM_ ?_;(with_reducible refine (laws_eqIntS.calls k _ _ t535 _ _ t529 true _ ?side1 ?side2 ?side3 ?side4 A8.out).mono ?_);(case side1 => exact zC_ (Kd.R_reads' HO537.out).2.2);(case side2 => exact (Kd.R_reads' HO537.out).2.1);(case side3 => exact zC_ (Kd.R_reads' HO531.out).2.2);(case side4 => exact (Kd.R_reads' HO531.out).2.1);rintro e w' ⟨rfl,⟨nd,rfl⟩⟩;refine ⟨_,rfl,?_⟩)|((with_reducible refine gate_callee (f := 17) rfl ?_);refine goesL_ (some 29) rfl rfl Try.func17 (by kernel_rfl) rfl #[.slice A0 l0.length c0] rfl zM_ ?_;(with_reducible refine (laws_toOpS.calls k _ _ l0 t539 _ ?side1 ?side2 A10.out).mono ?_);(case side1 => repeat (first|exact (Kd.C_below HR0.out (zb0 HB.out))|(with_reducible refine Kd.C_alloc ?_ _)|(with_reducible refine Kd.C_drewN ?_ _)|(with_reducible refine Kd.C_drew ?_)));(case side2 => exact HC0.out);rintro e w71 ⟨v540,rfl,ho0,hb⟩;refine ⟨_,rfl,?_⟩;have n0_ := As_ (Kd.R_elder' (zR_ HO528.out) (Kd.R_base ho0) hb);have n1_ := As_ (Kd.R_below (zR_ HO531.out) hb);have n2_ := As_ (Kd.R_elder' (zR_ HO534.out) (Kd.R_base ho0) hb);have n3_ := As_ (Kd.R_below (zR_ HO537.out) hb);have n4_ := As_ (Kd.R_lower (Kd.R_new' (Kd.R_new' ho0 (Kd.R_lt (zR_ HO528.out))) (Kd.R_lt (zR_ HO534.out))) (bwZ (zb0 HB.out)));have n5_ := As_ (bwT (zb0 HB.out) hb);clear HO528 HO531 HO534 HO537 HB;revert n0_ n1_ n2_ n3_ n4_ n5_;intro HO528 HO531 HO534 HO537 HO541 HB;obtain ⟨Ao72,co72,eo72⟩ := Kd.R_slice HO541.out;subst eo72)|((with_reducible refine gate_callee (f := 19) rfl ?_);refine goesL_ (some 30) rfl rfl Try.func19 (by kernel_rfl) rfl #[.slice Ao67 t532.length co67,.slice Ao72 t539.length co72] rfl zM_ ?_;(with_reducible refine (laws_eqOpS.calls k _ _ t532 _ _ t539 false _ ?side1 ?side2 ?side3 ?side4 A11.out).mono ?_);(case side1 => exact zC_ (Kd.R_reads' HO534.out).2.2);(case side2 => exact (Kd.R_reads' HO534.out).2.1);(case side3 => exact zC_ (Kd.R_reads' HO541.out).2.2);(case side4 => exact (Kd.R_reads' HO541.out).2.1);rintro e w73 ⟨rfl,hb⟩;refine ⟨_,rfl,?_⟩;have n0_ := As_ (Kd.R_below (zR_ HO528.out) hb);have n1_ := As_ (Kd.R_below (zR_ HO531.out) hb);have n2_ := As_ (Kd.R_below (zR_ HO534.out) hb);have n3_ := As_ (Kd.R_below (zR_ HO537.out) hb);have n4_ := As_ (Kd.R_below (zR_ HO541.out) hb);have n5_ := As_ (bwT (zb0 HB.out) hb);clear HO528 HO531 HO534 HO537 HO541 HB;revert n0_ n1_ n2_ n3_ n4_ n5_;intro HO528 HO531 HO534 HO537 HO541 HB))
  go_ret
  exact ⟨zE_,zb0 HB.out⟩
 subst c12
 have H1 : ((laws_markOpS.f k t532 1).bind fun bt543 => (if bt543.1 < 0 then (laws_FnExactIdlePuts.j0 k l0 t529 t535 true) else ((laws_eqIntS.f k t535 t529).bind fun t545 => (laws_FnExactIdlePuts.j0 k l0 t529 t535 (!t545))))) = some r := by rw [if_pos rfl] at H;exact H
 clear H
 have H := H1
 clear H1
 replace H := obS H
 obtain ⟨⟨t543,t544⟩,A130,H⟩ := H
 replace H : (if t543 < 0 then (laws_FnExactIdlePuts.j0 k l0 t529 t535 true) else ((laws_eqIntS.f k t535 t529).bind fun t545 => (laws_FnExactIdlePuts.j0 k l0 t529 t535 (!t545)))) = some r := H
 have A13 := As_ A130
 clear A130
 have HC14 := As_ H
 clear H
 go_enter Try.func11,Try.ntmps11
 go_upto_region 14 with (first|((with_reducible refine gate_callee (f := 15) rfl ?_);refine goesL_ (some 13) rfl rfl Try.func15 (by kernel_rfl) rfl #[.slice A0 l0.length c0,.int .i64 1048576] rfl zM_ ?_;(with_reducible refine (laws_szOpS.calls _ _ l0 1048576 t525 _ ?side1 ?side2 A2.out).mono ?_);(case side1 => repeat (first|exact HR0.out|(with_reducible refine Kd.C_alloc ?_ _)|(with_reducible refine Kd.C_drewN ?_ _)|(with_reducible refine Kd.C_drew ?_)));(case side2 => exact HC0.out);rintro e w' ⟨rfl,⟨nd,rfl⟩⟩;refine ⟨_,rfl,?_⟩)|((with_reducible refine gate_callee (f := 17) rfl ?_);refine goesL_ (some 17) rfl rfl Try.func17 (by kernel_rfl) rfl #[.slice A0 l0.length c0] rfl zM_ ?_;(with_reducible refine (laws_toOpS.calls k _ _ l0 t526 _ ?side1 ?side2 A4.out).mono ?_);(case side1 => repeat (first|exact HR0.out|(with_reducible refine Kd.C_alloc ?_ _)|(with_reducible refine Kd.C_drewN ?_ _)|(with_reducible refine Kd.C_drew ?_)));(case side2 => exact HC0.out);rintro e w15 ⟨v527,rfl,ho0,hb⟩;refine ⟨_,rfl,?_⟩;have n0_ := As_ (Kd.R_lower ho0 (bwZ (zb0 HB.out)));have n1_ := As_ (bwT (zb0 HB.out) hb);clear HB;revert n0_ n1_;intro HO528 HB;obtain ⟨Ao16,co16,eo16⟩ := Kd.R_slice HO528.out;subst eo16)|((with_reducible refine gate_callee (f := 42) rfl ?_);refine goesL_ (some 18) rfl rfl Try.func42 (by kernel_rfl) rfl #[.slice Ao16 t526.length co16] rfl zM_ ?_;(with_reducible refine (spec_IdlePuts.calls k _ _ t526 t529 _ ?side1 ?side2 A5.out).mono ?_);(case side1 => exact zC_ (Kd.R_reads' HO528.out).2.2);(case side2 => exact (Kd.R_reads' HO528.out).2.1);rintro e w17 ⟨v530,rfl,ho0,hb⟩;refine ⟨_,rfl,?_⟩;have n0_ := As_ (Kd.R_below (zR_ HO528.out) hb);have n1_ := As_ (Kd.R_lower ho0 (bwZ (zb0 HB.out)));have n2_ := As_ (bwT (zb0 HB.out) hb);clear HO528 HB;revert n0_ n1_ n2_;intro HO528 HO531 HB)|((with_reducible refine gate_callee (f := 17) rfl ?_);refine goesL_ (some 20) rfl rfl Try.func17 (by kernel_rfl) rfl #[.slice A0 l0.length c0] rfl zM_ ?_;(with_reducible refine (laws_toOpS.calls k _ _ l0 t532 _ ?side1 ?side2 A6.out).mono ?_);(case side1 => exact zC_ (Kd.C_below HR0.out HB.out));(case side2 => exact HC0.out);rintro e w18 ⟨v533,rfl,ho0,hb⟩;refine ⟨_,rfl,?_⟩;have n0_ := As_ (Kd.R_elder' (zR_ HO528.out) (Kd.R_base ho0) hb);have n1_ := As_ (Kd.R_below (zR_ HO531.out) hb);have n2_ := As_ (Kd.R_lower (Kd.R_new' ho0 (Kd.R_lt (zR_ HO528.out))) (bwZ (zb0 HB.out)));have n3_ := As_ (bwT (zb0 HB.out) hb);clear HO528 HO531 HB;revert n0_ n1_ n2_ n3_;intro HO528 HO531 HO534 HB;obtain ⟨Ao19,co19,eo19⟩ := Kd.R_slice HO534.out;subst eo19)|((with_reducible refine gate_callee (f := 43) rfl ?_);refine goesL_ (some 22) rfl rfl Try.func43 (by kernel_rfl) rfl #[.slice Ao19 t532.length co19] rfl zM_ ?_;(with_reducible refine (impl_IdlePuts.calls k _ _ t532 t535 _ ?side1 ?side2 A7.out).mono ?_);(case side1 => exact zC_ (Kd.R_reads' HO534.out).2.2);(case side2 => exact (Kd.R_reads' HO534.out).2.1);rintro e w20 ⟨v536,rfl,ho0,hb⟩;refine ⟨_,rfl,?_⟩;have n0_ := As_ (Kd.R_below (zR_ HO528.out) hb);have n1_ := As_ (Kd.R_elder' (zR_ HO531.out) (Kd.R_base ho0) hb);have n2_ := As_ (Kd.R_below (zR_ HO534.out) hb);have n3_ := As_ (Kd.R_lower (Kd.R_new' ho0 (Kd.R_lt (zR_ HO531.out))) (bwZ (zb0 HB.out)));have n4_ := As_ (bwT (zb0 HB.out) hb);clear HO528 HO531 HO534 HB;revert n0_ n1_ n2_ n3_ n4_;intro HO528 HO531 HO534 HO537 HB;obtain ⟨Ao21,co21,eo21⟩ := Kd.R_slice HO537.out;subst eo21;obtain ⟨Ao22,co22,eo22⟩ := Kd.R_slice HO531.out;subst eo22)|((with_reducible refine gate_callee (f := 23) rfl ?_);refine goesL_ (some 25) rfl rfl Try.func23 (by kernel_rfl) rfl #[.slice Ao21 t535.length co21,.slice Ao22 t529.length co22] rfl zM_ ?_;(with_reducible refine (laws_eqIntS.calls k _ _ t535 _ _ t529 true _ ?side1 ?side2 ?side3 ?side4 A8.out).mono ?_);(case side1 => exact zC_ (Kd.R_reads' HO537.out).2.2);(case side2 => exact (Kd.R_reads' HO537.out).2.1);(case side3 => exact zC_ (Kd.R_reads' HO531.out).2.2);(case side4 => exact (Kd.R_reads' HO531.out).2.1);rintro e w' ⟨rfl,⟨nd,rfl⟩⟩;refine ⟨_,rfl,?_⟩)|((with_reducible refine gate_callee (f := 17) rfl ?_);refine goesL_ (some 29) rfl rfl Try.func17 (by kernel_rfl) rfl #[.slice A0 l0.length c0] rfl zM_ ?_;(with_reducible refine (laws_toOpS.calls k _ _ l0 t539 _ ?side1 ?side2 A10.out).mono ?_);(case side1 => repeat (first|exact (Kd.C_below HR0.out (zb0 HB.out))|(with_reducible refine Kd.C_alloc ?_ _)|(with_reducible refine Kd.C_drewN ?_ _)|(with_reducible refine Kd.C_drew ?_)));(case side2 => exact HC0.out);rintro e w23 ⟨v540,rfl,ho0,hb⟩;refine ⟨_,rfl,?_⟩;have n0_ := As_ (Kd.R_elder' (zR_ HO528.out) (Kd.R_base ho0) hb);have n1_ := As_ (Kd.R_below (zR_ HO531.out) hb);have n2_ := As_ (Kd.R_elder' (zR_ HO534.out) (Kd.R_base ho0) hb);have n3_ := As_ (Kd.R_below (zR_ HO537.out) hb);have n4_ := As_ (Kd.R_lower (Kd.R_new' (Kd.R_new' ho0 (Kd.R_lt (zR_ HO528.out))) (Kd.R_lt (zR_ HO534.out))) (bwZ (zb0 HB.out)));have n5_ := As_ (bwT (zb0 HB.out) hb);clear HO528 HO531 HO534 HO537 HB;revert n0_ n1_ n2_ n3_ n4_ n5_;intro HO528 HO531 HO534 HO537 HO541 HB;obtain ⟨Ao24,co24,eo24⟩ := Kd.R_slice HO541.out;subst eo24)|((with_reducible refine gate_callee (f := 19) rfl ?_);refine goesL_ (some 30) rfl rfl Try.func19 (by kernel_rfl) rfl #[.slice Ao19 t532.length co19,.slice Ao24 t539.length co24] rfl zM_ ?_;(with_reducible refine (laws_eqOpS.calls k _ _ t532 _ _ t539 true _ ?side1 ?side2 ?side3 ?side4 A11.out).mono ?_);(case side1 => exact zC_ (Kd.R_reads' HO534.out).2.2);(case side2 => exact (Kd.R_reads' HO534.out).2.1);(case side3 => exact zC_ (Kd.R_reads' HO541.out).2.2);(case side4 => exact (Kd.R_reads' HO541.out).2.1);rintro e w25 ⟨rfl,hb⟩;refine ⟨_,rfl,?_⟩;have n0_ := As_ (Kd.R_below (zR_ HO528.out) hb);have n1_ := As_ (Kd.R_below (zR_ HO531.out) hb);have n2_ := As_ (Kd.R_below (zR_ HO534.out) hb);have n3_ := As_ (Kd.R_below (zR_ HO537.out) hb);have n4_ := As_ (Kd.R_below (zR_ HO541.out) hb);have n5_ := As_ (bwT (zb0 HB.out) hb);clear HO528 HO531 HO534 HO537 HO541 HB;revert n0_ n1_ n2_ n3_ n4_ n5_;intro HO528 HO531 HO534 HO537 HO541 HB)|((with_reducible refine gate_callee (f := 34) rfl ?_);refine goesL_ (some 34) rfl rfl Try.func34 (by kernel_rfl) rfl #[.slice Ao19 t532.length co19,.int .i64 1] rfl zM_ ?_;(with_reducible refine (laws_markOpS.calls k (fun k_ => some k_ = (.slice Ao19 t532.length co19 : Value).ownBlock) (.slice Ao19 t532.length co19) t532 1 t543 t544 w _ ?side1 ?side2 A13.out).mono ?_);(case side1 => exact zb0 HB.out);(case side2 => exact Kd.R_tight rfl HO534.out);rintro e w26 ⟨rfl,hy0,hb,hkp⟩;refine ⟨_,rfl,?_⟩;have n0_ := As_ (Kd.R_mono (ok' := fun k_ => some k_ ≠ (.slice Ao19 t532.length co19 : Value).ownBlock ∧ some k_ ≠ (.slice Ao24 t539.length co24 : Value).ownBlock) (Kd.R_keptB (HO528.out) hkp (fun k_ hk_ hs_ => (hk_.1.2) hs_)) (fun k_ hk_ => ⟨hk_.1.1.2,hk_.1.2⟩));have n1_ := As_ (Kd.R_mono (ok' := fun k_ => some k_ ≠ (.slice Ao21 t535.length co21 : Value).ownBlock) (Kd.R_keptB ((Kd.R_apart' HO531.out (Kd.R_typed HO534.out) (by decide))) hkp (fun k_ hk_ hs_ => (hk_.2) hs_)) (fun k_ hk_ => hk_.1.1.2));have n2_ := As_ (Kd.R_reok rfl hy0 (fun k_ e_ => HO534.out.1 k_ e_));have n3_ := As_ (Kd.R_mono (ok' := fun k_ => some k_ ≠ (.slice Ao22 t529.length co22 : Value).ownBlock) (Kd.R_keptB ((Kd.R_apart' HO537.out (Kd.R_typed HO534.out) (by decide))) hkp (fun k_ hk_ hs_ => (hk_.2) hs_)) (fun k_ hk_ => hk_.1.1.2));have n4_ := As_ (Kd.R_mono (ok' := fun k_ => some k_ ≠ (.slice Ao16 t526.length co16 : Value).ownBlock ∧ some k_ ≠ (.slice Ao19 t532.length co19 : Value).ownBlock) (Kd.R_keptB (HO541.out) hkp (fun k_ hk_ hs_ => (hk_.2) hs_)) (fun k_ hk_ => ⟨hk_.1.1.2,hk_.1.2⟩));have n5_ := As_ (hb);clear HO528 HO531 HO534 HO537 HO541 HB;revert n0_ n1_ n2_ n3_ n4_ n5_;intro HO528 HO531 HO534 HO537 HO541 HB))
 (try simp only [Act.put,List.setIfInBounds_toArray,List.set_cons_zero,List.set_cons_succ])
 go_cut [42] (fun v42 wc => ∃ (kq : Nat) (x42_13 : Bool),v42 = .bool x42_13 ∧ Aside0 (laws_FnExactIdlePuts.j0 kq l0 t529 t535 x42_13 = some r) ∧ Aside0 (kq ≤ k) ∧ Aside0 (Kd.R (Kd.int .i64) 3 wc w.heap.size (fun k_ => some k_ ≠ ((.slice Ao21 t535.length co21) : Value).ownBlock) (.slice Ao22 t529.length co22) t529) ∧ Aside0 (Kd.R (Kd.int .i64) 3 wc w.heap.size (fun k_ => some k_ ≠ ((.slice Ao22 t529.length co22) : Value).ownBlock) (.slice Ao21 t535.length co21) t535) ∧ Aside0 (Below w.heap.size w wc))
 case first =>
  have H := HC14.out
  clear HC14
  by_cases c27 : t543 < 0
  ·rw [if_pos c27] at H
   have c27b0 : decide (t543 < 0) = true := deT c27
   clear c27
   (first|rw [c27b0]|(simp only [i64_w,i32_w];rw [c27b0])|skip)
   have H' := As_ H
   clear H
   go_wp2
   go_meet
   case rel => exact ⟨_,(true),zT_,H',⟨by first|omega|exact Nat.le_refl _⟩,⟨by (with_reducible repeat (first|apply Kd.R_alloc|apply Kd.R_drewN|apply Kd.R_drew));exact HO531.out⟩,⟨by (with_reducible repeat (first|apply Kd.R_alloc|apply Kd.R_drewN|apply Kd.R_drew));exact HO537.out⟩,⟨zb0 HB.out⟩⟩
  rw [if_neg c27] at H
  have c27b0 : decide (t543 < 0) = false := deF c27
  clear c27
  (first|rw [c27b0]|(simp only [i64_w,i32_w];rw [c27b0])|skip)
  replace H := obS H
  obtain ⟨t545,A280,H⟩ := H
  replace H : (laws_FnExactIdlePuts.j0 k l0 t529 t535 (!t545)) = some r := H
  have A28 := As_ A280
  clear A280
  have H' := As_ H
  clear H
  go_wp2_with (first|(go_at_call 23;(with_reducible refine (laws_eqIntS.calls k _ _ t535 _ _ t529 t545 _ ?side1 ?side2 ?side3 ?side4 A28.out).mono ?_);(case side1 => exact zC_ (Kd.R_reads' HO537.out).2.2);(case side2 => exact (Kd.R_reads' HO537.out).2.1);(case side3 => exact zC_ (Kd.R_reads' HO531.out).2.2);(case side4 => exact (Kd.R_reads' HO531.out).2.1);rintro e w' ⟨rfl,⟨nd,rfl⟩⟩))
  go_meet
  case rel => exact ⟨_,(!t545),zT_,H',⟨by first|omega|exact Nat.le_refl _⟩,⟨by (with_reducible repeat (first|apply Kd.R_alloc|apply Kd.R_drewN|apply Kd.R_drew));exact HO531.out⟩,⟨by (with_reducible repeat (first|apply Kd.R_alloc|apply Kd.R_drewN|apply Kd.R_drew));exact HO537.out⟩,⟨zb0 HB.out⟩⟩
 case rest =>
  clear HC14
  obtain ⟨kq,x42_13,rfl,HA,HJ13,HO_4,HO_6,HB⟩ := hcut
  cases kq with
  | zero => exact absurd HA.out (fun h_ => (by cases h_))
  | succ kj13 =>
   have H := HA.out
   clear HA
   simp only [laws_FnExactIdlePuts.j0] at H
   by_cases c29 : x42_13 = true
   ·subst c29
    have H1 : (some false) = some r := by rw [if_pos rfl] at H;exact H
    clear H
    have H := H1
    clear H1
    obtain rfl := Option.some.inj H
    go_wp2
    go_ret
    exact ⟨zE_,zb0 HB.out⟩
   replace c29 := Bool.eq_false_iff.mpr c29
   subst c29
   have H1 : ((laws_markIntS.f kj13 t535 1).bind fun bt546 => ((laws_heldIntS.f kj13 bt546.2 1).bind fun t548 => (if t548 < 0 then (some false) else (if t548 = bt546.1 then ((laws_toOpS.f kj13 l0).bind fun t549 => ((impl_IdlePuts.f kj13 t549).bind fun t552 => ((laws_eqIntS.f kj13 t552 t529).bind fun t555 => (if t555 = true then ((laws_heldIntS.f kj13 bt546.2 1).bind fun t556 => (if t556 < 0 then (some false) else (if t556 = bt546.1 then (some true) else (some false)))) else (some false))))) else (some false))))) = some r := by rw [if_neg (show ¬ (false = true) by decide)] at H;exact H
   clear H
   have H := H1
   clear H1
   replace H := obS H
   obtain ⟨⟨t546,t547⟩,A300,H⟩ := H
   replace H : ((laws_heldIntS.f kj13 t547 1).bind fun t548 => (if t548 < 0 then (some false) else (if t548 = t546 then ((laws_toOpS.f kj13 l0).bind fun t549 => ((impl_IdlePuts.f kj13 t549).bind fun t552 => ((laws_eqIntS.f kj13 t552 t529).bind fun t555 => (if t555 = true then ((laws_heldIntS.f kj13 t547 1).bind fun t556 => (if t556 < 0 then (some false) else (if t556 = t546 then (some true) else (some false)))) else (some false))))) else (some false)))) = some r := H
   have A30 := As_ A300
   clear A300
   replace H := obS H
   obtain ⟨t548,A310,H⟩ := H
   replace H : (if t548 < 0 then (some false) else (if t548 = t546 then ((laws_toOpS.f kj13 l0).bind fun t549 => ((impl_IdlePuts.f kj13 t549).bind fun t552 => ((laws_eqIntS.f kj13 t552 t529).bind fun t555 => (if t555 = true then ((laws_heldIntS.f kj13 t547 1).bind fun t556 => (if t556 < 0 then (some false) else (if t556 = t546 then (some true) else (some false)))) else (some false))))) else (some false))) = some r := H
   have A31 := As_ A310
   clear A310
   by_cases c32 : t548 < 0
   ·rw [if_pos c32] at H
    have c32b0 : decide (t548 < 0) = true := deT c32
    clear c32
    obtain rfl := Option.some.inj H
    go_wp2_with (first|((with_reducible refine gate_callee (f := 24) rfl ?_);refine goesL_ (some 45) rfl rfl Try.func24 (by kernel_rfl) rfl #[.slice Ao21 t535.length co21,.int .i64 1] rfl zM_ ?_;(with_reducible refine (laws_markIntS.calls kj13 (fun k_ => some k_ = (.slice Ao21 t535.length co21 : Value).ownBlock) (.slice Ao21 t535.length co21) t535 1 t546 t547 w _ ?side1 ?side2 A30.out).mono ?_);(case side1 => exact zb0 HB.out);(case side2 => exact Kd.R_tight rfl HO_6.out);rintro e w33 ⟨rfl,hy0,hb,hkp⟩;refine ⟨_,rfl,?_⟩;have n0_ := As_ (Kd.R_mono (ok' := fun k_ => some k_ ≠ (.slice Ao21 t535.length co21 : Value).ownBlock) (Kd.R_keptB (HO_4.out) hkp (fun k_ hk_ hs_ => (hk_) hs_)) (fun k_ hk_ => hk_.1));have n1_ := As_ (Kd.R_reok rfl hy0 (fun k_ e_ => HO_6.out.1 k_ e_));have n2_ := As_ (hb);clear HO_4 HO_6 HB;revert n0_ n1_ n2_;intro HO_4 HO_6 HB)|((with_reducible refine gate_callee (f := 25) rfl ?_);refine goesL_ (some 48) rfl rfl Try.func25 (by kernel_rfl) rfl #[.slice Ao21 t547.length co21,.int .i64 1] rfl (by (try simp only [List.map_toArray,List.map_cons,List.map_nil]);first|done|(rw [show t547.length = t535.length from (Kd.R_reads' HO_6.out).1.symm] <;> rfl)|rfl|(simp only [List.length_drop,List.length_take];rfl)) ?_;(with_reducible refine (laws_heldIntS.calls kj13 _ _ t547 1 t548 _ ?side1 ?side2 A31.out).mono ?_);(case side1 => exact zC_ (Kd.R_reads' HO_6.out).2.2);(case side2 => rw [show t547.length = t535.length from (Kd.R_reads' HO_6.out).1.symm];exact (Kd.R_reads' HO_6.out).2.1);rintro e w' ⟨rfl,⟨nd,rfl⟩⟩;refine ⟨_,rfl,?_⟩))
    go_ret
    exact ⟨zE_,zb0 HB.out⟩
   rw [if_neg c32] at H
   have c32b0 : decide (t548 < 0) = false := deF c32
   clear c32
   by_cases c34 : t548 = t546
   rotate_left
   ·rw [if_neg c34] at H
    have c34b0 : (t548 == t546) = false := beq_eq_false_iff_ne.mpr c34
    have c34b1 : (t548 != t546) = true := bne_iff_ne.mpr c34
    obtain rfl := Option.some.inj H
    go_wp2_with (first|((with_reducible refine gate_callee (f := 24) rfl ?_);refine goesL_ (some 45) rfl rfl Try.func24 (by kernel_rfl) rfl #[.slice Ao21 t535.length co21,.int .i64 1] rfl zM_ ?_;(with_reducible refine (laws_markIntS.calls kj13 (fun k_ => some k_ = (.slice Ao21 t535.length co21 : Value).ownBlock) (.slice Ao21 t535.length co21) t535 1 t546 t547 w _ ?side1 ?side2 A30.out).mono ?_);(case side1 => exact zb0 HB.out);(case side2 => exact Kd.R_tight rfl HO_6.out);rintro e w62 ⟨rfl,hy0,hb,hkp⟩;refine ⟨_,rfl,?_⟩;have n0_ := As_ (Kd.R_mono (ok' := fun k_ => some k_ ≠ (.slice Ao21 t535.length co21 : Value).ownBlock) (Kd.R_keptB (HO_4.out) hkp (fun k_ hk_ hs_ => (hk_) hs_)) (fun k_ hk_ => hk_.1));have n1_ := As_ (Kd.R_reok rfl hy0 (fun k_ e_ => HO_6.out.1 k_ e_));have n2_ := As_ (hb);clear HO_4 HO_6 HB;revert n0_ n1_ n2_;intro HO_4 HO_6 HB)|((with_reducible refine gate_callee (f := 25) rfl ?_);refine goesL_ (some 48) rfl rfl Try.func25 (by kernel_rfl) rfl #[.slice Ao21 t547.length co21,.int .i64 1] rfl (by (try simp only [List.map_toArray,List.map_cons,List.map_nil]);first|done|(rw [show t547.length = t535.length from (Kd.R_reads' HO_6.out).1.symm] <;> rfl)|rfl|(simp only [List.length_drop,List.length_take];rfl)) ?_;(with_reducible refine (laws_heldIntS.calls kj13 _ _ t547 1 t548 _ ?side1 ?side2 A31.out).mono ?_);(case side1 => exact zC_ (Kd.R_reads' HO_6.out).2.2);(case side2 => rw [show t547.length = t535.length from (Kd.R_reads' HO_6.out).1.symm];exact (Kd.R_reads' HO_6.out).2.1);rintro e w' ⟨rfl,⟨nd,rfl⟩⟩;refine ⟨_,rfl,?_⟩))
    go_ret
    exact ⟨zE_,zb0 HB.out⟩
   rw [if_pos c34] at H
   have c34b0 : (t548 == t546) = true := beq_iff_eq.mpr c34
   have c34b1 : (t548 != t546) = false := bne_eq_false_iff_eq.mpr c34
   clear c34
   replace H := obS H
   obtain ⟨t549,A350,H⟩ := H
   replace H : ((impl_IdlePuts.f kj13 t549).bind fun t552 => ((laws_eqIntS.f kj13 t552 t529).bind fun t555 => (if t555 = true then ((laws_heldIntS.f kj13 t547 1).bind fun t556 => (if t556 < 0 then (some false) else (if t556 = t546 then (some true) else (some false)))) else (some false)))) = some r := H
   have A35 := As_ A350
   clear A350
   replace H := obS H
   obtain ⟨t552,A360,H⟩ := H
   replace H : ((laws_eqIntS.f kj13 t552 t529).bind fun t555 => (if t555 = true then ((laws_heldIntS.f kj13 t547 1).bind fun t556 => (if t556 < 0 then (some false) else (if t556 = t546 then (some true) else (some false)))) else (some false))) = some r := H
   have A36 := As_ A360
   clear A360
   replace H := obS H
   obtain ⟨t555,A370,H⟩ := H
   replace H : (if t555 = true then ((laws_heldIntS.f kj13 t547 1).bind fun t556 => (if t556 < 0 then (some false) else (if t556 = t546 then (some true) else (some false)))) else (some false)) = some r := H
   have A37 := As_ A370
   clear A370
   by_cases c38 : t555 = true
   rotate_left
   ·replace c38 := Bool.eq_false_iff.mpr c38
    subst c38
    have H1 : (some false) = some r := by rw [if_neg (show ¬ (false = true) by decide)] at H;exact H
    clear H
    have H := H1
    clear H1
    obtain rfl := Option.some.inj H
    go_wp2_with (first|((with_reducible refine gate_callee (f := 24) rfl ?_);refine goesL_ (some 45) rfl rfl Try.func24 (by kernel_rfl) rfl #[.slice Ao21 t535.length co21,.int .i64 1] rfl zM_ ?_;(with_reducible refine (laws_markIntS.calls kj13 (fun k_ => some k_ = (.slice Ao21 t535.length co21 : Value).ownBlock) (.slice Ao21 t535.length co21) t535 1 t546 t547 w _ ?side1 ?side2 A30.out).mono ?_);(case side1 => exact zb0 HB.out);(case side2 => exact Kd.R_tight rfl HO_6.out);rintro e w57 ⟨rfl,hy0,hb,hkp⟩;refine ⟨_,rfl,?_⟩;have n0_ := As_ (Kd.R_mono (ok' := fun k_ => some k_ ≠ (.slice Ao21 t535.length co21 : Value).ownBlock) (Kd.R_keptB (HO_4.out) hkp (fun k_ hk_ hs_ => (hk_) hs_)) (fun k_ hk_ => hk_.1));have n1_ := As_ (Kd.R_reok rfl hy0 (fun k_ e_ => HO_6.out.1 k_ e_));have n2_ := As_ (hb);clear HO_4 HO_6 HB;revert n0_ n1_ n2_;intro HO_4 HO_6 HB)|((with_reducible refine gate_callee (f := 25) rfl ?_);refine goesL_ (some 48) rfl rfl Try.func25 (by kernel_rfl) rfl #[.slice Ao21 t547.length co21,.int .i64 1] rfl (by (try simp only [List.map_toArray,List.map_cons,List.map_nil]);first|done|(rw [show t547.length = t535.length from (Kd.R_reads' HO_6.out).1.symm] <;> rfl)|rfl|(simp only [List.length_drop,List.length_take];rfl)) ?_;(with_reducible refine (laws_heldIntS.calls kj13 _ _ t547 1 t548 _ ?side1 ?side2 A31.out).mono ?_);(case side1 => exact zC_ (Kd.R_reads' HO_6.out).2.2);(case side2 => rw [show t547.length = t535.length from (Kd.R_reads' HO_6.out).1.symm];exact (Kd.R_reads' HO_6.out).2.1);rintro e w' ⟨rfl,⟨nd,rfl⟩⟩;refine ⟨_,rfl,?_⟩)|((with_reducible refine gate_callee (f := 17) rfl ?_);refine goesL_ (some 55) rfl rfl Try.func17 (by kernel_rfl) rfl #[.slice A0 l0.length c0] rfl zM_ ?_;(with_reducible refine (laws_toOpS.calls kj13 _ _ l0 t549 _ ?side1 ?side2 A35.out).mono ?_);(case side1 => repeat (first|exact (Kd.C_below HR0.out (zb0 HB.out))|(with_reducible refine Kd.C_alloc ?_ _)|(with_reducible refine Kd.C_drewN ?_ _)|(with_reducible refine Kd.C_drew ?_)));(case side2 => exact HC0.out);rintro e w58 ⟨v550,rfl,ho0,hb⟩;refine ⟨_,rfl,?_⟩;have n0_ := As_ (Kd.R_below (zR_ HO_4.out) hb);have n1_ := As_ (Kd.R_below (zR_ HO_6.out) hb);have n2_ := As_ (Kd.R_lower ho0 (bwZ (zb0 HB.out)));have n3_ := As_ (bwT (zb0 HB.out) hb);clear HO_4 HO_6 HB;revert n0_ n1_ n2_ n3_;intro HO_4 HO_6 HO551 HB;obtain ⟨Ao59,co59,eo59⟩ := Kd.R_slice HO551.out;subst eo59)|((with_reducible refine gate_callee (f := 43) rfl ?_);refine goesL_ (some 56) rfl rfl Try.func43 (by kernel_rfl) rfl #[.slice Ao59 t549.length co59] rfl zM_ ?_;(with_reducible refine (impl_IdlePuts.calls kj13 _ _ t549 t552 _ ?side1 ?side2 A36.out).mono ?_);(case side1 => exact zC_ (Kd.R_reads' HO551.out).2.2);(case side2 => exact (Kd.R_reads' HO551.out).2.1);rintro e w60 ⟨v553,rfl,ho0,hb⟩;refine ⟨_,rfl,?_⟩;have n0_ := As_ (Kd.R_elder' (zR_ HO_4.out) (Kd.R_base ho0) hb);have n1_ := As_ (Kd.R_elder' (zR_ HO_6.out) (Kd.R_base ho0) hb);have n2_ := As_ (Kd.R_below (zR_ HO551.out) hb);have n3_ := As_ (Kd.R_lower (Kd.R_new' (Kd.R_new' ho0 (Kd.R_lt (zR_ HO_4.out))) (Kd.R_lt (zR_ HO_6.out))) (bwZ (zb0 HB.out)));have n4_ := As_ (bwT (zb0 HB.out) hb);clear HO_4 HO_6 HO551 HB;revert n0_ n1_ n2_ n3_ n4_;intro HO_4 HO_6 HO551 HO554 HB;obtain ⟨Ao61,co61,eo61⟩ := Kd.R_slice HO554.out;subst eo61)|((with_reducible refine gate_callee (f := 23) rfl ?_);refine goesL_ (some 59) rfl rfl Try.func23 (by kernel_rfl) rfl #[.slice Ao61 t552.length co61,.slice Ao22 t529.length co22] rfl zM_ ?_;(with_reducible refine (laws_eqIntS.calls kj13 _ _ t552 _ _ t529 false _ ?side1 ?side2 ?side3 ?side4 A37.out).mono ?_);(case side1 => exact zC_ (Kd.R_reads' HO554.out).2.2);(case side2 => exact (Kd.R_reads' HO554.out).2.1);(case side3 => exact zC_ (Kd.R_reads' HO_4.out).2.2);(case side4 => exact (Kd.R_reads' HO_4.out).2.1);rintro e w' ⟨rfl,⟨nd,rfl⟩⟩;refine ⟨_,rfl,?_⟩))
    go_ret
    exact ⟨zE_,zb0 HB.out⟩
   subst c38
   have H1 : ((laws_heldIntS.f kj13 t547 1).bind fun t556 => (if t556 < 0 then (some false) else (if t556 = t546 then (some true) else (some false)))) = some r := by rw [if_pos rfl] at H;exact H
   clear H
   have H := H1
   clear H1
   replace H := obS H
   obtain ⟨t556,A390,H⟩ := H
   replace H : (if t556 < 0 then (some false) else (if t556 = t546 then (some true) else (some false))) = some r := H
   have A39 := As_ A390
   clear A390
   by_cases c40 : t556 < 0
   ·rw [if_pos c40] at H
    have c40b0 : decide (t556 < 0) = true := deT c40
    clear c40
    obtain rfl := Option.some.inj H
    go_wp2_with (first|((with_reducible refine gate_callee (f := 24) rfl ?_);refine goesL_ (some 45) rfl rfl Try.func24 (by kernel_rfl) rfl #[.slice Ao21 t535.length co21,.int .i64 1] rfl zM_ ?_;(with_reducible refine (laws_markIntS.calls kj13 (fun k_ => some k_ = (.slice Ao21 t535.length co21 : Value).ownBlock) (.slice Ao21 t535.length co21) t535 1 t546 t547 w _ ?side1 ?side2 A30.out).mono ?_);(case side1 => exact zb0 HB.out);(case side2 => exact Kd.R_tight rfl HO_6.out);rintro e w41 ⟨rfl,hy0,hb,hkp⟩;refine ⟨_,rfl,?_⟩;have n0_ := As_ (Kd.R_mono (ok' := fun k_ => some k_ ≠ (.slice Ao21 t535.length co21 : Value).ownBlock) (Kd.R_keptB (HO_4.out) hkp (fun k_ hk_ hs_ => (hk_) hs_)) (fun k_ hk_ => hk_.1));have n1_ := As_ (Kd.R_reok rfl hy0 (fun k_ e_ => HO_6.out.1 k_ e_));have n2_ := As_ (hb);clear HO_4 HO_6 HB;revert n0_ n1_ n2_;intro HO_4 HO_6 HB)|((with_reducible refine gate_callee (f := 25) rfl ?_);refine goesL_ (some 48) rfl rfl Try.func25 (by kernel_rfl) rfl #[.slice Ao21 t547.length co21,.int .i64 1] rfl (by (try simp only [List.map_toArray,List.map_cons,List.map_nil]);first|done|(rw [show t547.length = t535.length from (Kd.R_reads' HO_6.out).1.symm] <;> rfl)|rfl|(simp only [List.length_drop,List.length_take];rfl)) ?_;(with_reducible refine (laws_heldIntS.calls kj13 _ _ t547 1 t548 _ ?side1 ?side2 A31.out).mono ?_);(case side1 => exact zC_ (Kd.R_reads' HO_6.out).2.2);(case side2 => rw [show t547.length = t535.length from (Kd.R_reads' HO_6.out).1.symm];exact (Kd.R_reads' HO_6.out).2.1);rintro e w' ⟨rfl,⟨nd,rfl⟩⟩;refine ⟨_,rfl,?_⟩)|((with_reducible refine gate_callee (f := 17) rfl ?_);refine goesL_ (some 55) rfl rfl Try.func17 (by kernel_rfl) rfl #[.slice A0 l0.length c0] rfl zM_ ?_;(with_reducible refine (laws_toOpS.calls kj13 _ _ l0 t549 _ ?side1 ?side2 A35.out).mono ?_);(case side1 => repeat (first|exact (Kd.C_below HR0.out (zb0 HB.out))|(with_reducible refine Kd.C_alloc ?_ _)|(with_reducible refine Kd.C_drewN ?_ _)|(with_reducible refine Kd.C_drew ?_)));(case side2 => exact HC0.out);rintro e w42 ⟨v550,rfl,ho0,hb⟩;refine ⟨_,rfl,?_⟩;have n0_ := As_ (Kd.R_below (zR_ HO_4.out) hb);have n1_ := As_ (Kd.R_below (zR_ HO_6.out) hb);have n2_ := As_ (Kd.R_lower ho0 (bwZ (zb0 HB.out)));have n3_ := As_ (bwT (zb0 HB.out) hb);clear HO_4 HO_6 HB;revert n0_ n1_ n2_ n3_;intro HO_4 HO_6 HO551 HB;obtain ⟨Ao43,co43,eo43⟩ := Kd.R_slice HO551.out;subst eo43)|((with_reducible refine gate_callee (f := 43) rfl ?_);refine goesL_ (some 56) rfl rfl Try.func43 (by kernel_rfl) rfl #[.slice Ao43 t549.length co43] rfl zM_ ?_;(with_reducible refine (impl_IdlePuts.calls kj13 _ _ t549 t552 _ ?side1 ?side2 A36.out).mono ?_);(case side1 => exact zC_ (Kd.R_reads' HO551.out).2.2);(case side2 => exact (Kd.R_reads' HO551.out).2.1);rintro e w44 ⟨v553,rfl,ho0,hb⟩;refine ⟨_,rfl,?_⟩;have n0_ := As_ (Kd.R_elder' (zR_ HO_4.out) (Kd.R_base ho0) hb);have n1_ := As_ (Kd.R_elder' (zR_ HO_6.out) (Kd.R_base ho0) hb);have n2_ := As_ (Kd.R_below (zR_ HO551.out) hb);have n3_ := As_ (Kd.R_lower (Kd.R_new' (Kd.R_new' ho0 (Kd.R_lt (zR_ HO_4.out))) (Kd.R_lt (zR_ HO_6.out))) (bwZ (zb0 HB.out)));have n4_ := As_ (bwT (zb0 HB.out) hb);clear HO_4 HO_6 HO551 HB;revert n0_ n1_ n2_ n3_ n4_;intro HO_4 HO_6 HO551 HO554 HB;obtain ⟨Ao45,co45,eo45⟩ := Kd.R_slice HO554.out;subst eo45)|((with_reducible refine gate_callee (f := 23) rfl ?_);refine goesL_ (some 59) rfl rfl Try.func23 (by kernel_rfl) rfl #[.slice Ao45 t552.length co45,.slice Ao22 t529.length co22] rfl zM_ ?_;(with_reducible refine (laws_eqIntS.calls kj13 _ _ t552 _ _ t529 true _ ?side1 ?side2 ?side3 ?side4 A37.out).mono ?_);(case side1 => exact zC_ (Kd.R_reads' HO554.out).2.2);(case side2 => exact (Kd.R_reads' HO554.out).2.1);(case side3 => exact zC_ (Kd.R_reads' HO_4.out).2.2);(case side4 => exact (Kd.R_reads' HO_4.out).2.1);rintro e w' ⟨rfl,⟨nd,rfl⟩⟩;refine ⟨_,rfl,?_⟩)|((with_reducible refine gate_callee (f := 25) rfl ?_);refine goesL_ (some 63) rfl rfl Try.func25 (by kernel_rfl) rfl #[.slice Ao21 t547.length co21,.int .i64 1] rfl (by (try simp only [List.map_toArray,List.map_cons,List.map_nil]);first|done|(rw [show t547.length = t535.length from (Kd.R_reads' HO_6.out).1.symm] <;> rfl)|rfl|(simp only [List.length_drop,List.length_take];rfl)) ?_;(with_reducible refine (laws_heldIntS.calls kj13 _ _ t547 1 t556 _ ?side1 ?side2 A39.out).mono ?_);(case side1 => exact zC_ (Kd.R_reads' HO_6.out).2.2);(case side2 => rw [show t547.length = t535.length from (Kd.R_reads' HO_6.out).1.symm];exact (Kd.R_reads' HO_6.out).2.1);rintro e w' ⟨rfl,⟨nd,rfl⟩⟩;refine ⟨_,rfl,?_⟩))
    go_ret
    exact ⟨zE_,zb0 HB.out⟩
   rw [if_neg c40] at H
   have c40b0 : decide (t556 < 0) = false := deF c40
   clear c40
   by_cases c46 : t556 = t546
   rotate_left
   ·rw [if_neg c46] at H
    have c46b0 : (t556 == t546) = false := beq_eq_false_iff_ne.mpr c46
    have c46b1 : (t556 != t546) = true := bne_iff_ne.mpr c46
    obtain rfl := Option.some.inj H
    go_wp2_with (first|((with_reducible refine gate_callee (f := 24) rfl ?_);refine goesL_ (some 45) rfl rfl Try.func24 (by kernel_rfl) rfl #[.slice Ao21 t535.length co21,.int .i64 1] rfl zM_ ?_;(with_reducible refine (laws_markIntS.calls kj13 (fun k_ => some k_ = (.slice Ao21 t535.length co21 : Value).ownBlock) (.slice Ao21 t535.length co21) t535 1 t546 t547 w _ ?side1 ?side2 A30.out).mono ?_);(case side1 => exact zb0 HB.out);(case side2 => exact Kd.R_tight rfl HO_6.out);rintro e w52 ⟨rfl,hy0,hb,hkp⟩;refine ⟨_,rfl,?_⟩;have n0_ := As_ (Kd.R_mono (ok' := fun k_ => some k_ ≠ (.slice Ao21 t535.length co21 : Value).ownBlock) (Kd.R_keptB (HO_4.out) hkp (fun k_ hk_ hs_ => (hk_) hs_)) (fun k_ hk_ => hk_.1));have n1_ := As_ (Kd.R_reok rfl hy0 (fun k_ e_ => HO_6.out.1 k_ e_));have n2_ := As_ (hb);clear HO_4 HO_6 HB;revert n0_ n1_ n2_;intro HO_4 HO_6 HB)|((with_reducible refine gate_callee (f := 25) rfl ?_);refine goesL_ (some 48) rfl rfl Try.func25 (by kernel_rfl) rfl #[.slice Ao21 t547.length co21,.int .i64 1] rfl (by (try simp only [List.map_toArray,List.map_cons,List.map_nil]);first|done|(rw [show t547.length = t535.length from (Kd.R_reads' HO_6.out).1.symm] <;> rfl)|rfl|(simp only [List.length_drop,List.length_take];rfl)) ?_;(with_reducible refine (laws_heldIntS.calls kj13 _ _ t547 1 t548 _ ?side1 ?side2 A31.out).mono ?_);(case side1 => exact zC_ (Kd.R_reads' HO_6.out).2.2);(case side2 => rw [show t547.length = t535.length from (Kd.R_reads' HO_6.out).1.symm];exact (Kd.R_reads' HO_6.out).2.1);rintro e w' ⟨rfl,⟨nd,rfl⟩⟩;refine ⟨_,rfl,?_⟩)|((with_reducible refine gate_callee (f := 17) rfl ?_);refine goesL_ (some 55) rfl rfl Try.func17 (by kernel_rfl) rfl #[.slice A0 l0.length c0] rfl zM_ ?_;(with_reducible refine (laws_toOpS.calls kj13 _ _ l0 t549 _ ?side1 ?side2 A35.out).mono ?_);(case side1 => repeat (first|exact (Kd.C_below HR0.out (zb0 HB.out))|(with_reducible refine Kd.C_alloc ?_ _)|(with_reducible refine Kd.C_drewN ?_ _)|(with_reducible refine Kd.C_drew ?_)));(case side2 => exact HC0.out);rintro e w53 ⟨v550,rfl,ho0,hb⟩;refine ⟨_,rfl,?_⟩;have n0_ := As_ (Kd.R_below (zR_ HO_4.out) hb);have n1_ := As_ (Kd.R_below (zR_ HO_6.out) hb);have n2_ := As_ (Kd.R_lower ho0 (bwZ (zb0 HB.out)));have n3_ := As_ (bwT (zb0 HB.out) hb);clear HO_4 HO_6 HB;revert n0_ n1_ n2_ n3_;intro HO_4 HO_6 HO551 HB;obtain ⟨Ao54,co54,eo54⟩ := Kd.R_slice HO551.out;subst eo54)|((with_reducible refine gate_callee (f := 43) rfl ?_);refine goesL_ (some 56) rfl rfl Try.func43 (by kernel_rfl) rfl #[.slice Ao54 t549.length co54] rfl zM_ ?_;(with_reducible refine (impl_IdlePuts.calls kj13 _ _ t549 t552 _ ?side1 ?side2 A36.out).mono ?_);(case side1 => exact zC_ (Kd.R_reads' HO551.out).2.2);(case side2 => exact (Kd.R_reads' HO551.out).2.1);rintro e w55 ⟨v553,rfl,ho0,hb⟩;refine ⟨_,rfl,?_⟩;have n0_ := As_ (Kd.R_elder' (zR_ HO_4.out) (Kd.R_base ho0) hb);have n1_ := As_ (Kd.R_elder' (zR_ HO_6.out) (Kd.R_base ho0) hb);have n2_ := As_ (Kd.R_below (zR_ HO551.out) hb);have n3_ := As_ (Kd.R_lower (Kd.R_new' (Kd.R_new' ho0 (Kd.R_lt (zR_ HO_4.out))) (Kd.R_lt (zR_ HO_6.out))) (bwZ (zb0 HB.out)));have n4_ := As_ (bwT (zb0 HB.out) hb);clear HO_4 HO_6 HO551 HB;revert n0_ n1_ n2_ n3_ n4_;intro HO_4 HO_6 HO551 HO554 HB;obtain ⟨Ao56,co56,eo56⟩ := Kd.R_slice HO554.out;subst eo56)|((with_reducible refine gate_callee (f := 23) rfl ?_);refine goesL_ (some 59) rfl rfl Try.func23 (by kernel_rfl) rfl #[.slice Ao56 t552.length co56,.slice Ao22 t529.length co22] rfl zM_ ?_;(with_reducible refine (laws_eqIntS.calls kj13 _ _ t552 _ _ t529 true _ ?side1 ?side2 ?side3 ?side4 A37.out).mono ?_);(case side1 => exact zC_ (Kd.R_reads' HO554.out).2.2);(case side2 => exact (Kd.R_reads' HO554.out).2.1);(case side3 => exact zC_ (Kd.R_reads' HO_4.out).2.2);(case side4 => exact (Kd.R_reads' HO_4.out).2.1);rintro e w' ⟨rfl,⟨nd,rfl⟩⟩;refine ⟨_,rfl,?_⟩)|((with_reducible refine gate_callee (f := 25) rfl ?_);refine goesL_ (some 63) rfl rfl Try.func25 (by kernel_rfl) rfl #[.slice Ao21 t547.length co21,.int .i64 1] rfl (by (try simp only [List.map_toArray,List.map_cons,List.map_nil]);first|done|(rw [show t547.length = t535.length from (Kd.R_reads' HO_6.out).1.symm] <;> rfl)|rfl|(simp only [List.length_drop,List.length_take];rfl)) ?_;(with_reducible refine (laws_heldIntS.calls kj13 _ _ t547 1 t556 _ ?side1 ?side2 A39.out).mono ?_);(case side1 => exact zC_ (Kd.R_reads' HO_6.out).2.2);(case side2 => rw [show t547.length = t535.length from (Kd.R_reads' HO_6.out).1.symm];exact (Kd.R_reads' HO_6.out).2.1);rintro e w' ⟨rfl,⟨nd,rfl⟩⟩;refine ⟨_,rfl,?_⟩))
    go_ret
    exact ⟨zE_,zb0 HB.out⟩
   rw [if_pos c46] at H
   have c46b0 : (t556 == t546) = true := beq_iff_eq.mpr c46
   have c46b1 : (t556 != t546) = false := bne_eq_false_iff_eq.mpr c46
   clear c46
   obtain rfl := Option.some.inj H
   go_wp2_with (first|((with_reducible refine gate_callee (f := 24) rfl ?_);refine goesL_ (some 45) rfl rfl Try.func24 (by kernel_rfl) rfl #[.slice Ao21 t535.length co21,.int .i64 1] rfl zM_ ?_;(with_reducible refine (laws_markIntS.calls kj13 (fun k_ => some k_ = (.slice Ao21 t535.length co21 : Value).ownBlock) (.slice Ao21 t535.length co21) t535 1 t546 t547 w _ ?side1 ?side2 A30.out).mono ?_);(case side1 => exact zb0 HB.out);(case side2 => exact Kd.R_tight rfl HO_6.out);rintro e w47 ⟨rfl,hy0,hb,hkp⟩;refine ⟨_,rfl,?_⟩;have n0_ := As_ (Kd.R_mono (ok' := fun k_ => some k_ ≠ (.slice Ao21 t535.length co21 : Value).ownBlock) (Kd.R_keptB (HO_4.out) hkp (fun k_ hk_ hs_ => (hk_) hs_)) (fun k_ hk_ => hk_.1));have n1_ := As_ (Kd.R_reok rfl hy0 (fun k_ e_ => HO_6.out.1 k_ e_));have n2_ := As_ (hb);clear HO_4 HO_6 HB;revert n0_ n1_ n2_;intro HO_4 HO_6 HB)|((with_reducible refine gate_callee (f := 25) rfl ?_);refine goesL_ (some 48) rfl rfl Try.func25 (by kernel_rfl) rfl #[.slice Ao21 t547.length co21,.int .i64 1] rfl (by (try simp only [List.map_toArray,List.map_cons,List.map_nil]);first|done|(rw [show t547.length = t535.length from (Kd.R_reads' HO_6.out).1.symm] <;> rfl)|rfl|(simp only [List.length_drop,List.length_take];rfl)) ?_;(with_reducible refine (laws_heldIntS.calls kj13 _ _ t547 1 t548 _ ?side1 ?side2 A31.out).mono ?_);(case side1 => exact zC_ (Kd.R_reads' HO_6.out).2.2);(case side2 => rw [show t547.length = t535.length from (Kd.R_reads' HO_6.out).1.symm];exact (Kd.R_reads' HO_6.out).2.1);rintro e w' ⟨rfl,⟨nd,rfl⟩⟩;refine ⟨_,rfl,?_⟩)|((with_reducible refine gate_callee (f := 17) rfl ?_);refine goesL_ (some 55) rfl rfl Try.func17 (by kernel_rfl) rfl #[.slice A0 l0.length c0] rfl zM_ ?_;(with_reducible refine (laws_toOpS.calls kj13 _ _ l0 t549 _ ?side1 ?side2 A35.out).mono ?_);(case side1 => repeat (first|exact (Kd.C_below HR0.out (zb0 HB.out))|(with_reducible refine Kd.C_alloc ?_ _)|(with_reducible refine Kd.C_drewN ?_ _)|(with_reducible refine Kd.C_drew ?_)));(case side2 => exact HC0.out);rintro e w48 ⟨v550,rfl,ho0,hb⟩;refine ⟨_,rfl,?_⟩;have n0_ := As_ (Kd.R_below (zR_ HO_4.out) hb);have n1_ := As_ (Kd.R_below (zR_ HO_6.out) hb);have n2_ := As_ (Kd.R_lower ho0 (bwZ (zb0 HB.out)));have n3_ := As_ (bwT (zb0 HB.out) hb);clear HO_4 HO_6 HB;revert n0_ n1_ n2_ n3_;intro HO_4 HO_6 HO551 HB;obtain ⟨Ao49,co49,eo49⟩ := Kd.R_slice HO551.out;subst eo49)|((with_reducible refine gate_callee (f := 43) rfl ?_);refine goesL_ (some 56) rfl rfl Try.func43 (by kernel_rfl) rfl #[.slice Ao49 t549.length co49] rfl zM_ ?_;(with_reducible refine (impl_IdlePuts.calls kj13 _ _ t549 t552 _ ?side1 ?side2 A36.out).mono ?_);(case side1 => exact zC_ (Kd.R_reads' HO551.out).2.2);(case side2 => exact (Kd.R_reads' HO551.out).2.1);rintro e w50 ⟨v553,rfl,ho0,hb⟩;refine ⟨_,rfl,?_⟩;have n0_ := As_ (Kd.R_elder' (zR_ HO_4.out) (Kd.R_base ho0) hb);have n1_ := As_ (Kd.R_elder' (zR_ HO_6.out) (Kd.R_base ho0) hb);have n2_ := As_ (Kd.R_below (zR_ HO551.out) hb);have n3_ := As_ (Kd.R_lower (Kd.R_new' (Kd.R_new' ho0 (Kd.R_lt (zR_ HO_4.out))) (Kd.R_lt (zR_ HO_6.out))) (bwZ (zb0 HB.out)));have n4_ := As_ (bwT (zb0 HB.out) hb);clear HO_4 HO_6 HO551 HB;revert n0_ n1_ n2_ n3_ n4_;intro HO_4 HO_6 HO551 HO554 HB;obtain ⟨Ao51,co51,eo51⟩ := Kd.R_slice HO554.out;subst eo51)|((with_reducible refine gate_callee (f := 23) rfl ?_);refine goesL_ (some 59) rfl rfl Try.func23 (by kernel_rfl) rfl #[.slice Ao51 t552.length co51,.slice Ao22 t529.length co22] rfl zM_ ?_;(with_reducible refine (laws_eqIntS.calls kj13 _ _ t552 _ _ t529 true _ ?side1 ?side2 ?side3 ?side4 A37.out).mono ?_);(case side1 => exact zC_ (Kd.R_reads' HO554.out).2.2);(case side2 => exact (Kd.R_reads' HO554.out).2.1);(case side3 => exact zC_ (Kd.R_reads' HO_4.out).2.2);(case side4 => exact (Kd.R_reads' HO_4.out).2.1);rintro e w' ⟨rfl,⟨nd,rfl⟩⟩;refine ⟨_,rfl,?_⟩)|((with_reducible refine gate_callee (f := 25) rfl ?_);refine goesL_ (some 63) rfl rfl Try.func25 (by kernel_rfl) rfl #[.slice Ao21 t547.length co21,.int .i64 1] rfl (by (try simp only [List.map_toArray,List.map_cons,List.map_nil]);first|done|(rw [show t547.length = t535.length from (Kd.R_reads' HO_6.out).1.symm] <;> rfl)|rfl|(simp only [List.length_drop,List.length_take];rfl)) ?_;(with_reducible refine (laws_heldIntS.calls kj13 _ _ t547 1 t556 _ ?side1 ?side2 A39.out).mono ?_);(case side1 => exact zC_ (Kd.R_reads' HO_6.out).2.2);(case side2 => rw [show t547.length = t535.length from (Kd.R_reads' HO_6.out).1.symm];exact (Kd.R_reads' HO_6.out).2.1);rintro e w' ⟨rfl,⟨nd,rfl⟩⟩;refine ⟨_,rfl,?_⟩))
   go_ret
   exact ⟨zE_,zb0 HB.out⟩
/-- THE ONE PURE STATEMENT of laws_FnExactIdlePuts. -/
def laws_FnExactIdlePuts.Pure : Prop := ∀ (l0 : List (S51)),(l0.length ≤ maxLen ∧ (∀ x_ ∈ l0,(Lit.int .i64 x_.f0).wf = true ∧ (Lit.int .i64 x_.f1).wf = true)) → ∃ k,laws_FnExactIdlePuts.f k l0 = some true
theorem laws_FnExactIdlePuts.walk (P : laws_FnExactIdlePuts.Pure) (A0 : Option Addr) (c0 : Nat) (l0 : List (S51)) (w : World) (hr0 : Kd.C k51 w A0 l0.length l0) (hc0 : l0.length ≤ c0) (hg0 : l0.length ≤ maxLen ∧ (∀ x_ ∈ l0,(Lit.int .i64 x_.f0).wf = true ∧ (Lit.int .i64 x_.f1).wf = true)) :
  Calls Try.prog 11 #[.slice A0 l0.length c0] w fun e w' => e = .returned (.bool true) ∧ Below w.heap.size w w' := by
 obtain ⟨k,h⟩ := P l0 hg0
 refine (laws_FnExactIdlePuts.calls k _ _ l0 true w hr0 hc0 h).mono ?_
 rintro e w' ⟨rfl,hd⟩
 exact ⟨rfl,hd⟩

end Go.Proofs.Ytonppkaobnfldaa.Q
